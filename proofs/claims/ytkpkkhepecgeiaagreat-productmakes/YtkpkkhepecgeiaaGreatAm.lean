/- ProductMakes returns true whatever its arguments are: part 13 of 14. No condition. -/
import Derived.Test.YtkpkkhepecgeiaaGreatAl
import Derived.Test.YtkpkkhepecgeiaaGreatAk
import Derived.Test.YtkpkkhepecgeiaaGreatAh
set_option linter.all false
set_option maxRecDepth 8000
set_option maxHeartbeats 9000000
set_option autoImplicit true
set_option relaxedAutoImplicit true
namespace Go.Fx
open Go.Proofs.Tryz
open List renaming length->ae,getD->af,replicate->aA,eraseIdx->aB,range->aC
open Inhabited renaming default->ah
open Option renaming some->ak,none->an
open Bool renaming true->aq,false->ar
open Go.IntKind renaming wrap->au
open Int renaming natAbs->ay,toNat->az
structure VA0 (a:Au) (m:Nat):Prop where
 bA:a.bA=m
 m4:m<=4
 l1:1<=a.aJ.length
 uH:a.aJ.length<=12
 Hu:a.aN.length<=40
 i12:a.init.length<=12
 loc:∀x,x∈a.aJ->(mT m x.inv.l=true/\x.inv.n=m)/\(mT m x.dy.l=true/\x.dy.n=m)/\kL m x.dy.l=true
 jmp:∀x,x∈a.aN->(0<=x.cI/\x.cI < a.aJ.length/\0<=x.to/\x.to < a.aJ.length/\0<=x.label/\x.label<=20)/\(mT m x.guard.l=true/\x.guard.n=m)/\(x.cO.length=m/\∀y,y∈x.cO->kD m y=true)
 A7:∀z,z∈a.init->(0<=z.loc/\z.loc < a.aJ.length)/\mT m z.set.l=true/\z.set.n=m
def qQ (h:fu a=aq):VA0 a (az a.bA):=by
 unfold fu F6 at h;simp only[ah2,aiU,ah4] at h;have ⟨⟨b,c,f,g,i,j⟩,w,z,y⟩:=h;have e:a.bA=(az a.bA:Int):=aD;rw[e] at w z y;generalize az a.bA=m at *;rw[e] at b c;refine ⟨e,aD,f,g,i,j,fun x k=>?_,fun x k=>?_,fun x k=>?_⟩
 .have:=w x k;simp only[vq,ah2,tU,ah9] at this;exact this
 .have:=z x k;simp only[tT,ah2,tU,aiU,ah4] at this;exact ⟨this.1,this.2.1,cn this.2.2.1,this.2.2.2⟩
 .have:=y x k;simp only[vu,ah2,tU,aiU] at this;exact this
def VA0.fu (h:VA0 a m):fu a=aq:=by
 unfold Go.Fx.fu F6;simp only[ah2,aiU,ah4];rw[h.bA];refine ⟨⟨aD,cn h.m4,h.l1,h.uH,h.Hu,h.i12⟩,fun x k=>?_,fun x k=>?_,fun x k=>?_⟩
 .have:=h.loc x k;simp only[vq,ah2,tU,ah9];exact this
 .have:=h.jmp x k;simp only[tT,ah2,tU,aiU,ah4];exact ⟨this.1,this.2.1,by rw[this.2.2.1],this.2.2.2⟩
 .have:=h.A7 x k;simp only[vu,ah2,tU,aiU];exact this
def Gr {α:Type} {f:Nat->List α} {B:Nat} (h:∀i,ae (f i)<=B):∀n,ae ((aC n).flatMap f)<=n*B
 | 0=>aO
 | n+1=>by have:=Gr h n;rw[lD,ain,anv];have:=h n;omega
def FA (h:VA0 a m) (x:VA0 b k) (l:List Int):ae (cz a b l)<=2560:=by have al:=h.uH;have bl:=x.uH;have aj:=h.Hu;have y:=x.Hu;have z:=Gr (f:=qJ a b l) (B:=12) (fun i=>by unfold qJ jA;split<;>simp;omega) (ae a.aN);have w:=Gr (f:=qK a b l) (B:=12) (fun i=>by unfold qK jB;split<;>simp;omega) (ae b.aN);have c:=Gr (f:=oW a b l) (B:=40) (fun i=>by unfold oW kt;rw[ah3];exact aiJ (alg _ _) bW) (ae a.aN);unfold cz;rw[ain,ain];omega
structure yY (a:Au) (n:Nat):Prop where
 loc:∀x,x∈a.aJ->x.inv.l.length<=n/\x.dy.l.length<=n
 jmp:∀x,x∈a.aN->x.guard.l.length<=n
 A7:∀z,z∈a.init->z.set.l.length<=n
def Jf (h:x∈cz a b l) :
  (∃i k,i < ae a.aN/\k < ae b.aJ/\x=yz a b i k)\/(∃k i,k < ae b.aN/\i < ae a.aJ/\x=yA b k i) \/
  (∃i k,i < ae a.aN/\k < ae b.aN/\(af a.aN i ah).label=(af b.aN k ah).label/\x=yB a b i k):=by
 unfold cz qJ qK oW jA jB kt at h;simp only[aiE,akT,ajv] at h;rcases h with (⟨i,y,h⟩ | ⟨k,z,h⟩) | ⟨i,y,h⟩
 .left;split at h
  .simp at h
  .simp only[aiw,ajv] at h;obtain ⟨k,z,rfl⟩:=h;exact ⟨i,k,y,z,rfl⟩
 .right;left;split at h
  .simp at h
  .simp only[aiw,ajv] at h;obtain ⟨i,y,rfl⟩:=h;exact ⟨k,i,z,y,rfl⟩
 .right;right;simp only[aiw,ajb,ajv,A8,ah2,aiU] at h;obtain ⟨k,⟨z,_,w⟩,rfl⟩:=h;exact ⟨i,k,y,z,w,rfl⟩
def uG:As:=⟨0,⟨[],0⟩,0⟩
def Vt (m k:Nat) (x:Jp) (f t:Int):Jp:=⟨f,t,x.label,x.guard.both ⟨k,[]⟩,x.cO.map (As.wide 0 k)++aA k uG⟩
def Vu (m k:Nat) (y:Jp) (f t:Int):Jp:=⟨f,t,y.label,Pl.both ⟨m,[]⟩ y.guard,aA m uG++y.cO.map (As.wide m 0)⟩
def Vv (m k:Nat) (x y:Jp) (f t:Int):Jp:=⟨f,t,x.label,x.guard.both y.guard,x.cO.map (As.wide 0 k)++y.cO.map (As.wide m 0)⟩
def n7 (a b:Au) (m k:Nat) (x:Lp):Jp :=
 if x.k < 0 then Vt m k (lE a x.i) x.cI x.to else if x.i < 0 then Vu m k (lE b x.k) x.cI x.to else Vv m k (lE a x.i) (lE b x.k) x.cI x.to
def DR (x y:Lc):Lc:=⟨x.inv.both y.inv,x.dy.both y.dy⟩
def Ad (b:Au) (x y:Zn):Zn:=⟨x.loc*(ae b.aJ:Int)+y.loc,x.set.both y.set⟩
def jd (a b:Au) (m k:Nat) (l:List Int):Au :=
 ⟨(m:Int)+k,a.aJ.flatMap fun x=>b.aJ.map (DR x),(cz a b l).map (n7 a b m k),a.init.flatMap fun x=>b.init.map (Ad b x)⟩
def GH {n:Nat} {l:List As} {b a:Nat} (h:∀y,y∈l->kD n y=aq) (k:b+n+a<=8):l.map (As.put fun f=>f.wide b a)=l.map (As.wide b a) :=
 ajh fun y x=>(P0 (h y x) rfl k).2
def DI (n b a:Nat):(aA n (⟨0,⟨[],0⟩,0⟩:As)).map (As.put fun f=>f.wide b a)=aA n uG:=by rw[ajT];rfl
def py {a:Au} {i:Nat} (h:i < ae a.aN):af a.aN i ah∈a.aN:=bS h
def XF (g:VA0 a m) (n:VA0 b k) (q:m+k<=8) (h:x∈cz a b l):n7 a b m k x=eC a b m k x:=by
 rcases Jf h with ⟨i,j,w,c,rfl⟩ | ⟨j,i,c,w,rfl⟩ | ⟨i,j,w,c,p,rfl⟩
 .have A:=g.jmp _ (py w);have e:¬(0:Int) <= -1:=aR;have y:(0:Int)<=(i:Int):=aD;have z:(-1:Int) < 0:=aR;unfold n7 eC rz yz Vt;simp only[e,y,z,ajs,ajO,lE,ah9];rw[pB A.2.1.2 rfl,GH A.2.2.2 aD,DI]
 .have B:=n.jmp _ (py c);have e:¬(0:Int) <= -1:=aR;have y:(0:Int)<=(j:Int):=aD;have z:(-1:Int) < 0:=aR;have f:¬(j:Int) < 0:=aD;unfold n7 eC rz yA Vu;simp only[e,y,z,f,ajs,ajO,lE,ah9];rw[pB (m:=m) rfl B.2.1.2,GH B.2.2.2 aD,DI]
 .have A:=g.jmp _ (py w);have B:=n.jmp _ (py c);have y:(0:Int)<=(j:Int):=aD;have z:(0:Int)<=(i:Int):=aD;have f:¬(j:Int) < 0:=aD;have o:¬(i:Int) < 0:=aD;unfold n7 eC rz yB Vv;simp only[y,z,f,o,ajs,ajO,lE,ah9];rw[pB A.2.1.2 B.2.1.2,GH A.2.2.2 aD,GH B.2.2.2 aD,p]
def M1 {α β:Type} {l:List α} {f g:α->List β} (h:∀x,x∈l->f x=g x):l.flatMap f=l.flatMap g:=by
 induction l with
 | nil=>rfl
 | cons x w z=>rw[ake,ake,h x aO,z (fun y k=>h y (by simp[k]))]
def Rq (z:VA0 a m) (w:VA0 b k) (e:m+k<=8) (l:List Int):jd a b m k l=eT a b m k l:=by
 unfold jd eT mh iE;congr 1
 .refine M1 fun x h=>ajh fun y c=>?_;have A:=z.loc x h;have B:=w.loc y c;unfold DR;rw[pB A.1.2 B.1.2,pB A.2.1.2 B.2.1.2]
 .exact ajh fun x h=>XF z w e h
 .refine M1 fun x h=>ajh fun y c=>?_;have A:=z.A7 x h;have B:=w.A7 y c;unfold Ad;rw[pB A.2.2 B.2.2]
def KA {n:Nat} {l:List Cd} (h:mT n l=aq):∀c,c∈l->ae c.f.c=n:=fun c k=>by have:=(GF.1 ((rm.1 h).2 c k)).1;omega
def CU {i j p q:Int} (h:0<=i) (x:i < p) (y:0<=j) (z:j < q):0<=i*q+j/\i*q+j < p*q:=by have w:0<=i*q:=ajw h aD;have k:(i+1)*q<=p*q:=aik aD aD;rw[ajB,aj2] at k;omega
def pF (a b:Au) (m k:Nat):ae (mh a b m k)=ae a.aJ*ae b.aJ:=by
 unfold mh
 induction a.aJ with
 | nil=>simp
 | cons x y h=>rw[ake,ain,h,ah3,aiF,anv];omega
def sN (a b:Au) (m k:Nat):ae (iE a b m k)=ae a.init*ae b.init:=by
 unfold iE
 induction a.init with
 | nil=>simp
 | cons x y h=>rw[ake,ain,h,ah3,aiF,anv];omega
def ID {n:Nat} {l:List As} {b a:Nat} {t:Int} (h:∀y,y∈l->kD n y=aq) (x:t=((b+n+a:Nat):Int)) (k:b+n+a<=8):∀y,y∈l.map (As.put fun f=>f.wide b a)->kD t y=aq:=fun y w=>by obtain ⟨z,c,rfl⟩:=aiw.1 w;exact (P0 (h z c) x k).1
def Pk (n:Nat) (t:Int):∀y,y∈aA n uG->kD t y=aq:=fun y h=>by rw[(ajN.1 h).2];rfl
def NH (s:VA0 a m) (t:VA0 b k) (H:yY a 60) (K:yY b 60) (I:m+k<=4) :
  (∀x,x∈(eT a b m k l).aJ->(mT (m+k:Nat) x.inv.l=aq/\x.inv.n=(m+k:Nat))/\(mT (m+k:Nat) x.dy.l=aq/\x.dy.n=(m+k:Nat))/\kL (m+k) x.dy.l=aq) /\
  (∀x,x∈(eT a b m k l).aN->(0<=x.cI/\x.cI < (eT a b m k l).aJ.length/\0<=x.to/\x.to < (eT a b m k l).aJ.length/\0<=x.label/\x.label<=20)/\(mT (m+k:Nat) x.guard.l=aq/\x.guard.n=(m+k:Nat))/\(ae x.cO=m+k/\∀y,y∈x.cO->kD (m+k:Nat) y=aq)) /\
  (∀z,z∈(eT a b m k l).init->(0<=z.loc/\z.loc < (eT a b m k l).aJ.length)/\mT (m+k:Nat) z.set.l=aq/\z.set.n=(m+k:Nat)):=by
 have E:((eT a b m k l).aJ.length:Int)=(ae a.aJ:Int)*ae b.aJ:=by show (ae (mh a b m k):Int)=_;rw[pF];exact akY _ _
 have e:((m+k:Nat):Int)=(m:Int)+k:=aD;refine ⟨fun x W=>?_,fun x W=>?_,fun z G=>?_⟩
 .have w:x∈mh a b m k:=W;unfold mh at w;have ⟨u,r,w⟩:=akT.1 w;obtain ⟨v,hv,rfl⟩:=aiw.1 w;have A:=s.loc u r;have B:=t.loc v hv;have C:=H.loc u r;have D:=K.loc v hv;rw[e];exact ⟨⟨v8 A.1.1 B.1.1 (by omega) (by omega),rfl⟩,⟨v8 A.2.1.1 B.2.1.1 (by omega) (by omega),rfl⟩,Sa (KA A.2.1.1) (KA B.2.1.1) A.2.2 B.2.2⟩
 .have w:x∈(cz a b l).map (eC a b m k):=W;obtain ⟨y,h,rfl⟩:=aiw.1 w;rw[e,E];rcases Jf h with ⟨i,j,o,p,rfl⟩ | ⟨j,i,p,o,rfl⟩ | ⟨i,j,o,p,J,rfl⟩
  .have A:=s.jmp _ (py o);have C:=H.jmp _ (py o);have X:¬(0:Int) <= -1:=aR;have q:(0:Int)<=(i:Int):=aD;unfold eC rz yz;simp only[X,q,ajs,ajO,lE,ah9];have f:=CU A.1.1 A.1.2.1 (show (0:Int)<=(j:Int) by omega) (show (j:Int) < ae b.aJ by omega);have g:=CU A.1.2.2.1 A.1.2.2.2.1 (show (0:Int)<=(j:Int) by omega) (show (j:Int) < ae b.aJ by omega);refine ⟨⟨f.1,f.2,g.1,g.2,A.1.2.2.2.2⟩,⟨v8 A.2.1.1 (PB aD) aD (by simp only[aiV];omega),rfl⟩,by have:=A.2.2.1;simp only[ain,ah3,aiY];omega,fun y h=>?_⟩;rcases aiE.1 h with h | h
   .exact ID A.2.2.2 aD aD y h
   .rw[DI] at h;exact Pk _ _ y h
  .have B:=t.jmp _ (py p);have D:=K.jmp _ (py p);have X:¬(0:Int) <= -1:=aR;have q:(0:Int)<=(j:Int):=aD;unfold eC rz yA;simp only[X,q,ajs,ajO,lE,ah9];have f:=CU (show (0:Int)<=(i:Int) by omega) (show (i:Int) < ae a.aJ by omega) B.1.1 B.1.2.1;have g:=CU (show (0:Int)<=(i:Int) by omega) (show (i:Int) < ae a.aJ by omega) B.1.2.2.1 B.1.2.2.2.1;refine ⟨⟨f.1,f.2,g.1,g.2,B.1.2.2.2.2⟩,⟨v8 (PB aD) B.2.1.1 aD (by simp only[aiV];omega),rfl⟩,by have:=B.2.2.1;simp only[ain,ah3,aiY];omega,fun y h=>?_⟩;rcases aiE.1 h with h | h
   .rw[DI] at h;exact Pk _ _ y h
   .exact ID B.2.2.2 aD aD y h
  .have A:=s.jmp _ (py o);have C:=H.jmp _ (py o);have B:=t.jmp _ (py p);have D:=K.jmp _ (py p);have q:(0:Int)<=(j:Int):=aD;have F:(0:Int)<=(i:Int):=aD;unfold eC rz yB;simp only[q,F,ajs,lE,ah9];have f:=CU A.1.1 A.1.2.1 B.1.1 B.1.2.1;have g:=CU A.1.2.2.1 A.1.2.2.2.1 B.1.2.2.1 B.1.2.2.2.1;refine ⟨⟨f.1,f.2,g.1,g.2,B.1.2.2.2.2⟩,⟨v8 A.2.1.1 B.2.1.1 aD aD,rfl⟩,by have:=A.2.2.1;have:=B.2.2.1;simp only[ain,ah3];omega,fun y h=>?_⟩;rcases aiE.1 h with h | h
   .exact ID A.2.2.2 aD aD y h
   .exact ID B.2.2.2 aD aD y h
 .have c:z∈iE a b m k:=G;unfold iE at c;have ⟨u,r,c⟩:=akT.1 c;obtain ⟨v,hv,rfl⟩:=aiw.1 c;have A:=s.A7 u r;have B:=t.A7 v hv;have C:=H.A7 u r;have D:=K.A7 v hv;rw[e,E];exact ⟨CU A.1.1 A.1.2 B.1.1 B.1.2,v8 A.2.1 B.2.1 aD aD,rfl⟩
def Vm (x:VA0 a m) (y:VA0 b k) (i:yY a 60) (j:yY b 60) (h:m+k<=4) (c:ae a.aJ*ae b.aJ<=12) (w:ae (cz a b l)<=40) (z:ae a.init*ae b.init<=12) :
  VA0 (eT a b m k l) (m+k):=by
 have ⟨e,f,g⟩:=NH (l:=l) x y i j h;refine ⟨rfl,h,?_,?_,?_,?_,e,f,g⟩
 .show 1<=ae (mh a b m k);rw[pF];exact Nat.mul_pos x.l1 y.l1
 .show ae (mh a b m k)<=12;rw[pF];exact c
 .show ae ((cz a b l).map (eC a b m k))<=40;rw[ah3];exact w
 .show ae (iE a b m k)<=12;rw[sN];exact z
def Dd (A:Au):Bool:=decide (A.bA<=4/\ae A.aJ<=12/\ae A.aN<=40/\ae A.init<=12) &&
 (A.aJ.all (fun x=>decide (ae x.inv.l<=120)&&decide (ae x.dy.l<=120))&&(A.aN.all (fun x=>decide (ae x.guard.l<=120))&&A.init.all (fun z=>decide (ae z.set.l<=120))))
def DF (m k:Nat) (x y:List Cd):(eK m k x y).l.length=ae x+ae y:=by simp[eK]
def UK {a b:Au} {m k:Nat} (p:yY a 60) (q:yY b 60) (l:List Int) :
  Dd (eT a b m k l)=aq↔gO a b m k l=aq/\ae a.init*ae b.init<=12:=by
 unfold Dd gO;simp only[ah2,aiU,ah4];have j:(eT a b m k l).aJ.length=ae a.aJ*ae b.aJ:=pF a b m k;have e:(eT a b m k l).init.length=ae a.init*ae b.init:=sN a b m k;have f:(eT a b m k l).aN.length=ae (cz a b l):=ah3 ..;have g:(eT a b m k l).bA=(m:Int)+k:=rfl;rw[j,e,f,g];constructor
 .rintro ⟨⟨j,e,f,g⟩,_⟩;exact ⟨⟨⟨aD,e⟩,f⟩,g⟩
 .rintro ⟨⟨⟨j,e⟩,f⟩,g⟩;refine ⟨⟨aD,e,f,g⟩,fun x o=>?_,fun x o=>?_,fun z r=>?_⟩
  .have w:=o;unfold mh at w;have ⟨u,n,w⟩:=akT.1 w;obtain ⟨v,hv,rfl⟩:=aiw.1 w;have s:=p.loc u n;have t:=q.loc v hv;simp only[DF];omega
  .have w:=o;obtain ⟨y,X,rfl⟩:=aiw.1 w;unfold eC;simp only[DF];have H:ae (if 0<=y.i then (lE a y.i).guard.l else [])<=60:=by
    split
    .unfold lE;rw[ajm];rcases aij (az y.i) (ae a.aN) with h | h
     .rw[ah6 h];exact p.jmp _ (ajj h)
     .rw[aiO h];exact aiL _
    .exact aiL _
   have K:ae (if 0<=y.k then (lE b y.k).guard.l else [])<=60:=by
    split
    .unfold lE;rw[ajm];rcases aij (az y.k) (ae b.aN) with h | h
     .rw[ah6 h];exact q.jmp _ (ajj h)
     .rw[aiO h];exact aiL _
    .exact aiL _
   omega
  .have c:=r;unfold iE at c;have ⟨u,n,c⟩:=akT.1 c;obtain ⟨v,hv,rfl⟩:=aiw.1 c;have s:=p.A7 u n;have t:=q.A7 v hv;simp only[DF];omega
def SX {a b:Au} {m k:Nat} (y:VA0 a m) (z:VA0 b k) (w:yY a 60) (c:yY b 60) {l:List Int} (x:gO a b m k l=aq) :
  fu (eT a b m k l)=decide (ae a.init*ae b.init<=12):=by
 unfold gO at x;simp only[ah2,aiU] at x;by_cases h:ae a.init*ae b.init<=12
 .rw[air h];exact (Vm y z w c x.1.1 x.1.2 x.2 h).fu
 .rw[aif h];cases hv:fu (eT a b m k l) with
  | false=>rfl
  | true =>
   have:=(qQ hv).i12;have e:(eT a b m k l).init.length=ae a.init*ae b.init:=sN a b m k;omega
section
variable {P:Program}
def RE (n:Int) (l:List Cd) (k:ae l < 1000000000) (h:∀c,c∈l->FmI c.f):bg prog 44 [.agg [.q0 n,.seq 3 ar (l.map cC)]] (.seq 6 ar (l.map fun c=>de c.fO)):=by refine pw func44 ?_;refine Z ?_;refine cX (VX n l k h) ?_;refine Z ?_;exact aW rfl rfl
def Ec (n:Int) (p:Pl) (x:mC p.l):bg prog 41 [.q0 n,.agg (p9 p)] (.v0 (jL n p)):=by
 refine pw func41 ?_;unfold jL;by_cases h:p.n=n
 .have k:(p.n=n)=True:=aiq h;refine Z1 k ?_;refine cX (O1 p.n p.l (by have:=x.1;omega) (fun c y=>by have:=x.2 c y;omega)) ?_;refine Z ?_;exact aW rfl rfl
 .have k:(p.n=n)=False:=aie h;simp only[go_sem,↓reduceIte,k,ajI,ah5,ana];exact aW rfl rfl
def Ok (n:Int) (x:As) (m:ae x.f.c < 1000000):bg prog 42 [.q0 n,.agg (dX x)] (.v0 (kD n x)):=by
 refine pw func42 ?_;unfold kD;by_cases h:x.kind=1
 .have e:(x.kind=1)=True:=aiq h;refine Z ?_;refine cX (CG n x.f aD) ?_;by_cases i:x.f.jW n=aq
  .by_cases g:1<=x.low
   .refine Z ?_;exact aW rfl rfl
   .refine Z ?_;exact aW rfl rfl
  .have l:x.f.jW n=ar:=bu i;refine Z ?_;exact aW rfl rfl
 .have e:(x.kind=1)=False:=aie h;by_cases i:x.kind=0\/x.kind=2
  .by_cases g:ae x.f.c=0
   .have y:((ae x.f.c:Int)=0)=True:=aiq aD;by_cases j:x.f.a=0
    .have z:(x.f.a=0)=True:=aiq j;by_cases b:x.kind=0
     .have k:(x.kind=0)=True:=aiq b;refine Z4 e k y z ?_;exact aW (by simp[g]) rfl
     .have k:(x.kind=0)=False:=aie b;have w:(x.kind=2)=True:=aiq aD;refine Z5 e k w y z ?_;exact aW (by simp[g]) rfl
    .have z:(x.f.a=0)=False:=aie j;by_cases b:x.kind=0
     .have k:(x.kind=0)=True:=aiq b;refine Z4 e k y z ?_;exact aW aO rfl
     .have k:(x.kind=0)=False:=aie b;have w:(x.kind=2)=True:=aiq aD;refine Z5 e k w y z ?_;exact aW aO rfl
   .have y:((ae x.f.c:Int)=0)=False:=aie aD;by_cases b:x.kind=0
    .have k:(x.kind=0)=True:=aiq b;refine Z3 e k y ?_;exact aW (by simp[g]) rfl
    .have k:(x.kind=0)=False:=aie b;have w:(x.kind=2)=True:=aiq aD;refine Z ?_;exact aW (by simp[g]) rfl
  .have k:(x.kind=0)=False:=aie aD;have w:(x.kind=2)=False:=aie aD;refine Z ?_;exact aW aO rfl
def F8 (a:Au) (x:Int):bg prog 40 [.q0 x,.fp (c9 a) 0] (.v0 (decide (0<=x/\x < (ae a.aJ:Int)))):=by
 refine pw func40 ?_;by_cases h:0<=x
 .refine Z ?_;exact aW rfl rfl
 .refine Z ?_;exact aW rfl rfl
structure AuS (a:Au):Prop where
 aJ:a.aJ.length < 1000000
 aN:a.aN.length < 1000000
 init:a.init.length < 1000000
 FD:∀x,x∈a.aJ->mC x.inv.l/\mC x.dy.l
 Na:∀x,x∈a.aN->mC x.guard.l/\x.cO.length < 1000000/\∀y,y∈x.cO->y.f.c.length < 1000000
 Fv:∀x,x∈a.init->mC x.set.l
def Oe (h:F6 a=ar):fu a=ar:=by unfold fu;rw[h];rfl
def P5 (k:x∈a.aJ) (h:vq a.bA x=ar):fu a=ar:=by
 have:a.aJ.all (vq a.bA)=ar:=by rw[ajq];exact ⟨x,k,by rw[h];decide⟩
 unfold fu;rw[this];simp
def P4 (k:x∈a.aN) (h:tT a.bA (ae a.aJ) x=ar):fu a=ar:=by
 have:a.aN.all (tT a.bA (ae a.aJ))=ar:=by rw[ajq];exact ⟨x,k,by rw[h];decide⟩
 unfold fu;rw[this];simp
def P3 (k:x∈a.init) (h:vu a.bA (ae a.aJ) x=ar):fu a=ar:=by
 have:a.init.all (vu a.bA (ae a.aJ))=ar:=by rw[ajq];exact ⟨x,k,by rw[h];decide⟩
 unfold fu;rw[this];simp
def P1 (h:F6 a=aq) (y:∀j,j < ae a.aJ->vq a.bA (af a.aJ j ah)=aq) (x:∀j,j < ae a.aN->tT a.bA (ae a.aJ) (af a.aN j ah)=aq)
  (k:∀j,j < ae a.init->vu a.bA (ae a.aJ) (af a.init j ah)=aq):fu a=aq:=by unfold fu;rw[h,jk y,jk x,jk k];rfl
def ie {α:Type} [Inhabited α] {p:α->Bool} {l:List α} {i:Nat} (k:∀j,j < i->p (af l j ah)=aq) (x:p (af l i ah)=aq):∀j,j < i+1->p (af l j ah)=aq:=fun j y=>by
 rcases aij j i with h | h
 .exact k j h
 .rw[show j=i by omega];exact x
def XA (h:mT n l=aq):∀c,c∈l->FmI c.f:=fun c k=>by have x:=(rm.1 h).1;have e:n=(az n:Int):=aD;rw[e] at h;exact (gI.of h).fmI k
abbrev EA (a:Au):Env:=[(1,.fp (c9 a) 0),(3,.q0 a.bA),(4,.fn 40 [] [.fp (c9 a) 0])]
def BN (a:Au) (W:AuS a):bg prog 27 [.agg (c9 a)] (.v0 (fu a)):=by
 refine pw func27 ?_;have bad:∀{H:aF},fu a=ar->Fin 0 (.v0 ar) H (.v0 (fu a)) []:=fun h=>aW (by rw[h]) rfl;have v:∀{H:aF},¬(0<=a.bA/\a.bA<=4/\1<=ae a.aJ/\ae a.aJ<=12/\ae a.aN<=40/\ae a.init<=12)->Fin 0 (.v0 ar) H (.v0 (fu a)) []:=fun h=>bad (Oe (by unfold F6;exact aif h));have l0:ae a.aJ < 1000000:=W.aJ;have j0:ae a.aN < 1000000:=W.aN;have i0:ae a.init < 1000000:=W.init;by_cases t:a.bA < 0
 .refine Z1 t ?_;exact v aD
 by_cases X:4 < a.bA
 .refine Z2 t X ?_;exact v aD
 by_cases E:(ae a.aJ:Int) < 1
 .refine Z3 t X E ?_;exact v aD
 by_cases M:12 < (ae a.aJ:Int)
 .refine Z4 t X E M ?_;exact v aD
 by_cases S:40 < (ae a.aN:Int)
 .refine Z5 t X E M S ?_;exact v aD
 by_cases h6:12 < (ae a.init:Int)
 .refine Z6 t X E M S h6 ?_;exact v aD
 have V:F6 a=aq:=by unfold F6;exact air aD
 refine Z6 t X E M S h6 ?_;refine aZ (fun n e H=>∃i:Nat,i<=ae a.aN/\n=ae a.aN - i/\(∀j,j < i->tT a.bA (ae a.aJ) (af a.aN j ah)=aq) /\
  e=EA a++[(47,.seq 6 ar (a.aN.map dI)),(48,.q0 (ae a.aN:Int)),(49,.q0 (i:Int))]) ⟨0,aD,rfl,fun j h=>aD,rfl⟩ ?_;rintro n _ H ⟨i,N,O,o,rfl⟩;simp only[aje,aiy];by_cases z:(i:Int) < (ae a.aN:Int)
 .have A:au .i64 ((i:Int)+1)=((i+1:Nat):Int):=by rw[wrap_i64 aD aD];rfl
  have r:af a.aN i ah∈a.aN:=bS aD;obtain ⟨fg,fa,B⟩:=W.Na _ r;have f:∀{H:aF},tT a.bA (ae a.aJ) (af a.aN i ah)=ar->Fin 0 (.v0 ar) H (.v0 (fu a)) []:=fun h=>bad (P4 r h);have g:tT a.bA (ae a.aJ) (af a.aN i ah)=aq->∀j,j < i+1->tT a.bA (ae a.aJ) (af a.aN j ah)=aq:=ie o;generalize L:af a.aN i ah=x at *;have w:tT a.bA (ae a.aJ) x=(decide (0<=x.cI/\x.cI < ae a.aJ/\0<=x.to/\x.to < ae a.aJ/\0<=x.label/\x.label<=20)&&(jL a.bA x.guard&&(decide ((ae x.cO:Int)=a.bA)&&x.cO.all (kD a.bA)))):=rfl;refine Z2 z L ?_;refine ⟨aD,aH (F8 a x.cI) rfl rfl ?_⟩;by_cases K:0<=x.cI/\x.cI < (ae a.aJ:Int);rotate_left
  .rw[aif K];refine Z0 ?_;exact f (by rw[w,aif aD];rfl)
  rw[air K];refine Z0 ?_;refine aH (F8 a x.to) rfl rfl ?_;by_cases g2:0<=x.to/\x.to < (ae a.aJ:Int);rotate_left
  .rw[aif g2];refine Z0 ?_;exact f (by rw[w,aif aD];rfl)
  rw[air g2];by_cases R:x.label < 0
  .refine Z1 R ?_;exact f (by rw[w,aif aD];rfl)
  by_cases g4:20 < x.label
  .refine Z2 R g4 ?_;exact f (by rw[w,aif aD];rfl)
  refine Z2 R g4 ?_;refine aH (Ec a.bA x.guard fg) rfl rfl ?_;cases m:jL a.bA x.guard with
  | false =>
   refine Z0 ?_;exact f (by rw[w,m];simp)
  | true =>
   by_cases p:(ae x.cO:Int)=a.bA;rotate_left
   .have s:((ae x.cO:Int)=a.bA)=False:=aie p;refine Z1 s ?_;exact f (by rw[w,aif p];simp)
   have s:((ae x.cO:Int)=a.bA)=True:=aiq p;refine Z1 s ?_;have hF:tT a.bA (ae a.aJ) x=x.cO.all (kD a.bA):=by rw[w,m,air aD,air p];rfl
   refine aZ (fun k e G=>∃j:Nat,j<=ae x.cO/\k=ae x.cO - j/\(∀q,q < j->kD a.bA (af x.cO q ah)=aq) /\
    e=EA a++[(47,.seq 6 ar (a.aN.map dI)),(48,.q0 (ae a.aN:Int)),(49,.q0 (i:Int)),(90,.seq 4 ar (x.cO.map dX)),(91,.q0 (ae x.cO:Int)),(92,.q0 (j:Int))]) ⟨0,aD,rfl,fun j h=>aD,rfl⟩ ?_;rintro k _ G ⟨j,hj,hk,F,rfl⟩;simp only[aje,aiy];by_cases I:(j:Int) < (ae x.cO:Int)
   .have e2:au .i64 ((j:Int)+1)=((j+1:Nat):Int):=by rw[wrap_i64 aD aD];rfl
    have J:af x.cO j ah∈x.cO:=bS aD;have U:=ie F;have a0:=B _ J;generalize hy:af x.cO j ah=y at *;refine Y2 I hy ?_;refine ⟨aD,aH (Ok a.bA y a0) rfl rfl ?_⟩;cases D:kD a.bA y with
    | false =>
     refine Z0 ?_;exact f (by rw[hF];exact ajq.2 ⟨y,J,by rw[D];decide⟩)
    | true =>
     refine Z1 e2 ?_;exact ⟨ae x.cO - (j+1),aD,j+1,aD,rfl,U (by rw[D]),rfl⟩
   .refine Y2 I A ?_;exact ⟨ae a.aN - (i+1),aD,i+1,aD,rfl,g (by rw[hF];exact jk (d:=ah) (fun q hq=>F q aD)),rfl⟩
 have b:i=ae a.aN:=aD;have hJ:∀j,j < ae a.aN->tT a.bA (ae a.aJ) (af a.aN j ah)=aq:=by rw[<-b];exact o
 clear o N O;refine Y1 z ?_;refine aZ (fun n e H=>∃i:Nat,i<=ae a.init/\n=ae a.init - i/\(∀j,j < i->vu a.bA (ae a.aJ) (af a.init j ah)=aq) /\
  e=EA a++[(103,.seq 3 ar (a.init.map iF)),(104,.q0 (ae a.init:Int)),(105,.q0 (i:Int))]) ⟨0,aD,rfl,fun j h=>aD,rfl⟩ ?_;clear z b i;rintro n2 _ H ⟨i,N,O,o,rfl⟩;simp only[aje,aiy];by_cases z:(i:Int) < (ae a.init:Int)
 .have A:au .i64 ((i:Int)+1)=((i+1:Nat):Int):=by rw[wrap_i64 aD aD];rfl
  have r:af a.init i ah∈a.init:=bS aD;have B:=W.Fv _ r;have f:∀{H:aF},vu a.bA (ae a.aJ) (af a.init i ah)=ar->Fin 0 (.v0 ar) H (.v0 (fu a)) []:=fun h=>bad (P3 r h);have g:vu a.bA (ae a.aJ) (af a.init i ah)=aq->∀j,j < i+1->vu a.bA (ae a.aJ) (af a.init j ah)=aq:=ie o;generalize L:af a.init i ah=x at *;have w:vu a.bA (ae a.aJ) x=(decide (0<=x.loc/\x.loc < ae a.aJ)&&jL a.bA x.set):=rfl;refine Z2 z L ?_;refine ⟨aD,aH (F8 a x.loc) rfl rfl ?_⟩;by_cases K:0<=x.loc/\x.loc < (ae a.aJ:Int);rotate_left
  .rw[aif K];refine Z0 ?_;exact f (by rw[w,aif aD];rfl)
  rw[air K];refine Z0 ?_;refine aH (Ec a.bA x.set B) rfl rfl ?_;cases m:jL a.bA x.set with
  | false =>
   refine Z0 ?_;exact f (by rw[w,m];simp)
  | true =>
   refine Z1 A ?_;exact ⟨ae a.init - (i+1),aD,i+1,aD,rfl,g (by rw[w,m,air K];rfl),rfl⟩
 have b:i=ae a.init:=aD;have hI:∀j,j < ae a.init->vu a.bA (ae a.aJ) (af a.init j ah)=aq:=by rw[<-b];exact o
 clear o N O;refine Y1 z ?_;refine aZ (fun n e H=>∃i:Nat,i<=ae a.aJ/\n=ae a.aJ - i/\(∀j,j < i->vq a.bA (af a.aJ j ah)=aq) /\
  e=[(3,.q0 a.bA),(123,.seq 4 ar (a.aJ.map iy)),(124,.q0 (ae a.aJ:Int)),(125,.q0 (i:Int))]) ⟨0,aD,rfl,fun j h=>aD,rfl⟩ ?_;clear z b i;rintro n3 _ H ⟨i,N,O,o,rfl⟩;by_cases z:(i:Int) < (ae a.aJ:Int)
 .have A:au .i64 ((i:Int)+1)=((i+1:Nat):Int):=by rw[wrap_i64 aD aD];rfl
  have r:af a.aJ i ah∈a.aJ:=bS aD;obtain ⟨B,fy⟩:=W.FD _ r;have f:∀{H:aF},vq a.bA (af a.aJ i ah)=ar->Fin 0 (.v0 ar) H (.v0 (fu a)) []:=fun h=>bad (P5 r h);have g:vq a.bA (af a.aJ i ah)=aq->∀j,j < i+1->vq a.bA (af a.aJ j ah)=aq:=ie o;generalize L:af a.aJ i ah=x at *;have w:vq a.bA x=(jL a.bA x.inv&&(jL a.bA x.dy&&kL (az a.bA) x.dy.l)):=rfl;refine Y2 z L ?_;refine ⟨aD,aH (Ec a.bA x.inv B) rfl rfl ?_⟩;cases m:jL a.bA x.inv with
  | false =>
   refine Z0 ?_;exact f (by rw[w,m];rfl)
  | true =>
   refine Z0 ?_;refine aH (Ec a.bA x.dy fy) rfl rfl ?_;cases p:jL a.bA x.dy with
   | false =>
    refine Z0 ?_;exact f (by rw[w,m,p];rfl)
   | true =>
    obtain ⟨D,g8⟩:=tU.1 p;have hd:a.bA=(az a.bA:Int):=aD;have T:bg prog 43 [.q0 a.bA,.seq 6 ar (x.dy.l.map fun c=>de c.fO)] (.v0 (kL (az a.bA) x.dy.l)):=by have g9:=D;rw[hd] at g9;have:=ZW (gI.of g9);rw[<-hd] at this;exact this
    refine Z0 ?_;refine cX (RE x.dy.n x.dy.l (by have:=fy.1;omega) (XA D)) ?_;refine Y ?_;refine aH T ?_ rfl ?_
    .simp only[ais,ajd,aiM];rfl
    cases C:kL (az a.bA) x.dy.l with
    | false =>
     refine Z0 ?_;exact f (by rw[w,m,p,C];rfl)
    | true =>
     refine Z1 A ?_;exact ⟨ae a.aJ - (i+1),aD,i+1,aD,rfl,g (by rw[w,m,p,C];rfl),rfl⟩
 have b:i=ae a.aJ:=aD;have hL:∀j,j < ae a.aJ->vq a.bA (af a.aJ j ah)=aq:=by rw[<-b];exact o
 refine Y1 z ?_;exact aW (by rw[P1 V hL hJ hI]) rfl
def Ol (x:Int) (ps:List Pl) (b:Bool) (R:ae ps < 9223372036854775808) (J:∀p,p∈ps->ae p.l < 9223372036854775808) :
  bg prog 31 [.q0 x,.seq 2 b (ps.map p9)] (.v0 (ps.all (Pl.iN x))):=by
 refine pw func31 ?_;refine Y ?_;refine aZ (fun n e H=>∃i:Nat,i<=ae ps/\n=ae ps - i/\(∀j,j < i->(af ps j ah).iN x=aq) /\
  e=[(0,.q0 x),(9,.seq 2 b (ps.map p9)),(10,.q0 (ae ps:Int)),(11,.q0 (i:Int))]) ⟨0,aD,rfl,fun j h=>aD,rfl⟩ ?_;rintro n _ H ⟨i,O,S,E,rfl⟩;by_cases w:(i:Int) < (ae ps:Int)
 .have D:=ws i;have F:af ps i ah∈ps:=bS aD;have M:=J _ F;have N:(af ps i ah).iN x=ar->ps.all (Pl.iN x)=ar:=fun h=>ajq.2 ⟨_,F,by rw[h];decide⟩;generalize r:af ps i ah=p at *;have y:∀{H:aF},p.iN x=ar->Fin 0 (.v0 ar) H (.v0 (ps.all (Pl.iN x))) []:=fun h=>aW (by rw[N h]) rfl;have I:∀G:aF,p.iN x=aq->∃m,m < n/\∃W:Nat,W<=ae ps/\m=ae ps - W/\(∀j,j < W->(af ps j ah).iN x=aq) /\
    ([(0,.q0 x),(9,.seq 2 b (ps.map p9)),(10,.q0 (ae ps:Int)),(11,.q0 ((i+1:Nat):Int))]:Env)=[(0,.q0 x),(9,.seq 2 b (ps.map p9)),(10,.q0 (ae ps:Int)),(11,.q0 (W:Int))]:=fun _ h=>by
   refine ⟨ae ps - (i+1),aD,i+1,aD,rfl,fun j B=>?_,rfl⟩;rcases aij j i with a | a
   .exact E j a
   .rw[show j=i by omega,r];exact h
  by_cases a:x < (ae p.l:Int)
  .by_cases s:(ae p.l:Int)<=120
   .refine Y4 w r a s ?_;exact ⟨aD,y (by unfold Pl.iN;rw[air a,air s];rfl)⟩
   by_cases g:140 < (ae p.l:Int)
   .refine Z5 w r a s g ?_;exact ⟨aD,y (by unfold Pl.iN;rw[air g];simp)⟩
   have X:p.iN x=p.l.all fun c=>decide ((ae c.f.c:Int)<=40):=by unfold Pl.iN;rw[aif s,aif g];simp
   refine Z5 w r a s g ?_;refine ⟨aD,?_⟩;refine aZ (fun k e G=>∃j:Nat,j<=ae p.l/\k=ae p.l - j/\(∀q,q < j->decide (((af p.l q ah).f.c.length:Int)<=40)=aq) /\
    e=[(0,.q0 x),(9,.seq 2 b (ps.map p9)),(10,.q0 (ae ps:Int)),(11,.q0 (i:Int)),(33,.seq 3 ar (p.l.map cC)),(34,.q0 (ae p.l:Int)),(35,.q0 (j:Int))]) ⟨0,aD,rfl,fun j h=>aD,rfl⟩ ?_;rintro k _ G ⟨j,B,L,K,rfl⟩;by_cases z:(j:Int) < (ae p.l:Int)
   .have A:=ws j;have o:af p.l j ah∈p.l:=bS aD;by_cases t:(40:Int) < ((af p.l j ah).f.c.length:Int)
    .refine Y2 z t ?_;exact ⟨aD,y (by rw[X];exact ajq.2 ⟨_,o,by rw[aif (by omega)];decide⟩)⟩
    .refine Y3 z t A ?_;refine ⟨aD,ae p.l - (j+1),aD,j+1,aD,rfl,fun q C=>?_,rfl⟩;rcases aij q j with v | v
     .exact akB (K q v)
     .rw[show q=j by omega];omega
   .refine Y2 z D ?_;exact I G (by rw[X];exact jk (d:=ah) (fun q C=>K q aD))
  by_cases g:140 < (ae p.l:Int)
  .refine Z4 w r a g ?_;exact ⟨aD,y (by unfold Pl.iN;rw[air g];simp)⟩
  have X:p.iN x=p.l.all fun c=>decide ((ae c.f.c:Int)<=40):=by unfold Pl.iN;rw[aif a,aif g];simp
  refine Z4 w r a g ?_;refine ⟨aD,?_⟩;refine aZ (fun k e G=>∃j:Nat,j<=ae p.l/\k=ae p.l - j/\(∀q,q < j->decide (((af p.l q ah).f.c.length:Int)<=40)=aq) /\
   e=[(0,.q0 x),(9,.seq 2 b (ps.map p9)),(10,.q0 (ae ps:Int)),(11,.q0 (i:Int)),(33,.seq 3 ar (p.l.map cC)),(34,.q0 (ae p.l:Int)),(35,.q0 (j:Int))]) ⟨0,aD,rfl,fun j h=>aD,rfl⟩ ?_;rintro k _ G ⟨j,B,L,K,rfl⟩;by_cases z:(j:Int) < (ae p.l:Int)
  .have A:=ws j;have o:af p.l j ah∈p.l:=bS aD;by_cases t:(40:Int) < ((af p.l j ah).f.c.length:Int)
   .refine Y2 z t ?_;exact ⟨aD,y (by rw[X];exact ajq.2 ⟨_,o,by rw[aif (by omega)];decide⟩)⟩
   .refine Y3 z t A ?_;refine ⟨aD,ae p.l - (j+1),aD,j+1,aD,rfl,fun q C=>?_,rfl⟩;rcases aij q j with v | v
    .exact akB (K q v)
    .rw[show q=j by omega];omega
  .refine Y2 z D ?_;exact I G (by rw[X];exact jk (d:=ah) (fun q C=>K q aD))
 .refine Y1 w ?_;exact aW (by rw[jk (d:=ah) (fun j B=>E j (by omega))]) rfl
def eR (a:Au):Bool:=decide (ae a.aJ<=20/\ae a.aN<=50/\ae a.init<=20) &&
 (a.aJ.all (fun x=>x.inv.iN 8&&x.dy.iN 8)&&(a.aN.all (fun x=>x.guard.iN 8&&(decide (ae x.cO<=20)&&x.cO.all fun y=>decide (ae y.f.c<=20)))&&a.init.all (fun z=>z.set.iN 8)))
def Ee (n:Int) (ps:List Pl) (b:Bool) (W:ae ps < 1000000) (g:∀p,p∈ps->mC p.l):bg prog 33 [.q0 n,.seq 2 b (ps.map p9)] (.v0 (ps.all (jL n))):=by
 refine pw func33 ?_;refine Y ?_;refine aZ (fun k e H=>∃i:Nat,i<=ae ps/\k=ae ps - i/\(∀j,j < i->jL n (af ps j ah)=aq) /\
  e=[(0,.q0 n),(7,.seq 2 b (ps.map p9)),(8,.q0 (ae ps:Int)),(9,.q0 (i:Int))]) ⟨0,aD,rfl,fun j h=>aD,rfl⟩ ?_;rintro k _ H ⟨i,v,X,m,rfl⟩;by_cases z:(i:Int) < (ae ps:Int)
 .have s:au .i64 ((i:Int)+1)=((i+1:Nat):Int):=by rw[wrap_i64 aD aD];rfl
  have o:af ps i ah∈ps:=bS aD;have q:=g _ o;have f:=ie m;have r:jL n (af ps i ah)=ar->ps.all (jL n)=ar:=fun h=>ajq.2 ⟨_,o,by rw[h];decide⟩;generalize t:af ps i ah=x at *;refine Y2 z t ?_;refine ⟨aD,aH (VZ x.n x.l (cn q.1) (fun c g=>cn (q.2 c g))) rfl rfl ?_⟩;cases a:mT x.n x.l with
  | false =>
   refine Z0 ?_;exact aW (by rw[r (by unfold jL;rw[a];rfl)]) rfl
  | true =>
   by_cases w:x.n=n
   .have y:(x.n=n)=True:=aiq w;refine Z2 y s ?_;exact ⟨ae ps - (i+1),aD,i+1,aD,rfl,f (by unfold jL;rw[a,air w];rfl),rfl⟩
   .have y:(x.n=n)=False:=aie w;refine Z1 y ?_;exact aW (by rw[r (by unfold jL;rw[a,aif w];rfl)]) rfl
 .refine Y1 z ?_;exact aW (by rw[jk (d:=ah) (fun j K=>m j aD)]) rfl
def Om (n:Int) (l:List As) (hl:ae l < 1000000) (O:∀x,x∈l->ae x.f.c < 1000000) :
  bg prog 35 [.q0 n,.seq 4 ar (l.map dX)] (.v0 (decide ((ae l:Int)=n)&&l.all (kD n))):=by
 refine pw func35 ?_;by_cases J:(ae l:Int)=n;rotate_left
 .have W:((ae l:Int)=n)=False:=aie J;refine Z1 W ?_;exact aW aO rfl
 have W:((ae l:Int)=n)=True:=aiq J;rw[air J,ajg];refine Z1 W ?_;refine aZ (fun k e H=>∃i:Nat,i<=ae l/\k=ae l - i/\(∀j,j < i->kD n (af l j ah)=aq) /\
  e=[(0,.q0 n),(12,.seq 4 ar (l.map dX)),(13,.q0 (ae l:Int)),(14,.q0 (i:Int))]) ⟨0,aD,rfl,fun j h=>aD,rfl⟩ ?_;rintro k _ H ⟨i,T,V,M,rfl⟩;by_cases z:(i:Int) < (ae l:Int)
 .have I:au .i64 ((i:Int)+1)=((i+1:Nat):Int):=by rw[wrap_i64 aD aD];rfl
  have N:af l i ah∈l:=bS aD;have R:=O _ N;have E:kD n (af l i ah)=aq->∀j,j < i+1->kD n (af l j ah)=aq:=ie M;have S:kD n (af l i ah)=ar->l.all (kD n)=ar:=fun h=>ajq.2 ⟨_,N,by rw[h];decide⟩;have L:∀G:aF,kD n (af l i ah)=aq->∃m,m < k/\∃F:Nat,F<=ae l/\m=ae l - F/\(∀j,j < F->kD n (af l j ah)=aq) /\
    ([(0,.q0 n),(12,.seq 4 ar (l.map dX)),(13,.q0 (ae l:Int)),(14,.q0 ((i+1:Nat):Int))]:Env)=[(0,.q0 n),(12,.seq 4 ar (l.map dX)),(13,.q0 (ae l:Int)),(14,.q0 (F:Int))]:=fun _ h =>
   ⟨ae l - (i+1),aD,i+1,aD,rfl,E h,rfl⟩;clear E;generalize K:af l i ah=x at *;have y:∀{G:aF},kD n x=ar->Fin 0 (.v0 ar) G (.v0 (l.all (kD n))) []:=fun h=>aW (by rw[S h]) rfl;by_cases h:x.kind=1
  .have q:(x.kind=1)=True:=aiq h;have p:kD n x=(x.f.jW n&&decide (1<=x.low/\x.low<=M60)):=by unfold kD;rw[ah1 h]
   have b:((1:Int)=0)=False:=aO;have X:((1:Int)=2)=False:=aO;refine Z3 z K q ?_;refine ⟨aD,aH (HF n x.f aD) rfl rfl ?_⟩;have A:(x.kind=0)=False:=aie aD;have B:(x.kind=2)=False:=aie aD;cases C:x.f.jW n with
   | false =>
    refine Z2 A B ?_;exact y (by rw[p,C];rfl)
   | true =>
    by_cases v:1<=x.low
    .by_cases r:x.low<=1152921504606846976
     .refine Z3 v r I ?_;exact L [] (by rw[p,C,air ⟨v,r⟩];rfl)
     .refine Z4 v r A B ?_;exact y (by rw[p,aif (fun g=>r g.2)];simp)
    .refine Z3 v A B ?_;exact y (by rw[p,aif (fun g=>v g.1)];simp)
  .have q:(x.kind=1)=False:=aie h;have p:kD n x=decide ((x.kind=0\/x.kind=2)/\ae x.f.c=0/\x.f.a=0/\x.low=0):=by unfold kD;rw[ah0 h]
   by_cases C:x.kind=0\/x.kind=2;rotate_left
   .have b:(x.kind=0)=False:=aie aD;have X:(x.kind=2)=False:=aie aD;refine Z5 z K q b X ?_;exact ⟨aD,y (by rw[p];exact aif (fun g=>C g.1))⟩
   by_cases v:ae x.f.c=0;rotate_left
   .have w:((ae x.f.c:Int)=0)=False:=aie aD;by_cases t:x.kind=0
    .have b:(x.kind=0)=True:=aiq t;refine Z5 z K q b w ?_;exact ⟨aD,y (by rw[p];exact aif (fun g=>v g.2.1))⟩
    .have b:(x.kind=0)=False:=aie t;have X:(x.kind=2)=True:=aiq aD;refine Z6 z K q b X w ?_;exact ⟨aD,y (by rw[p];exact aif (fun g=>v g.2.1))⟩
   have w:((ae x.f.c:Int)=0)=True:=aiq aD;by_cases r:x.f.a=0;rotate_left
   .have o:(x.f.a=0)=False:=aie r;by_cases t:x.kind=0
    .have b:(x.kind=0)=True:=aiq t;refine Z6 z K q b w o ?_;exact ⟨aD,y (by rw[p];exact aif (fun g=>r g.2.2.1))⟩
    .have b:(x.kind=0)=False:=aie t;have X:(x.kind=2)=True:=aiq aD;refine Z7 z K q b X w o ?_;exact ⟨aD,y (by rw[p];exact aif (fun g=>r g.2.2.1))⟩
   have o:(x.f.a=0)=True:=aiq r;by_cases D:x.low=0;rotate_left
   .have s:(x.low=0)=False:=aie D;by_cases t:x.kind=0
    .have b:(x.kind=0)=True:=aiq t;refine Z7 z K q b w o s ?_;exact ⟨aD,y (by rw[p];exact aif (fun g=>D g.2.2.2))⟩
    .have b:(x.kind=0)=False:=aie t;have X:(x.kind=2)=True:=aiq aD;refine Z8 z K q b X w o s ?_;exact ⟨aD,y (by rw[p];exact aif (fun g=>D g.2.2.2))⟩
   have s:(x.low=0)=True:=aiq D;by_cases t:x.kind=0
   .have b:(x.kind=0)=True:=aiq t;refine Z8 z K q b w o s I ?_;exact ⟨aD,L [] (by rw[p];exact air ⟨C,v,r,D⟩)⟩
   .have b:(x.kind=0)=False:=aie t;have X:(x.kind=2)=True:=aiq aD;simp only[go_sem,↓reduceIte,ahZ,z,K,q,b,X,w,o,s,ajI,ajH,ajl,aja,I];exact ⟨aD,L [] (by rw[p];exact air ⟨C,v,r,D⟩)⟩
 .refine Y1 z ?_;exact aW (by rw[jk (d:=ah) (fun j U=>M j aD)]) rfl
def J5 (a:Au) (W:AuS a):bg prog 17 [.agg (c9 a)] (.v0 (fu a)):=by
 refine pw func17 ?_;have bad:∀{H:aF},fu a=ar->Fin 0 (.v0 ar) H (.v0 (fu a)) []:=fun h=>aW (by rw[h]) rfl;have v:∀{H:aF},¬(0<=a.bA/\a.bA<=4/\1<=ae a.aJ/\ae a.aJ<=12/\ae a.aN<=40/\ae a.init<=12)->Fin 0 (.v0 ar) H (.v0 (fu a)) []:=fun h=>bad (Oe (by unfold F6;exact aif h));have l0:ae a.aJ < 1000000:=W.aJ;have j0:ae a.aN < 1000000:=W.aN;have i0:ae a.init < 1000000:=W.init;by_cases t:a.bA < 0
 .refine Z1 t ?_;exact v aD
 by_cases X:4 < a.bA
 .refine Z2 t X ?_;exact v aD
 by_cases D:(ae a.aJ:Int) < 1
 .refine Z3 t X D ?_;exact v aD
 by_cases F:12 < (ae a.aJ:Int)
 .refine Z4 t X D F ?_;exact v aD
 by_cases L:40 < (ae a.aN:Int)
 .refine Z5 t X D F L ?_;exact v aD
 by_cases S:12 < (ae a.init:Int)
 .refine Z6 t X D F L S ?_;exact v aD
 have N:F6 a=aq:=by unfold F6;exact air aD
 refine Z6 t X D F L S ?_;refine aZ (fun n e H=>∃i:Nat,i<=ae a.aJ/\n=ae a.aJ - i/\(∀j,j < i->vq a.bA (af a.aJ j ah)=aq) /\
  e=[(1,.fp (c9 a) 0),(42,.seq 4 ar (a.aJ.map iy)),(43,.q0 (ae a.aJ:Int)),(44,.q0 (i:Int))]) ⟨0,aD,rfl,fun j h=>aD,rfl⟩ ?_;rintro n _ H ⟨i,G,I,o,rfl⟩;by_cases k:(i:Int) < (ae a.aJ:Int)
 .have A:au .i64 ((i:Int)+1)=((i+1:Nat):Int):=by rw[wrap_i64 aD aD];rfl
  have r:af a.aJ i ah∈a.aJ:=bS aD;have ⟨B,fy⟩:=W.FD _ r;have w:∀{H:aF},vq a.bA (af a.aJ i ah)=ar->Fin 0 (.v0 ar) H (.v0 (fu a)) []:=fun h=>bad (P5 r h);have g:vq a.bA (af a.aJ i ah)=aq->∀j,j < i+1->vq a.bA (af a.aJ j ah)=aq:=ie o;generalize c:af a.aJ i ah=x at *;have y:vq a.bA x=(jL a.bA x.inv&&(jL a.bA x.dy&&kL (az a.bA) x.dy.l)):=rfl;have wp:=Ee a.bA [x.inv,x.dy] aq aO (fun p s=>by
   simp only[aiz,ajr,akD] at s;rcases s with rfl | rfl
   .exact B
   .exact fy);have z:[x.inv,x.dy].all (jL a.bA)=(jL a.bA x.inv&&(jL a.bA x.dy&&aq)):=rfl;rw[z,aiM] at wp;refine Z2 k c ?_;refine ⟨aD,rfl,aH wp rfl rfl ?_⟩;cases f:jL a.bA x.inv&&jL a.bA x.dy with
  | false =>
   refine Z0 ?_;exact w (by rw[y,<-akx,f];rfl)
  | true =>
   rw[ah2] at f;have ⟨f,K⟩:=f;have ⟨g7,g8⟩:=tU.1 K;have U:a.bA=(az a.bA:Int):=aD;have M:bg prog 34 [.agg [.q0 x.dy.n,.seq 3 ar (x.dy.l.map cC)]] (.v0 (kL (az a.bA) x.dy.l)):=by have R:=g7;rw[U] at R;have:=XX (gI.of R);rw[<-U] at this;rw[g8];exact this
   refine Z0 ?_;refine cX M ?_;cases C:kL (az a.bA) x.dy.l with
   | false =>
    refine Z0 ?_;exact w (by rw[y,f,K,C];rfl)
   | true =>
    refine Z1 A ?_;exact ⟨ae a.aJ - (i+1),aD,i+1,aD,rfl,g (by rw[y,f,K,C];rfl),rfl⟩
 have b:i=ae a.aJ:=aD;have hL:∀j,j < ae a.aJ->vq a.bA (af a.aJ j ah)=aq:=by rw[<-b];exact o
 clear o G I;refine Y1 k ?_;refine aZ (fun n e H=>∃i:Nat,i<=ae a.aN/\n=ae a.aN - i/\(∀j,j < i->tT a.bA (ae a.aJ) (af a.aN j ah)=aq) /\
  e=[(1,.fp (c9 a) 0),(65,.seq 6 ar (a.aN.map dI)),(66,.q0 (ae a.aN:Int)),(67,.q0 (i:Int))]) ⟨0,aD,rfl,fun j h=>aD,rfl⟩ ?_;clear k b i;rintro n2 _ H ⟨i,G,I,o,rfl⟩;by_cases k:(i:Int) < (ae a.aN:Int)
 .have A:au .i64 ((i:Int)+1)=((i+1:Nat):Int):=by rw[wrap_i64 aD aD];rfl
  have r:af a.aN i ah∈a.aN:=bS aD;have ⟨fg,fa,B⟩:=W.Na _ r;have w:∀{H:aF},tT a.bA (ae a.aJ) (af a.aN i ah)=ar->Fin 0 (.v0 ar) H (.v0 (fu a)) []:=fun h=>bad (P4 r h);have g:tT a.bA (ae a.aJ) (af a.aN i ah)=aq->∀j,j < i+1->tT a.bA (ae a.aJ) (af a.aN j ah)=aq:=ie o;generalize c:af a.aN i ah=x at *;have y:tT a.bA (ae a.aJ) x=(decide (0<=x.cI/\x.cI < ae a.aJ/\0<=x.to/\x.to < ae a.aJ/\0<=x.label/\x.label<=20)&&(jL a.bA x.guard&&(decide ((ae x.cO:Int)=a.bA)&&x.cO.all (kD a.bA)))):=rfl;by_cases m:x.cI < 0
  .refine Y3 k c m ?_;exact ⟨aD,w (by rw[y,aif aD];rfl)⟩
  by_cases q:(ae a.aJ:Int)<=x.cI
  .refine Y4 k c m q ?_;exact ⟨aD,w (by rw[y,aif aD];rfl)⟩
  by_cases E:x.to < 0
  .refine Y5 k c m q E ?_;exact ⟨aD,w (by rw[y,aif aD];rfl)⟩
  by_cases J:(ae a.aJ:Int)<=x.to
  .refine Y6 k c m q E J ?_;exact ⟨aD,w (by rw[y,aif aD];rfl)⟩
  by_cases O:x.label < 0
  .refine Y7 k c m q E J O ?_;exact ⟨aD,w (by rw[y,aif aD];rfl)⟩
  by_cases V:20 < x.label
  .refine Y8 k c m q E J O V ?_;exact ⟨aD,w (by rw[y,aif aD];rfl)⟩
  have wp:=Ee a.bA [x.guard] aq aO (fun p s=>by simp only[aiz,ajr,akD] at s;rw[s];exact fg);have z:[x.guard].all (jL a.bA)=(jL a.bA x.guard&&aq):=rfl;rw[z,aiM] at wp;refine Z8 k c m q E J O V ?_;refine ⟨aD,rfl,aH wp rfl rfl ?_⟩;cases f:jL a.bA x.guard with
  | false =>
   refine Z0 ?_;exact w (by rw[y,f];simp)
  | true =>
   refine Z0 ?_;refine cX (Om a.bA x.cO fa B) ?_;have T:tT a.bA (ae a.aJ) x=(decide ((ae x.cO:Int)=a.bA)&&x.cO.all (kD a.bA)):=by rw[y,f,air aD];rfl
   cases K:(decide ((ae x.cO:Int)=a.bA)&&x.cO.all (kD a.bA)) with
   | false =>
    refine Z0 ?_;exact w (by rw[T,K])
   | true =>
    refine Z1 A ?_;exact ⟨ae a.aN - (i+1),aD,i+1,aD,rfl,g (by rw[T,K]),rfl⟩
 have b:i=ae a.aN:=aD;have hJ:∀j,j < ae a.aN->tT a.bA (ae a.aJ) (af a.aN j ah)=aq:=by rw[<-b];exact o
 clear o G I;refine Y1 k ?_;refine aZ (fun n e H=>∃i:Nat,i<=ae a.init/\n=ae a.init - i/\(∀j,j < i->vu a.bA (ae a.aJ) (af a.init j ah)=aq) /\
  e=[(1,.fp (c9 a) 0),(124,.seq 3 ar (a.init.map iF)),(125,.q0 (ae a.init:Int)),(126,.q0 (i:Int))]) ⟨0,aD,rfl,fun j h=>aD,rfl⟩ ?_;clear k b i;rintro n3 _ H ⟨i,G,I,o,rfl⟩;by_cases k:(i:Int) < (ae a.init:Int)
 .have A:au .i64 ((i:Int)+1)=((i+1:Nat):Int):=by rw[wrap_i64 aD aD];rfl
  have r:af a.init i ah∈a.init:=bS aD;have B:=W.Fv _ r;have w:∀{H:aF},vu a.bA (ae a.aJ) (af a.init i ah)=ar->Fin 0 (.v0 ar) H (.v0 (fu a)) []:=fun h=>bad (P3 r h);have g:vu a.bA (ae a.aJ) (af a.init i ah)=aq->∀j,j < i+1->vu a.bA (ae a.aJ) (af a.init j ah)=aq:=ie o;generalize c:af a.init i ah=x at *;have y:vu a.bA (ae a.aJ) x=(decide (0<=x.loc/\x.loc < ae a.aJ)&&jL a.bA x.set):=rfl;by_cases m:x.loc < 0
  .refine Y3 k c m ?_;exact ⟨aD,w (by rw[y,aif aD];rfl)⟩
  by_cases q:(ae a.aJ:Int)<=x.loc
  .refine Y4 k c m q ?_;exact ⟨aD,w (by rw[y,aif aD];rfl)⟩
  have wp:=Ee a.bA [x.set] aq aO (fun p s=>by simp only[aiz,ajr,akD] at s;rw[s];exact B);have z:[x.set].all (jL a.bA)=(jL a.bA x.set&&aq):=rfl;rw[z,aiM] at wp;refine Z4 k c m q ?_;refine ⟨aD,rfl,aH wp rfl rfl ?_⟩;cases f:jL a.bA x.set with
  | false =>
   refine Z0 ?_;exact w (by rw[y,f];simp)
  | true =>
   refine Z1 A ?_;exact ⟨ae a.init - (i+1),aD,i+1,aD,rfl,g (by rw[y,f,air aD];rfl),rfl⟩
 have b:i=ae a.init:=aD;have hI:∀j,j < ae a.init->vu a.bA (ae a.aJ) (af a.init j ah)=aq:=by rw[<-b];exact o
 refine Y1 k ?_;exact aW (by rw[P1 N hL hJ hI]) rfl
structure AuL (a:Au):Prop where
 aJ:a.aJ.length < 9223372036854775808
 aN:a.aN.length < 9223372036854775808
 init:a.init.length < 9223372036854775808
 FD:∀x,x∈a.aJ->x.inv.l.length < 9223372036854775808/\x.dy.l.length < 9223372036854775808
 Na:∀x,x∈a.aN->x.guard.l.length < 9223372036854775808/\x.cO.length < 9223372036854775808/\∀y,y∈x.cO->y.f.c.length < 9223372036854775808
 Fv:∀x,x∈a.init->x.set.l.length < 9223372036854775808
abbrev Hs (x:Lc):Bool:=x.inv.iN 8&&x.dy.iN 8
abbrev Lb (y:As):Bool:=decide (ae y.f.c<=20)
abbrev A5 (x:Jp):Bool:=x.guard.iN 8&&(decide (ae x.cO<=20)&&x.cO.all Lb)
abbrev Ht (z:Zn):Bool:=z.set.iN 8
def xj (a:Au):eR a=(decide (ae a.aJ<=20/\ae a.aN<=50/\ae a.init<=20)&&(a.aJ.all Hs&&(a.aN.all A5&&a.init.all Ht))):=rfl
def Xi (k:x∈a.aJ) (h:Hs x=ar):eR a=ar:=by
 have:a.aJ.all Hs=ar:=by rw[ajq];exact ⟨x,k,by rw[h];decide⟩
 rw[xj,this];simp
def Xh (k:x∈a.aN) (h:A5 x=ar):eR a=ar:=by
 have:a.aN.all A5=ar:=by rw[ajq];exact ⟨x,k,by rw[h];decide⟩
 rw[xj,this];simp
def Xg (k:x∈a.init) (h:Ht x=ar):eR a=ar:=by
 have:a.init.all Ht=ar:=by rw[ajq];exact ⟨x,k,by rw[h];decide⟩
 rw[xj,this];simp
def On (a:Au) (v:AuL a):bg prog 14 [.agg (c9 a)] (.v0 (eR a)):=by
 refine pw func14 ?_;have bad:∀{H:aF},eR a=ar->Fin 0 (.v0 ar) H (.v0 (eR a)) []:=fun h=>aW (by rw[h]) rfl;have E:∀{H:aF},¬(ae a.aJ<=20/\ae a.aN<=50/\ae a.init<=20)->Fin 0 (.v0 ar) H (.v0 (eR a)) []:=fun h=>bad (by rw[xj,aif h];rfl);have l0:=v.aJ;have j0:=v.aN;have i0:=v.init;by_cases B:20 < (ae a.aJ:Int)
 .refine Z1 B ?_;exact E aD
 by_cases F:50 < (ae a.aN:Int)
 .refine Z2 B F ?_;exact E aD
 by_cases O:20 < (ae a.init:Int)
 .refine Z3 B F O ?_;exact E aD
 have L:ae a.aJ<=20/\ae a.aN<=50/\ae a.init<=20:=aD;refine Z3 B F O ?_;refine aZ (fun n e H=>∃i:Nat,i<=ae a.aJ/\n=ae a.aJ - i/\(∀j,j < i->Hs (af a.aJ j ah)=aq) /\
  e=[(1,.fp (c9 a) 0),(28,.seq 4 ar (a.aJ.map iy)),(29,.q0 (ae a.aJ:Int)),(30,.q0 (i:Int))]) ⟨0,aD,rfl,fun j h=>aD,rfl⟩ ?_;rintro n _ H ⟨i,C,D,l,rfl⟩;by_cases z:(i:Int) < (ae a.aJ:Int)
 .have K:=ws i;have o:af a.aJ i ah∈a.aJ:=bS aD;have ⟨A,fy⟩:=v.FD _ o;have s:∀{H:aF},Hs (af a.aJ i ah)=ar->Fin 0 (.v0 ar) H (.v0 (eR a)) []:=fun h=>bad (Xi o h);have g:Hs (af a.aJ i ah)=aq->∀j,j < i+1->Hs (af a.aJ j ah)=aq:=ie (p:=Hs) l;generalize W:af a.aJ i ah=x at *;have wp:=Ol 8 [x.inv,x.dy] aq aO (fun p r=>by
   simp only[aiz,ajr,akD] at r;rcases r with rfl | rfl
   .exact A
   .exact fy);have w:[x.inv,x.dy].all (Pl.iN 8)=(x.inv.iN 8&&(x.dy.iN 8&&aq)):=rfl;rw[w,aiM] at wp;refine Z2 z W ?_;refine ⟨aD,rfl,aH wp rfl rfl ?_⟩;cases m:x.inv.iN 8&&x.dy.iN 8 with
  | false =>
   refine Z0 ?_;exact s m
  | true =>
   refine Z1 K ?_;exact ⟨ae a.aJ - (i+1),aD,i+1,aD,rfl,g m,rfl⟩
 have b:i=ae a.aJ:=aD;have hL:∀j,j < ae a.aJ->Hs (af a.aJ j ah)=aq:=by rw[<-b];exact l
 clear l C D;refine Y1 z ?_;refine aZ (fun n e H=>∃i:Nat,i<=ae a.aN/\n=ae a.aN - i/\(∀j,j < i->A5 (af a.aN j ah)=aq) /\
  e=[(1,.fp (c9 a) 0),(43,.seq 6 ar (a.aN.map dI)),(44,.q0 (ae a.aN:Int)),(45,.q0 (i:Int))]) ⟨0,aD,rfl,fun j h=>aD,rfl⟩ ?_;clear z b i;rintro n2 _ H ⟨i,C,D,l,rfl⟩;by_cases z:(i:Int) < (ae a.aN:Int)
 .have K:=ws i;have o:af a.aN i ah∈a.aN:=bS aD;have ⟨V,fa,A⟩:=v.Na _ o;have s:∀{H:aF},A5 (af a.aN i ah)=ar->Fin 0 (.v0 ar) H (.v0 (eR a)) []:=fun h=>bad (Xh o h);have g:A5 (af a.aN i ah)=aq->∀j,j < i+1->A5 (af a.aN j ah)=aq:=ie (p:=A5) l;generalize W:af a.aN i ah=x at *;have wp:=Ol 8 [x.guard] aq aO (fun p r=>by simp only[aiz,ajr,akD] at r;rw[r];exact V);have w:[x.guard].all (Pl.iN 8)=(x.guard.iN 8&&aq):=rfl;rw[w,aiM] at wp;refine Z2 z W ?_;refine ⟨aD,rfl,aH wp rfl rfl ?_⟩;cases m:x.guard.iN 8 with
  | false =>
   refine Z0 ?_;exact s (by unfold A5;rw[m];rfl)
  | true =>
   by_cases M:20 < (ae x.cO:Int)
   .refine Z1 M ?_;exact s (by unfold A5;rw[aif (show ¬ae x.cO<=20 by omega)];simp)
   refine Z1 M ?_;have R:A5 x=x.cO.all Lb:=by unfold A5;rw[m,air (show ae x.cO<=20 by omega)];rfl
   refine aZ (fun k e G=>∃j:Nat,j<=ae x.cO/\k=ae x.cO - j/\(∀q,q < j->Lb (af x.cO q ah)=aq) /\
    e=[(1,.fp (c9 a) 0),(43,.seq 6 ar (a.aN.map dI)),(44,.q0 (ae a.aN:Int)),(45,.q0 (i:Int)),(61,.seq 4 ar (x.cO.map dX)),(62,.q0 (ae x.cO:Int)),(63,.q0 (j:Int))]) ⟨0,aD,rfl,fun j h=>aD,rfl⟩ ?_;rintro k _ G ⟨j,hj,hk,X,rfl⟩;by_cases t:(j:Int) < (ae x.cO:Int)
   .have U:=ws j;have I:af x.cO j ah∈x.cO:=bS aD;have J:Lb (af x.cO j ah)=aq->∀q,q < j+1->Lb (af x.cO q ah)=aq:=ie (p:=Lb) X;generalize T:af x.cO j ah=y at *;by_cases N:20 < (ae y.f.c:Int)
    .refine Y3 t T N ?_;exact ⟨aD,s (by rw[R];exact ajq.2 ⟨y,I,by unfold Lb;rw[aif (show ¬ae y.f.c<=20 by omega)];decide⟩)⟩
    .refine Y4 t T N U ?_;exact ⟨aD,ae x.cO - (j+1),aD,j+1,aD,rfl,fun q S=>akB (J (air aD) q S),rfl⟩
   .refine Y2 t K ?_;exact ⟨ae a.aN - (i+1),aD,i+1,aD,rfl,g (by rw[R];exact jk (p:=Lb) (d:=ah) (fun q S=>X q aD)),rfl⟩
 have b:i=ae a.aN:=aD;have hJ:∀j,j < ae a.aN->A5 (af a.aN j ah)=aq:=by rw[<-b];exact l
 clear l C D;refine Y1 z ?_;refine aZ (fun n e H=>∃i:Nat,i<=ae a.init/\n=ae a.init - i/\(∀j,j < i->Ht (af a.init j ah)=aq) /\
  e=[(75,.seq 3 ar (a.init.map iF)),(76,.q0 (ae a.init:Int)),(77,.q0 (i:Int))]) ⟨0,aD,rfl,fun j h=>aD,rfl⟩ ?_;clear z b i;rintro n3 _ H ⟨i,C,D,l,rfl⟩;by_cases z:(i:Int) < (ae a.init:Int)
 .have K:=ws i;have o:af a.init i ah∈a.init:=bS aD;have A:=v.Fv _ o;have s:∀{H:aF},Ht (af a.init i ah)=ar->Fin 0 (.v0 ar) H (.v0 (eR a)) []:=fun h=>bad (Xg o h);have g:Ht (af a.init i ah)=aq->∀j,j < i+1->Ht (af a.init j ah)=aq:=ie (p:=Ht) l;generalize W:af a.init i ah=x at *;have wp:=Ol 8 [x.set] aq aO (fun p r=>by simp only[aiz,ajr,akD] at r;rw[r];exact A);have w:[x.set].all (Pl.iN 8)=(x.set.iN 8&&aq):=rfl;rw[w,aiM] at wp;refine Z2 z W ?_;refine ⟨aD,rfl,aH wp rfl rfl ?_⟩;cases m:x.set.iN 8 with
  | false =>
   refine Z0 ?_;exact s m
  | true =>
   refine Z1 K ?_;exact ⟨ae a.init - (i+1),aD,i+1,aD,rfl,g m,rfl⟩
 have b:i=ae a.init:=aD;have hI:∀j,j < ae a.init->Ht (af a.init j ah)=aq:=by rw[<-b];exact l
 refine Y1 z ?_;exact aW (by rw[xj,air L,jk (p:=Hs) hL,jk (p:=A5) hJ,jk (p:=Ht) hI];rfl) rfl
abbrev II (p:Pl):Bool:=decide (ae p.l<=120)
def Ed (ps:List Pl) (b:Bool) (s:ae ps < 1000000):bg prog 36 [.seq 2 b (ps.map p9)] (.v0 (ps.all II)):=by
 refine pw func36 ?_;refine Y ?_;refine aZ (fun k e H=>∃i:Nat,i<=ae ps/\k=ae ps - i/\(∀j,j < i->II (af ps j ah)=aq) /\
  e=[(5,.seq 2 b (ps.map p9)),(6,.q0 (ae ps:Int)),(7,.q0 (i:Int))]) ⟨0,aD,rfl,fun j h=>aD,rfl⟩ ?_;rintro k _ H ⟨i,n,r,a,rfl⟩;by_cases y:(i:Int) < (ae ps:Int)
 .have f:=ws i;have g:af ps i ah∈ps:=bS aD;have z:=ie (p:=II) a;generalize c:af ps i ah=x at *;by_cases w:120 < (ae x.l:Int)
  .refine Y3 y c w ?_;exact ⟨aD,aW (by rw[ajq.2 ⟨x,g,by unfold II;rw[aif (show ¬ae x.l<=120 by omega)];decide⟩]) rfl⟩
  .refine Y4 y c w f ?_;exact ⟨aD,ae ps - (i+1),aD,i+1,aD,rfl,fun q m=>akB (z (air aD) q m),rfl⟩
 .refine Y1 y ?_;exact aW (by rw[jk (p:=II) (d:=ah) (fun j o=>a j (by omega))]) rfl
abbrev Ja (x:Lc):Bool:=II x.inv&&II x.dy
abbrev I9 (x:Jp):Bool:=II x.guard
abbrev La (z:Zn):Bool:=II z.set
abbrev Es (a:Au):Bool:=decide (a.bA<=4/\ae a.aJ<=12/\ae a.aN<=40/\ae a.init<=12)
def UJ (a:Au):Dd a=(Es a&&(a.aJ.all Ja&&(a.aN.all I9&&a.init.all La))):=rfl
def HK {α:Type} [Inhabited α] {p:α->Bool} {l:List α} {i:Nat} (h:i < ae l):(l.take (i+1)).all p=((l.take i).all p&&p (af l i ah)):=by rw[lg h,ajk];simp
def TF (a:Au) (D:ae a.aJ < 1000000) (C:ae a.aN < 1000000) (B:ae a.init < 1000000):bg prog 19 [.agg (c9 a)] (.v0 (Dd a)):=by
 refine pc func19 B3 ?_;rw[UJ];have z:WP prog 79 qq (jh [.t 2] 0 (.v0 (Es a&&(a.aJ.all Ja&&(a.aN.all I9&&a.init.all La)))) []) [(1,.fp (c9 a) 0),(3,.v0 (Es a))] []:=by
  generalize Es a=j;refine uz ?_;refine Y ?_;refine aZ (fun n e H=>∃i:Nat,i<=ae a.aJ/\n=ae a.aJ - i /\
   e=[(1,.fp (c9 a) 0),(3,.v0 (j&&(a.aJ.take i).all Ja))]++[(32,.seq 4 ar (a.aJ.map iy)),(33,.q0 (ae a.aJ:Int)),(34,.q0 (i:Int))]) (n:=ae a.aJ) ⟨0,aD,rfl,by rw[ank,ajd,aiM];rfl⟩ ?_;rintro E _ X ⟨i,f,g,rfl⟩;simp only[aje,aiy];by_cases h:(i:Int) < (ae a.aJ:Int)
  .have y:=ws i;have b:=HK (p:=Ja) (show i < ae a.aJ by omega);generalize c:af a.aJ i ah=x at *;have wp:=Ed [x.inv,x.dy] aq aO;cases w:(j&&(a.aJ.take i).all Ja) with
   | false =>
    refine Y2 h c ?_;exact ⟨aD,ae a.aJ - (i+1),aD,i+1,aD,rfl,by rw[b,<-akx,w,y];rfl⟩
   | true =>
    refine Z2 h c ?_;refine ⟨aD,rfl,aH wp rfl rfl ?_⟩;refine Y1 y ?_;exact ⟨ae a.aJ - (i+1),aD,i+1,aD,rfl,by rw[show (j&&(a.aJ.take (i+1)).all Ja)=Ja x by rw[b,<-akx,w,ajg]];simp[Ja]⟩
  have k:i=ae a.aJ:=aD;subst k;rw[aiK];refine Y1 h ?_;clear h f g;generalize r:(j&&a.aJ.all Ja)=l;refine aZ (fun n e H=>∃i:Nat,i<=ae a.aN/\n=ae a.aN - i /\
   e=[(1,.fp (c9 a) 0),(3,.v0 (l&&(a.aN.take i).all I9))]++[(49,.seq 6 ar (a.aN.map dI)),(50,.q0 (ae a.aN:Int)),(51,.q0 (i:Int))]) (n:=ae a.aN) ⟨0,aD,rfl,by rw[ank,ajd,aiM];rfl⟩ ?_;rintro F _ W ⟨i,f,g,rfl⟩;simp only[aje,aiy];by_cases h:(i:Int) < (ae a.aN:Int)
  .have y:=ws i;have b:=HK (p:=I9) (show i < ae a.aN by omega);generalize c:af a.aN i ah=x at *;have wp:=Ed [x.guard] aq aO;cases w:(l&&(a.aN.take i).all I9) with
   | false =>
    refine Y2 h c ?_;exact ⟨aD,ae a.aN - (i+1),aD,i+1,aD,rfl,by rw[b,<-akx,w,y];rfl⟩
   | true =>
    refine Z2 h c ?_;refine ⟨aD,rfl,aH wp rfl rfl ?_⟩;refine Y1 y ?_;exact ⟨ae a.aN - (i+1),aD,i+1,aD,rfl,by rw[show (l&&(a.aN.take (i+1)).all I9)=I9 x by rw[b,<-akx,w,ajg]];simp[I9]⟩
  have k:i=ae a.aN:=aD;subst k;rw[aiK];refine Y1 h ?_;clear h f g;generalize s:(l&&a.aN.all I9)=o;refine aZ (fun n e H=>∃i:Nat,i<=ae a.init/\n=ae a.init - i /\
   e=[(3,.v0 (o&&(a.init.take i).all La))]++[(64,.seq 3 ar (a.init.map iF)),(65,.q0 (ae a.init:Int)),(66,.q0 (i:Int))]) (n:=ae a.init) ⟨0,aD,rfl,by rw[ank,ajd,aiM];rfl⟩ ?_;rintro G _ A ⟨i,f,g,rfl⟩;simp only[aje,aiy];by_cases h:(i:Int) < (ae a.init:Int)
  .have y:=ws i;have b:=HK (p:=La) (show i < ae a.init by omega);generalize c:af a.init i ah=x at *;have wp:=Ed [x.set] aq aO;cases w:(o&&(a.init.take i).all La) with
   | false =>
    refine Y2 h c ?_;exact ⟨aD,ae a.init - (i+1),aD,i+1,aD,rfl,by rw[b,<-akx,w,y];rfl⟩
   | true =>
    refine Z2 h c ?_;refine ⟨aD,rfl,aH wp rfl rfl ?_⟩;refine Y1 y ?_;exact ⟨ae a.init - (i+1),aD,i+1,aD,rfl,by rw[show (o&&(a.init.take (i+1)).all La)=La x by rw[b,<-akx,w,ajg]];simp[La]⟩
  have k:i=ae a.init:=aD;subst k;rw[aiK];refine Y1 h ?_;clear h f g;exact aW (by rw[<-s,<-r,akx,akx]) rfl
 refine uz ?_;by_cases m:a.bA<=4;rotate_left
 .rw[show Es a=ar from aif (by omega)] at z;refine Z1 m ?_;rw[show Es a=ar from aif (by omega)];exact z
 by_cases q:(ae a.aJ:Int)<=12;rotate_left
 .rw[show Es a=ar from aif (by omega)] at z;refine Z2 m q ?_;rw[show Es a=ar from aif (by omega)];exact z
 by_cases v:(ae a.aN:Int)<=40;rotate_left
 .rw[show Es a=ar from aif (by omega)] at z;refine Z3 m q v ?_;rw[show Es a=ar from aif (by omega)];exact z
 have e:Es a=decide ((ae a.init:Int)<=12):=by unfold Es;by_cases K:(ae a.init:Int)<=12<;>simp[K]<;>omega
 rw[e] at z;refine Z3 m q v ?_;rw[e];exact z
def TG (f:Fm) (h:ae f.c < 1000000):bg prog 26 [.agg (fC f),.agg (fC f)] (.v0 aq):=by have:=RD f f aD;rw[air ⟨rfl,rfl⟩] at this;exact this
def GQ (p:Pl) (k:mC p.l):bg prog 25 [.agg (p9 p),.agg (p9 p)] (.v0 aq):=by
 have c:=k.1;refine pw func25 ?_;refine Z0 ?_;refine aZ (fun n e H=>∃i:Nat,i<=ae p.l/\n=ae p.l - i /\
  e=[(3,.fp (p9 p) 0),(22,.seq 3 ar (p.l.map cC)),(23,.q0 (ae p.l:Int)),(24,.q0 (i:Int))]) ⟨0,aD,rfl,rfl⟩ ?_;rintro n _ H ⟨i,g,j,rfl⟩;by_cases h:(i:Int) < (ae p.l:Int)
 .have z:au .i64 ((i:Int)+1)=((i+1:Nat):Int):=by rw[wrap_i64 aD aD];rfl
  have a:af p.l i ah∈p.l:=bS aD;have w:=k.2 _ a;generalize b:af p.l i ah=x at *;have y:(x.e==x.e)=aq:=aO;simp only[go_sem,↓reduceIte,Nat.reduceLeDiff,ahZ,ajH,akg,Bool.xor_self,h,b,y];refine ⟨aD,aD,aD,aH (TG x.f w) rfl rfl ?_⟩;refine Z1 z ?_;exact ⟨ae p.l - (i+1),aD,i+1,aD,rfl,rfl⟩
 .refine Y1 h ?_;exact aW rfl rfl
def TB (a:Au) (z:AuS a):bg prog 11 [.agg (c9 a),.agg (c9 a)] (.v0 aq):=by
 have L:=z.aJ;have J:=z.aN;have I:=z.init;refine pw func11 ?_;refine Z0 ?_;refine aZ (fun n e H=>∃i:Nat,i<=ae a.aJ/\n=ae a.aJ - i /\
  e=[(2,.fp (c9 a) 0),(3,.fp (c9 a) 0),(48,.seq 4 ar (a.aJ.map iy)),(49,.q0 (ae a.aJ:Int)),(50,.q0 (i:Int))]) ⟨0,aD,rfl,rfl⟩ ?_;rintro n _ H ⟨i,l,m,rfl⟩;by_cases h:(i:Int) < (ae a.aJ:Int)
 .have b:au .i64 ((i:Int)+1)=((i+1:Nat):Int):=by rw[wrap_i64 aD aD];rfl
  have g:af a.aJ i ah∈a.aJ:=bS aD;have ⟨r,X⟩:=z.FD _ g;generalize w:af a.aJ i ah=x at *;refine Z3 akg h w ?_;refine ⟨aD,aD,aH (GQ x.inv r) rfl rfl ?_⟩;refine Z1 w ?_;refine ⟨aD,aH (GQ x.dy X) rfl rfl ?_⟩;refine Z1 b ?_;exact ⟨ae a.aJ - (i+1),aD,i+1,aD,rfl,rfl⟩
 clear l m;refine Y1 h ?_;refine aZ (fun n e H=>∃i:Nat,i<=ae a.aN/\n=ae a.aN - i /\
  e=[(2,.fp (c9 a) 0),(3,.fp (c9 a) 0),(79,.seq 6 ar (a.aN.map dI)),(80,.q0 (ae a.aN:Int)),(81,.q0 (i:Int))]) ⟨0,aD,rfl,rfl⟩ ?_;rintro n _ H ⟨i,l,m,rfl⟩;by_cases h:(i:Int) < (ae a.aN:Int)
 .have b:au .i64 ((i:Int)+1)=((i+1:Nat):Int):=by rw[wrap_i64 aD aD];rfl
  have g:af a.aN i ah∈a.aN:=bS aD;have ⟨W,D,A⟩:=z.Na _ g;generalize w:af a.aN i ah=x at *;refine Z3 akg h w ?_;refine ⟨aD,aD,aH (GQ x.guard W) rfl rfl ?_⟩;refine Z0 ?_;refine aZ (fun k e G=>∃j:Nat,j<=ae x.cO/\k=ae x.cO - j/\∃q:Nat,
   e=[(2,.fp (c9 a) 0),(3,.fp (c9 a) 0),(9,.ptr q 0 0 0),(79,.seq 6 ar (a.aN.map dI)),(80,.q0 (ae a.aN:Int)),(81,.q0 (i:Int)),(128,.seq 4 ar (x.cO.map dX)),(129,.q0 (ae x.cO:Int)),(130,.q0 (j:Int))]/\aI G q 0=ak ⟨6,0,[dI x]⟩) ⟨0,aD,rfl,_,rfl,by simp[aI]⟩ ?_;rintro k _ G ⟨j,E,F,q,rfl,p⟩;by_cases c:(j:Int) < (ae x.cO:Int)
  .have v:au .i64 ((j:Int)+1)=((j+1:Nat):Int):=by rw[wrap_i64 aD aD];rfl
   have s:af x.cO j ah∈x.cO:=bS aD;have B:=A _ s;generalize C:af x.cO j ah=y at *;have t:∀o K,bk (G++[o]) q 0 K=K ⟨6,0,[dI x]⟩:=fun o K=>aK ((cJ (aP p)).trans p) K;refine Z4 akg c C t ?_;refine ⟨aD,aD,aH (TG y.f B) rfl rfl ?_⟩;refine Z1 v ?_;exact ⟨ae x.cO - (j+1),aD,j+1,aD,rfl,q,rfl,(cJ (aP p)).trans p⟩
  .refine Y2 c b ?_;exact ⟨ae a.aN - (i+1),aD,i+1,aD,rfl,rfl⟩
 clear l m;refine Y1 h ?_;refine aZ (fun n e H=>∃i:Nat,i<=ae a.init/\n=ae a.init - i /\
  e=[(3,.fp (c9 a) 0),(163,.seq 3 ar (a.init.map iF)),(164,.q0 (ae a.init:Int)),(165,.q0 (i:Int))]) ⟨0,aD,rfl,rfl⟩ ?_;rintro n _ H ⟨i,l,m,rfl⟩;by_cases h:(i:Int) < (ae a.init:Int)
 .have b:au .i64 ((i:Int)+1)=((i+1:Nat):Int):=by rw[wrap_i64 aD aD];rfl
  have g:af a.init i ah∈a.init:=bS aD;have r:=z.Fv _ g;generalize w:af a.init i ah=x at *;refine Z3 akg h w ?_;refine ⟨aD,aD,aD,aH (GQ x.set r) rfl rfl ?_⟩;refine Z1 b ?_;exact ⟨ae a.init - (i+1),aD,i+1,aD,rfl,rfl⟩
 refine Y1 h ?_;exact aW rfl rfl
def BT {k:Nat} {v t:AV} {ys:List (List AV)} {H H':aF} (h:Idl H) (B:∀C f l,v = .seq C f l->l.all (fun x=>x.all bT)=aq) (A:ys.all (fun x=>x.all bT)=aq) (W:∀K:AV->aF->Prop,bX k v ys H K=K t H'):Idl H':=by
 have y:il k H v ys=ak (t,H'):=by
  have:=W (fun u G=>u=t/\G=H');simp only[bX,akg,eq_iff_iff,iff_true] at this;cases e:il k H v ys with
  | none=>rw[e] at this;exact absurd this (by simp[bO])
  | some p =>
   rw[e] at this;have ⟨a,b⟩:=this;rw[<-a,<-b]
 have s:∀n,ys.all (fun x=>x.all (bp n))=aq:=fun n=>fZ _ A;unfold il at y;split at y
 .split at y<;>first | (simp only[akd,ak1] at y;rw[<-y.2];exact h) | simp at y
 .split at y
  .split at y
   .simp only[akd,ak1] at y;rw[<-y.2];exact h.app (s _)
   .simp at y
  .split at y
   .simp only[akd,ak1] at y;rw[<-y.2];refine h.app ?_;show (_++ys).all (fun x=>x.all (bp (ae H+1)))=aq;rw[ajk,fZ _ (B _ _ _ rfl),s];rfl
   .simp at y
  .rename_i D ver i n;have ⟨j,q,y⟩:=ah7.1 y;have r:j.xs.all (fun x=>x.all (bp (ae H)))=aq:=by
    have:cg (ae H) (ak j)=aq:=by have o:=h;unfold Idl at o;rw[ah4] at o;exact o _ (FF q)
    exact this
   have g:∀(l ws:List (List AV)),(∀z,z∈l->z∈j.xs)->(l++ys++ws).all (fun x=>x.all (bp (ae H)))=aq\/¬(∀z,z∈ws->z∈j.xs):=fun l ws c=>by
    by_cases X:∀z,z∈ws->z∈j.xs
    .left;rw[ah4] at r ⊢;intro z m;simp only[aiE] at m;rcases m with (w | w) | w
     .exact r z (c z w)
     .exact ah4.1 (s _) z w
     .exact r z (X z w)
    .right;exact X
   split at y
   .split at y
    .simp only[akd,ak1] at y;rw[<-y.2];refine h.set ?_;rcases g (j.xs.drop i) [] (fun z c=>aju c) with w | w
     .rw[aiu] at w;exact w
     .exact absurd (fun z c=>by simp at c) w
    .simp at y
   .split at y
    .simp only[akd,ak1] at y;rw[<-y.2];refine h.set ?_;rcases g (j.xs.take (i+n)) (j.xs.drop (i+n+ae ys)) (fun z c=>ajP c) with w | w
     .exact w
     .exact absurd (fun z c=>aju c) w
    .simp at y
  .simp at y
def BR {n0 k:Nat} {H:aF} {v:AV} {xs:List (List AV)} (h:Acc n0 H k v xs) (w:xs.all (fun x=>x.all bT)=aq):∀z f y,v = .seq z f y->y.all (fun x=>x.all bT)=aq:=by
 intro z f y e;cases h with
 | nil=>cases e
 | sq=>cases e;exact w
 | sl=>cases e
def qg {n0 k n:Nat} {H:aF} {v:AV} {xs:List (List AV)} (h:Acc n0 H k v xs) (z:ae H<=n):bp n v=aq:=by
 cases h with
 | nil=>rfl
 | sq=>rfl
 | sl y x=>exact air (cn (aP x))
def Qz {f:FuncId} {args args2:List AV} {Post:AV->aF->Prop} {R:AV->AV->Prop} {H g:aF} (D:WkS (ae H) H g R) (m:ae args2=ae args) (C:∀(j:Nat) a b,args[j]?=ak a->args2[j]?=ak b->R a b) (h:cR P f args2 g Post):cR P f args H Post:=by
 have ⟨K,X⟩:=h;refine ⟨K,fun I β w n s k=>?_⟩;have ⟨i,o,J,W,E⟩:=D I β w s;have x:=E I β H w (ahZ _) s.jr (.refl _ _ _ _);have y:cG i o args2 n:=by refine ⟨m ▸ k.1,fun j b v z t=>?_⟩;have A:=m ▸ (aid.1 z).1;have l:=ah6 A;exact W _ _ _ (C j _ _ l z) (k.2 j _ v l t)
 refine (X i o w n J y).mono fun S T B=>?_;have ⟨rv,r,p,q,O,z,N,F,e,c⟩:=B;exact ⟨rv,r,p,q,O,z,x.trans N,F,e,c⟩
def Nd (l:List Lc):(l.map iy).all (fun x=>x.all bT)=aq:=by rw[aj6,ah4];exact fun c _=>rfl
def Nb (l:List Jp):(l.map dI).all (fun x=>x.all bT)=aq:=by rw[aj6,ah4];exact fun c _=>rfl
def OB (l:List Zn):(l.map iF).all (fun x=>x.all bT)=aq:=by rw[aj6,ah4];exact fun c _=>rfl
def LI (l:List (Int × Int)):(l.map sD).all (fun x=>x.all bT)=aq:=by rw[aj6,ah4];exact fun c _=>rfl
structure RfR (H:aF) (d:Int) (vl vi vj vp:AV) (L:List Lc) (Z:List Zn) (M:JmP):Prop where
 o0:aI H 0 0=some ⟨4,0,[[.c (.int .i64 0),.nil,.nil,.nil]]⟩
 o1:aI H 1 0=some ⟨4,0,[[.c (.int .i64 d),vl,.nil,vi]]⟩
 jm:JmR 3 H 2 vj vp M
 al:Acc 3 H 4 vl (L.map iy)
 ai:Acc 3 H 3 vi (Z.map iF)
 uZ:∀id,id∈aG vl->id∉aG vj
 w9:∀id,id∈aG vl->id∉aG vp
 uY:∀id,id∈aG vl->id∉aG vi
 MR:∀id,id∈aG vi->id∉aG vj
 w7:∀id,id∈aG vi->id∉aG vp
 fj:Idl H
section
variable {H G:aF} {d:Int} {vl vi vj vp:AV} {L:List Lc} {Z:List Zn} {M:JmP}
def RfR.len (h:RfR H d vl vi vj vp L Z M):3<=ae H:=cn (aP h.jm.ob)
def JmR.aQ (h:JmR n0 H m vj vp M) (k:aL H G ids) (hm:m∉ids) (x:∀id,id∈aG vj->id∉ids) (y:∀id,id∈aG vp->id∉ids):JmR n0 G m vj vp M :=
 ⟨(k.2 m (aP h.ob) hm 0).trans h.ob,h.lt,h.aj.aQ k x,h.ap.aQ k y,h.ne⟩
def RfR.aQ (h:RfR H d vl vi vj vp L Z M) (k:aL H G []) (y:Idl G):RfR G d vl vi vj vp L Z M:=by have e:=fun z x=>k.2 z x aO 0;have w:=h.len;exact ⟨(e 0 aD).trans h.o0,(e 1 aD).trans h.o1,h.jm.aQ k aO aO aO,h.al.aQ k aO,h.ai.aQ k aO,h.uZ,h.w9,h.uY,h.MR,h.w7,y⟩
def RfR.gT (h:RfR H d vl vi vj vp L Z M) (C:ae L < 1000000) (y:Lc) :
  ∃v G,(∀K,bX 4 vl [iy y] H K=K v G)/\(bB v=aq/\v.cells=[v]/\dA v=aq)/\aI G 1 0=ak ⟨4,0,[[.q0 d,vl,.nil,vi]]⟩/\RfR (G.set 1 (ak ⟨4,0,[[.q0 d,v,.nil,vi]]⟩)) d v vi vj vp (L++[y]) Z M:=by
 have W:=h.len;have ⟨v,G,n,o,b,B,r,s,t,X⟩:=h.al.app W bW (iy y);have ge:=fun k x=>(h.al.ge k x).1;have p:aI G 1 0=ak ⟨4,0,[[.q0 d,vl,.nil,vi]]⟩:=by rw[b.2 1 aD (fun z=>by have:=ge 1 z;omega)];exact h.o1
 have A:=BT h.fj (BR h.al (Nd _)) rfl n;have j:aL H (G.set 1 (ak ⟨4,0,[[.q0 d,v,.nil,vi]]⟩)) (1::aG vl):=⟨by simp;exact b.1,fun k a c w=>by simp only[aiz,alJ] at c;rw[aS (ait c.1),b.2 k a c.2]⟩;have m:∀u,(∀k,k∈aG vl->k∉aG u)->(∀k,k∈aG u->k < ae H)->∀k,k∈aG v->k∉aG u:=fun u e g k x q=>by
  rcases r k x with a | a
  .exact e k a q
  .have:=g k q;omega
 have l:∀u,(∀k,k∈aG vl->k∉aG u)->(∀k,k∈aG u->3<=k)->∀k,k∈aG u->k∉1::aG vl:=fun u e f k x z=>by
  simp only[aiz] at z;rcases z with a | a
  .have:=f k x;omega
  .exact e k a x
 refine ⟨v,G,n,⟨s,t,X⟩,p,⟨?_,bn (aP p),?_,aii ▸ o.hZ aR,h.ai.aQ j (l _ h.uY (fun k x=>(h.ai.ge k x).1)),m _ h.uZ (fun k x=>(h.jm.aj.ge k x).2),m _ h.w9 (fun k x=>(h.jm.ap.ge k x).2),m _ h.uY (fun k x=>(h.ai.ge k x).2),h.MR,h.w7,?_⟩⟩
 .rw[j.2 0 aD (by simp;exact fun z=>by have:=ge 0 z;omega)];exact h.o0
 .exact h.jm.aQ j (by simp;exact fun z=>cn (ge 2 z)) (l _ h.uZ (fun k x=>(h.jm.aj.ge k x).1)) (l _ h.w9 (fun k x=>(h.jm.ap.ge k x).1))
 .refine A.set ?_;have hv:=qg o (ahZ _);have i:=qg h.ai b.1;simp only[cg,ais,ajd,hv,i,aiM];rfl
def RfR.Ud (h:RfR H d vl vi vj vp L Z M) (I:ae Z < 1000000) (y:Zn) :
  ∃v G,(∀K,bX 3 vi [iF y] H K=K v G)/\(bB v=aq/\v.cells=[v]/\dA v=aq)/\aI G 1 0=ak ⟨4,0,[[.q0 d,vl,.nil,vi]]⟩/\RfR (G.set 1 (ak ⟨4,0,[[.q0 d,vl,.nil,v]]⟩)) d vl v vj vp L (Z++[y]) M:=by
 have D:=h.len;have ⟨v,G,p,q,e,F,t,X,W,A⟩:=h.ai.app D bW (iF y);have ge:=fun k x=>(h.ai.ge k x).1;have r:aI G 1 0=ak ⟨4,0,[[.q0 d,vl,.nil,vi]]⟩:=by rw[e.2 1 aD (fun z=>by have:=ge 1 z;omega)];exact h.o1
 have E:=BT h.fj (BR h.ai (OB _)) rfl p;have m:aL H (G.set 1 (ak ⟨4,0,[[.q0 d,vl,.nil,v]]⟩)) (1::aG vi):=⟨by simp;exact e.1,fun k c f w=>by simp only[aiz,alJ] at f;rw[aS (ait f.1),e.2 k c f.2]⟩;have o:∀u,(∀k,k∈aG vi->k∉aG u)->(∀k,k∈aG u->k < ae H)->∀k,k∈aG v->k∉aG u:=fun u g j k x s=>by
  rcases t k x with c | c
  .exact g k c s
  .have:=j k s;omega
 have n:∀u,(∀k,k∈aG vi->k∉aG u)->(∀k,k∈aG u->3<=k)->∀k,k∈aG u->k∉1::aG vi:=fun u g i k x z=>by
  simp only[aiz] at z;rcases z with c | c
  .have:=i k x;omega
  .exact g k c x
 refine ⟨v,G,p,⟨X,W,A⟩,r,⟨?_,bn (aP r),?_,h.al.aQ m (n _ (fun k a b=>h.uY k b a) (fun k x=>(h.al.ge k x).1)),aii ▸ q.hZ aR,h.uZ,h.w9,(fun k B C=>o _ (fun k a b=>h.uY k b a) (fun k x=>(h.al.ge k x).2) k C B),o _ h.MR (fun k x=>(h.jm.aj.ge k x).2),o _ h.w7 (fun k x=>(h.jm.ap.ge k x).2),?_⟩⟩
 .rw[m.2 0 aD (by simp;exact fun z=>by have:=ge 0 z;omega)];exact h.o0
 .exact h.jm.aQ m (by simp;exact fun z=>cn (ge 2 z)) (n _ h.MR (fun k x=>(h.jm.aj.ge k x).1)) (n _ h.w7 (fun k x=>(h.jm.ap.ge k x).1))
 .refine E.set ?_;have hv:=qg q (ahZ _);have l:=qg h.al e.1;simp only[cg,ais,ajd,hv,l,aiM];rfl
end
def Ym (h:JmR n0 H m n z M) (hn:n0<=ae H) (A:ae M.js < 1000000) (J:ae M.ps < 1000000) (i j:Int) (x:Jp) :
  cR prog 22 [.ptr m 0 0 0,.q0 i,.q0 j,.agg (dI x)] H fun r H'=>r = .bM []/\∃v X,JmR n0 H' m v X ⟨M.js++[x],M.ps++[(i,j)]⟩/\aL H H' (m::(aG n++aG z))/\(Idl H->Idl H')/\(∀id,id∈aG v->id∈aG n\/ae H<=id)/\(∀id,id∈aG X->id∈aG z\/ae H<=id):=by
 refine qw func22 ?_;have F:∀K,bk H m 0 K=K ⟨2,0,[[n,z]]⟩:=aK h.ob;have cj:=h.aj.cell;have cp:=h.ap.cell;have ⟨y,H',T,q,g,a4,U,a6,a7,a8⟩:=h.aj.app hn bW (dI x);have mn:∀id,id∈aG n->id≠m:=fun id k=>zU ((h.aj.ge id k).1) h.lt;have o1:aI H' m 0=ak ⟨2,0,[[n,z]]⟩:=by rw[g.2 m (aP h.ob) (fun I=>mn m I rfl)];exact h.ob
 have N:∀K,bk H' m 0 K=K ⟨2,0,[[n,z]]⟩:=aK o1;have o2:∀a,aI (H'.set m (ak ⟨2,0,a⟩)) m 0=ak ⟨2,0,a⟩:=fun a=>bn (aP o1);have O:∀a K,bk (H'.set m (ak ⟨2,0,a⟩)) m 0 K=K ⟨2,0,a⟩:=fun a K=>aK (o2 a) K;have B:∀K,bX 6 n [dI x] H K=K y H':=T;refine Y6 F B a6 a7 N O ?_;generalize W:H'.set m (ak ⟨2,0,[[y,z]]⟩)=G at *;have L:aL H' G [m]:=by rw[<-W];exact aL.write aO (fun j A w=>aS (ait A))
 have lG:ae G=ae H':=by rw[<-W];simp
 have pm:∀id,id∈aG z->id≠m:=fun id k=>zU ((h.ap.ge id k).1) h.lt;have vm:∀id,id∈aG y->id≠m:=fun id k=>zU ((q.ge id k).1) h.lt;have s:=(h.ap.aQ g (fun id k A=>h.ne id A k)).aQ L (fun id k=>bu (pm id k));have ⟨l,f,V,b2,p,b4,b5,b6,b7,b8⟩:=s.app (cn g.1) bW (sD (i,j));have q1:aI G m 0=ak ⟨2,0,[[y,z]]⟩:=by rw[<-W];exact o2 _
 have R:aI f m 0=ak ⟨2,0,[[y,z]]⟩:=by rw[p.2 m (aP q1) (fun I=>pm m I rfl)];exact q1
 have S:∀K,bk f m 0 K=K ⟨2,0,[[y,z]]⟩:=aK R;have q3:aI (f.set m (ak ⟨2,0,[[y,l]]⟩)) m 0=ak ⟨2,0,[[y,l]]⟩:=bn (aP R);have a0:∀a K,bk (f.set m (ak ⟨2,0,a⟩)) m 0 K=K ⟨2,0,a⟩:=fun a K=>aK (bn (aP R)) K;have C:∀K,bX 2 z [[AV.q0 i,.q0 j]] G K=K l f:=V;have vv:∀id,id∈aG y->id∉aG z:=fun id k J=>by
  rcases U id k with c | c
  .exact h.ne id c J
  .have:=(h.ap.ge id J).2;omega
 refine Y4 C b6 b7 S ?_;refine ⟨rfl,rfl,y,l,⟨q3,h.lt,?_,?_,?_⟩,?_,?_,?_,?_⟩
 .have:=((q.aQ L (fun id k=>bu (vm id k))).aQ p vv).hZ (b:=m) (o:=ak ⟨2,0,[[y,l]]⟩) h.lt;simpa using this
 .have:=b2.hZ (b:=m) (o:=ak ⟨2,0,[[y,l]]⟩) h.lt;simpa using this
 .intro id k t;rcases b5 id t with c | c
  .exact vv id k c
  .have:=(q.ge id k).2;omega
 .refine ⟨by have:=g.1;have:=p.1;simp;omega,fun id k e w=>?_⟩;simp only[aiz,aiE,alJ] at e;have l1:=g.1;have l2:=p.1;rw[aS (ait e.1),p.2 id aD e.2.2,L.2 id aD (by simpa using e.1),g.2 id k e.2.1]
 .intro hI;have i1:Idl H':=BT hI (BR h.aj (Nb _)) rfl T;have iG:Idl G:=by rw[<-W];refine i1.set ?_;have D:bp (ae H') y=aq:=qg q (ahZ _);have E:bp (ae H') z=aq:=qg h.ap g.1;simp only[cg,ais,ajd,D,E,aiM]
  have i2:Idl f:=BT iG (BR s (LI _)) rfl V;refine i2.set ?_;have D:bp (ae f) y=aq:=qg q (cn p.1);have E:bp (ae f) l=aq:=qg b2 (ahZ _);simp only[cg,ais,ajd,D,E,aiM]
 .intro id k;rcases U id k with c | c
  .exact Or.inl c
  .exact Or.inr aD
 .intro id k;rcases b5 id k with c | c
  .exact Or.inl c
  .exact Or.inr (cn g.1)
def RfR.Ub {H:aF} {d:Int} {vl J X B z:AV} {L:List Lc} {Z:List Zn} {M:JmP} {A:List As} {f t F D:Int} {g:List Cd} {x:Jp} (h:RfR H d vl J X B L Z M) (R:Acc 3 H 4 z (A.map dX)) (hJ:ae M.js < 1000000) (hP:ae M.ps < 1000000)
  (hl:∀id,id∈aG z->id∉aG vl) (hi:∀id,id∈aG z->id∉aG J) (G:∀id,id∈aG z->id∉aG X) (hp:∀id,id∈aG z->id∉aG B) (i j:Int) (hx:x=⟨f,t,F,⟨D,g⟩,A⟩) :
  cR prog 22 [.ptr 2 0 0 0,.q0 i,.q0 j,.agg [.q0 f,.q0 t,.q0 F,.q0 D,.seq 3 ar (g.map cC),z]] H
   fun r H'=>r = .bM []/\∃W C,RfR H' d vl J W C L Z ⟨M.js++[x],M.ps++[(i,j)]⟩:=by
 have K:∀id,id∈aG z->3<=id:=fun id y=>(R.ge id y).1;have cA:(A.map dX).all (fun x=>x.all bT)=aq:=jl _;have ⟨tA,nA,S,iA⟩:=R.Nm;have w:=(R.Ly (n:=ae H) cA).trans (qS (ae H) _);have kM:aL H (Dy H z) (aG z):=by
  cases z with
  | sl k id ver i n=>exact ⟨by simp[Dy],fun j _ G w=>by simp[aG] at G;exact aS (ait G)⟩
  | _=>exact aL.refl _ _
 have iM:Idl (Dy H z):=by
  cases z with
  | sl k id ver i n=>exact h.fj.set rfl
  | _=>exact h.fj
 have lM:ae (Dy H z)=ae H:=by
  cases z with
  | sl k id ver i n=>simp[Dy]
  | _=>rfl
 have jM:JmR 3 (Dy H z) 2 X B M:=h.jm.aQ kM (fun m=>cn (K 2 m)) (fun id a b=>G id b a) (fun id a b=>hp id b a);refine Qz (args2:=[.ptr 2 0 0 0,.q0 i,.q0 j,.agg (dI x)]) w rfl (fun n a a2 p s=>?_) ((Ym jM (by rw[lM];exact h.len) hJ hP i j x).mono fun r H' U=>?_)
 .have T:∀v:Value,cW z (A.map dX) (.c v) = .c v:=fun v=>jI (fun id _ m=>by simp[aG] at m)
  match n with
  | 0 =>
   simp at p s;subst p s;refine ⟨_,⟨rfl,rfl⟩,?_⟩;have:oR z (A.map dX) (.ptr 2 0 0 0) = .ptr 2 0 0 0:=by show cW z _ _=_;exact jI (fun id y m=>by simp[aG] at m;have:=K id y;omega)
   rw[this];exact bf.refl _
  | 1=>simp at p s;subst p s;exact ⟨_,⟨rfl,rfl⟩,by show bf (cW z _ _) _;rw[T];exact bf.refl _⟩
  | 2=>simp at p s;subst p s;exact ⟨_,⟨rfl,rfl⟩,by show bf (cW z _ _) _;rw[T];exact bf.refl _⟩
  | 3 =>
   simp at p s;subst p s;refine ⟨_,⟨?_,rfl⟩,?_⟩
   .show [AV.q0 f,.q0 t,.q0 F,.q0 D,.seq 3 ar (g.map cC),z].all iY=aq;simp only[ais,ajd,S,aiM];rfl
   .have e:oR z (A.map dX) (.agg [.q0 f,.q0 t,.q0 F,.q0 D,.seq 3 ar (g.map cC),z]) = .agg [.q0 f,.q0 t,.q0 F,.q0 D,.seq 3 ar (g.map cC),cW z (A.map dX) z]:=by simp only[oR,oQ,aiS,ajE,T];rw[jI (u := .seq 3 ar (g.map cC)) (fun id _ m=>by simp[aG] at m)]
    rw[e,hx];exact qO (.cons (bf.refl _) (.cons (bf.refl _) (.cons (bf.refl _) (.cons (bf.refl _) (.cons (bf.refl _) (.cons tA .nil))))))
  | n+4=>simp at p
 .have ⟨hr,W,C,O,V,iJ,nj,np⟩:=U;refine ⟨hr,W,C,?_⟩;have I:aL H H' (aG z++(2::(aG X++aG B))):=⟨cn V.1,fun id N E w=>by rw[aiE,alJ] at E;rw[V.2 id aD E.2,kM.2 id N E.1]⟩;have cK:∀u,(∀id,id∈aG z->id∉aG u)->(∀id,id∈aG u->id∉aG X)->(∀id,id∈aG u->id∉aG B)->(∀id,id∈aG u->3<=id)->∀id,id∈aG u->id∉aG z++(2::(aG X++aG B)):=fun u N E h3 h4 id y m=>by
   simp only[aiE,aiz] at m;rcases m with l | l | l | l
   .exact N id l y
   .have:=h4 id y;omega
   .exact E id y l
   .exact h3 id y l
  have o:∀q,q < 2->q∉aG z++(2::(aG X++aG B)):=fun q U m=>by
   simp only[aiE,aiz] at m;rcases m with l | l | l | l
   .have:=K q l;omega
   .omega
   .have:=(h.jm.aj.ge q l).1;omega
   .have:=(h.jm.ap.ge q l).1;omega
  have a0:=h.len;refine ⟨(I.2 0 aD (o 0 aD) 0).trans h.o0,(I.2 1 aD (o 1 aD) 0).trans h.o1,O,h.al.aQ I (cK vl hl h.uZ h.w9 (fun id y=>(h.al.ge id y).1)),h.ai.aQ I (cK J hi h.MR h.w7 (fun id y=>(h.ai.ge id y).1)),?_,?_,h.uY,?_,?_,iJ iM⟩
  .intro id y m;rcases nj id m with l | l
   .exact h.uZ id y l
   .have:=(h.al.ge id y).2;omega
  .intro id y m;rcases np id m with l | l
   .exact h.w9 id y l
   .have:=(h.al.ge id y).2;omega
  .intro id y m;rcases nj id m with l | l
   .exact h.MR id y l
   .have:=(h.ai.ge id y).2;omega
  .intro id y m;rcases np id m with l | l
   .exact h.w7 id y l
   .have:=(h.ai.ge id y).2;omega
abbrev S5 (a b:Au) (l:List Int) (fl:Bool):Env:=[(2,.seq 1 fl (br l)),(3,.fp (c9 a) 0),(4,.fp (c9 b) 0),(6,.ptr 0 0 0 0),(8,.ptr 1 0 0 0),(9,.ptr 2 0 0 0),(10,.q0 (ae b.aJ:Int))]
abbrev PR (a b:Au) (m k:Nat) (l:List Int):=jh [.cell 6 aq 4,.t 7] 0 (.bM [.agg (c9 (jd a b m k l)),.seq 2 ar (((cz a b l).map gp).map sD)]) []
section
variable {H:aF} {a b:Au} {m k:Nat} {l:List Int} {fl:Bool} {vl vi vj vp:AV}
def aaW (h:RfR H ((m:Int)+k) vl vi vj vp (jd a b m k l).aJ (jd a b m k l).init ⟨(jd a b m k l).aN,(cz a b l).map gp⟩) (e:Env) :
  WP prog 281 oE (PR a b m k l) ((6,.ptr 0 0 0 0)::(8,.ptr 1 0 0 0)::(9,.ptr 2 0 0 0)::e) H:=by
 refine uz ?_;have c0:=aK h.o0;have c1:=aK h.o1;have c:=aK h.jm.ob;have i:=aP h.o0;have l1:=aP h.o1;have B:=aP h.jm.ob;have r:(0:Nat)≠1:=aR;have t:(1:Nat)≠0:=aR;have v:(1:Nat)≠2:=aR;have A:(2:Nat)≠1:=aR;have W:(2:Nat)≠0:=aR;have s:(0:Nat)≠2:=aR;have wl:=h.al.cell;have q:=h.jm.aj.cell;have wi:=h.ai.cell;have wp:=h.jm.ap.cell;have o:∀x K,bk (H.set 1 (ak ⟨4,0,x⟩)) 1 0 K=K ⟨4,0,x⟩:=fun x K=>aK (bn l1) K;have j:∀x K,bk (H.set 1 (ak ⟨4,0,x⟩)) 0 0 K=K ⟨4,0,[[.q0 0,.nil,.nil,.nil]]⟩:=fun x K=>aK ((aS aR).trans h.o0) K;have n:∀x K,bk (H.set 1 (ak ⟨4,0,x⟩)) 2 0 K=K ⟨2,0,[[vj,vp]]⟩:=fun x K=>aK ((aS aR).trans h.jm.ob) K;have C:∀x y K,bk ((H.set 1 (ak ⟨4,0,x⟩)).set 0 (ak ⟨4,0,y⟩)) 2 0 K=K ⟨2,0,[[vj,vp]]⟩:=fun x y K=>aK ((aS aR).trans ((aS aR).trans h.jm.ob)) K;have p:∀x y K,bk ((H.set 1 (ak ⟨4,0,x⟩)).set 0 (ak ⟨4,0,y⟩)) 0 0 K=K ⟨4,0,y⟩:=fun x y K=>aK (bn (bu i)) K;simp only[go_sem,↓reduceIte,Nat.reduceLeDiff,ahZ,c1,c,wl,q,wi,o,j,n,p,Cx];have w:∀X Y:Option bz,(List.drop (ae H) ((H.set 1 X).set 0 Y)).all (cg (ae H))=aq:=fun X Y=>by rw[aih aO];rfl
 refine ⟨w _ _,w _ _,?_⟩;have z:∀{k u} {y:List (List AV)} X Y,Acc 3 H k u y->Acc 3 ((H.set 1 X).set 0 Y) k u y:=fun X Y f=>(f.hZ aR).hZ aR;exact CL.fin (n0:=3) ⟨z _ _ h.al,z _ _ h.jm.aj,z _ _ h.ai,z _ _ h.jm.ap,h.uZ,h.uY,h.w9,fun g a b=>h.MR g b a,h.jm.ne,h.w7⟩ (Nd _) (Nb _) (OB _) (LI _) (.int .i64 ((m:Int)+k)) []
def ik {n:Nat} {l:List Cd} (h:mT n l=aq):mC l:=⟨by have:=(rm.1 h).1.2.2;omega,fun c x=>by have:=KA h c x;have:=(rm.1 h).1;omega⟩
def Iq (z:3<=ae H) (x:s5 (fun a b=>bf (dD (ae H) 0 y [cs] a) b) e h) :
  s5 (fun a b=>bf (dD (ae H) 0 y [cs] a) b) ((4,.fp p 0)::(6,.ptr 0 0 0 0)::(8,.ptr 1 0 0 0)::(9,.ptr 2 0 0 0)::(10,.c v)::e) ((4,.fp p 0)::(6,.ptr 0 0 0 0)::(8,.ptr 1 0 0 0)::(9,.ptr 2 0 0 0)::(10,.c v)::h) :=
 .cons (bf.refl _) (.cons (lO aD) (.cons (lO aD) (.cons (lO aD) (.cons (bf.refl _) x))))
def wb (y:3<=ae H) (x:s5 (fun a b=>bf (dD (ae H) 0 z [cs] a) b) e h) :
  s5 (fun a b=>bf (dD (ae H) 0 z [cs] a) b) ((2,.seq 1 fl (br w))::(3,.fp q 0)::(4,.fp p 0)::(6,.ptr 0 0 0 0)::(8,.ptr 1 0 0 0)::(9,.ptr 2 0 0 0)::(10,.c v)::e) ((2,.seq 1 fl (br w))::(3,.fp q 0)::(4,.fp p 0)::(6,.ptr 0 0 0 0)::(8,.ptr 1 0 0 0)::(9,.ptr 2 0 0 0)::(10,.c v)::h) :=
 .cons (bf.refl _) (.cons (bf.refl _) (Iq y x))
def od (a b:Au) (i:Nat):List Zn:=(a.init.take i).flatMap fun x=>b.init.map (Ad b x)
def HD (h:i < ae a.init):od a b (i+1)=od a b i++b.init.map (Ad b (af a.init i ah)):=by unfold od;rw[lg h,ak5];simp
def JT (a b:Au):∀i,ae (od a b i)<=i*ae b.init
 | 0=>by simp[od]
 | i+1=>by
  have:=JT a b i;by_cases h:i < ae a.init
  .rw[HD h,ain,ah3,aiW];omega
  .have e:od a b (i+1)=od a b i:=by unfold od;rw[aiv aD,aiv aD]
   rw[e,aiW];omega
def aaV (o:VA0 a m) (p:VA0 b k) (h:RfR H ((m:Int)+k) vl .nil vj vp (jd a b m k l).aJ [] ⟨(jd a b m k l).aN,(cz a b l).map gp⟩) (S:Env) :
  WP prog 281 oD (PR a b m k l) (S5 a b l fl++S) H:=by
 refine uz ?_;generalize V:(jd a b m k l).aJ=L at *;generalize hM:(⟨(jd a b m k l).aN,(cz a b l).map gp⟩:JmP)=M at *;refine Z0 ?_;refine aZ (fun n e H=>∃(i:Nat) (vi:AV),i<=ae a.init/\n=ae a.init - i/\RfR H ((m:Int)+k) vl vi vj vp L (od a b i) M /\
  e=[(4,.fp (c9 b) 0),(6,.ptr 0 0 0 0),(8,.ptr 1 0 0 0),(9,.ptr 2 0 0 0),(10,.q0 (ae b.aJ:Int)),(242,.seq 3 ar (a.init.map iF)),(243,.q0 (ae a.init:Int)),(244,.q0 (i:Int))]) (n:=ae a.init) ⟨0,.nil,aD,rfl,h,rfl⟩ ?_;clear h;have ai:=o.i12;have E:=p.i12;have bl:=p.uH;rintro n _ H ⟨i,vi,hi,a2,h,rfl⟩;by_cases g:(i:Int) < (ae a.init:Int)
 .have J:au .i64 ((i:Int)+1)=((i+1:Nat):Int):=by rw[wrap_i64 (by omega) (by omega)];rfl
  have B:=HD (b:=b) (show i < ae a.init by omega);obtain ⟨X,W,a4⟩:=o.A7 _ (bS (show i < ae a.init by omega) (d:=ah));have a0:=o.uH;generalize hx:af a.init i ah=x at *;refine Y2 g hx ?_;refine ⟨aD,[(4,.fp (c9 b) 0),(6,.ptr 0 0 0 0),(8,.ptr 1 0 0 0),(9,.ptr 2 0 0 0),(10,.q0 (ae b.aJ:Int)),(26,.fp (iF x) 0),(242,.seq 3 ar (a.init.map iF)),(243,.q0 (ae a.init:Int)),(244,.q0 (i:Int))],H++[an],?_,?_⟩
  .exact gQ (cs:=iF x) rfl (Iq h.len (.cons fL (.cons (bf.refl _) (.cons (bf.refl _) (.cons (bf.refl _) .nil)))))
  refine Y ?_;have z:=h.aQ (aL.app H [an] []) (h.fj.app rfl);refine aZ (fun n e H=>∃(j:Nat) (vi:AV),j<=ae b.init/\n=ae b.init - j/\RfR H ((m:Int)+k) vl vi vj vp L (od a b i++(b.init.take j).map (Ad b x)) M /\
   e=[(4,.fp (c9 b) 0),(6,.ptr 0 0 0 0),(8,.ptr 1 0 0 0),(9,.ptr 2 0 0 0),(10,.q0 (ae b.aJ:Int)),(26,.fp (iF x) 0),(242,.seq 3 ar (a.init.map iF)),(243,.q0 (ae a.init:Int)),(244,.q0 (i:Int)),
    (249,.seq 3 ar (b.init.map iF)),(250,.q0 (ae b.init:Int)),(251,.q0 (j:Int))]) (n:=ae b.init) ⟨0,vi,aD,rfl,bu z,rfl⟩ ?_;clear h z vi;rintro n2 _ H ⟨j,vi,hj,a3,h,rfl⟩;by_cases w:(j:Int) < (ae b.init:Int)
  .have N:=ws j;have v:b.init.take (j+1)=b.init.take j++[af b.init j ah]:=lg aD;obtain ⟨a5,A,a6⟩:=p.A7 _ (bS (show j < ae b.init by omega) (d:=ah));generalize hy:af b.init j ah=y at *;have z:=h.aQ (aL.app H [an] []) (h.fj.app rfl);have f:ae (od a b i++(b.init.take j).map (Ad b x)) < 1000000:=by have q1:=JT a b i;have q2:i*ae b.init<=12*12:=akp aD E;simp;omega
   have ⟨C,G,D,I,T,U⟩:=z.Ud f (Ad b x y);have F:∀K,bk (H++[an]) 1 0 K=K ⟨4,0,[[.q0 ((m:Int)+k),vl,.nil,vi]]⟩:=aK z.o1;have r:∀K,bk G 1 0 K=K ⟨4,0,[[.q0 ((m:Int)+k),vl,.nil,vi]]⟩:=aK T;have wi:=h.ai.cell;have m1:0<=x.loc*(ae b.aJ:Int):=ajw X.1 aD;have m2:x.loc*(ae b.aJ:Int)<=12*12:=akJ (aik (by omega:x.loc<=12) aD) aD;have O:au .i64 (x.loc*(ae b.aJ:Int))=x.loc*(ae b.aJ:Int):=wrap_i64 aD aD;have R:au .i64 (x.loc*(ae b.aJ:Int)+y.loc)=x.loc*(ae b.aJ:Int)+y.loc:=wrap_i64 aD aD;have q:∀K,bX 3 vi [[.q0 (x.loc*(ae b.aJ:Int)+y.loc),.c (.int .i64 (x.set.both y.set).n),.seq 3 ar ((x.set.both y.set).l.map cC)]] (H++[an]) K=K C G:=D;refine Y2 w hy ?_;refine ⟨aD,[(4,.fp (c9 b) 0),(6,.ptr 0 0 0 0),(8,.ptr 1 0 0 0),(9,.ptr 2 0 0 0),(10,.q0 (ae b.aJ:Int)),(26,.fp (iF x) 0),(28,.fp (iF y) 0),(242,.seq 3 ar (a.init.map iF)),(243,.q0 (ae a.init:Int)),(244,.q0 (i:Int)),
    (249,.seq 3 ar (b.init.map iF)),(250,.q0 (ae b.init:Int)),(251,.q0 (j:Int))],H++[an],?_,?_⟩
   .exact gQ (cs:=iF y) rfl (Iq h.len (.cons (bf.refl _) (.cons fL (.cons (bf.refl _) (.cons (bf.refl _) (.cons (bf.refl _) (.cons (bf.refl _) (.cons (bf.refl _) (.cons (bf.refl _) .nil)))))))))
   refine Y3 F O R ?_;refine cX (tW x.set y.set (ik W) (ik A) (by have:=o.m4;omega) (by have:=p.m4;omega)) ?_;refine Y4 q I r N ?_;refine ⟨rfl,ae b.init - (j+1),aD,j+1,C,aD,rfl,?_,rfl⟩;rw[v,aii,<-aio];exact U
  .have t:j=ae b.init:=aD;subst t;refine Y2 w J ?_;rw[aiK] at h;refine ⟨ae a.init - (i+1),aD,i+1,vi,aD,rfl,by rw[B];exact h,rfl⟩
 .have s:i=ae a.init:=aD;subst s;refine Y1 g ?_;have hz:od a b (ae a.init)=(jd a b m k l).init:=by unfold od;rw[aiK];rfl
  rw[hz,<-V,<-hM] at h;exact aaW h _
end
def Acc.le {n0 x k:Nat} {H:aF} {v:AV} {xs:List (List AV)} (h:Acc n0 H k v xs) (w:x<=n0):Acc x H k v xs:=by
 cases h with
 | nil=>exact .nil
 | sq=>exact .sq
 | sl y z=>exact .sl (aiJ w y) z
section
variable {H H2:aF} {a b:Au} {m k:Nat} {l:List Int} {fl:Bool} {vl vi vj vp va:AV}
def RfR.Qw {d:Int} {L:List Lc} {Z:List Zn} {M:JmP} {A:List As} {f t p n:Int} {g:List Cd} {x:Jp} (h:RfR H d vl vi vj vp L Z M) (B:aL H H2 []) (W:Idl H2) (o:Acc (ae H) H2 4 va (A.map dX)) (q:ae M.js < 1000000) (s:ae M.ps < 1000000) (i j:Int) (X:x=⟨f,t,p,⟨n,g⟩,A⟩) :
  cR prog 22 [.ptr 2 0 0 0,.q0 i,.q0 j,.agg [.q0 f,.q0 t,.q0 p,.q0 n,.seq 3 ar (g.map cC),va]] H2
   fun r H'=>r = .bM []/\∃c e,RfR H' d vl vi c e L Z ⟨M.js++[x],M.ps++[(i,j)]⟩:=by
 have z:∀{D C:Nat} {u:AV} {E:List (List AV)},Acc D H C u E->∀y,y∈aG va->y∉aG u:=fun K y w v=>by have:=(o.ge y w).1;have:=(K.ge y v).2;omega
 exact (h.aQ B W).Ub (o.le h.len) q s (z h.al) (z h.ai) (z h.jm.aj) (z h.jm.ap) i j X
def Q4 {z:aF} {j:AV} {X Y:List (List AV)} (h:Acc (ae H) z 4 j X) (c:aL H z []) (r:Idl z) (cX:X.all (fun x=>x.all bT)=aq) (cY:Y.all (fun x=>x.all bT)=aq) (q:ae X+ae Y < 4000000000) :
  ∃y H2,(∀K,bX 4 j Y z K=K y H2)/\Acc (ae H) H2 4 y (X++Y)/\aL H H2 []/\Idl H2/\(bB y=aq/\y.cells=[y]/\dA y=aq):=by have ⟨y,H2,g,n,i,o⟩:=h.Ke (ys:=Y) c.1 q;refine ⟨y,H2,g,n,⟨aiJ c.1 i.1,fun f e _ w=>?_⟩,BT r (BR h cX) cY g,o⟩;rw[i.2 f (by have:=c.1;omega) (fun p=>by have:=(h.ge f p).1;omega),c.2 f e aO]
abbrev rM (a b:Au) (m k:Nat) (pre:List Lp):JmP:=⟨pre.map (n7 a b m k),pre.map gp⟩
def KE (pre:List Lp) (x:Lp):rM a b m k (pre++[x])=⟨(rM a b m k pre).js++[n7 a b m k x],(rM a b m k pre).ps++[(x.i,x.k)]⟩:=by show JmP.mk _ _=JmP.mk _ _;rw[aii,aii];rfl
def yK {n:Nat} {l:List As} (h:∀y,y∈l->kD n y=aq) (z:n<=8):∀y,y∈l->ae y.f.c < 1000000:=fun y x=>by
 have:=h y x;unfold kD at this;split at this
 .rw[ah2] at this;have:=(GF.1 this.1).1;omega
 .have:=(akB this).2.1;omega
def Jd (n:Nat):(aA n (⟨0,⟨[],0⟩,0⟩:As)).map dX=(aA n uG).map dX:=rfl
def aaU (q:VA0 a m) (s:VA0 b k) (hl:ae l < 1000000) (pre:List Lp) (E:ae pre<=3200) (X:pre++(aC (ae a.aN)).flatMap (oW a b l)=cz a b l) (h:RfR H ((m:Int)+k) vl .nil vj vp (jd a b m k l).aJ [] (rM a b m k pre)) (er:Env) :
  WP prog 281 oC (PR a b m k l) (S5 a b l fl++er) H:=by
 refine uz ?_;generalize hL:(jd a b m k l).aJ=L at *;have al:=q.uH;have bl:=s.uH;have aj:=q.Hu;have bj:=s.Hu;have am:=q.m4;have bm:=s.m4;have O:=q.bA;have R:=s.bA;refine Z0 ?_;refine aZ (fun n e H=>∃(i:Nat) (vj vp:AV),i<=ae a.aN/\n=ae a.aN - i/\ae (pre++(aC i).flatMap (oW a b l))<=3200+40*i/\RfR H ((m:Int)+k) vl .nil vj vp L [] (rM a b m k (pre++(aC i).flatMap (oW a b l))) /\
  e=[(2,.seq 1 fl (br l)),(3,.fp (c9 a) 0),(4,.fp (c9 b) 0),(6,.ptr 0 0 0 0),(8,.ptr 1 0 0 0),(9,.ptr 2 0 0 0),(10,.q0 (ae b.aJ:Int)),(177,.seq 6 ar (a.aN.map dI)),(178,.q0 (ae a.aN:Int)),(179,.q0 (i:Int))]) (n:=ae a.aN) ⟨0,vj,vp,aD,rfl,bu E,bu h,rfl⟩ ?_;clear h;rintro n _ H ⟨i,vj,vp,hi,a8,B,h,rfl⟩;by_cases C:(i:Int) < (ae a.aN:Int)
 .have e1:au .i64 ((i:Int)+1)=((i+1:Nat):Int):=by rw[wrap_i64 (by omega) (by omega)];rfl
  have W:=lD (f:=oW a b l) (k:=i);have V:=q.jmp _ (bS (show i < ae a.aN by omega) (d:=ah));generalize D:pre++(aC i).flatMap (oW a b l)=pr at *;generalize U:af a.aN i ah=x at *;have ⟨⟨x1,x2,x3,x4,x5,x6⟩,⟨xg,xn⟩,xl,xa⟩:=V;have xc:=yK xa aD;refine Y2 C U ?_;refine ⟨aD,[(2,.seq 1 fl (br l)),(3,.fp (c9 a) 0),(4,.fp (c9 b) 0),(6,.ptr 0 0 0 0),(8,.ptr 1 0 0 0),(9,.ptr 2 0 0 0),(10,.q0 (ae b.aJ:Int)),(21,.q0 (i:Int)),(22,.fp (dI x) 0),(177,.seq 6 ar (a.aN.map dI)),(178,.q0 (ae a.aN:Int)),(179,.q0 (i:Int))],H++[an],?_,?_⟩
  .exact gQ (cs:=dI x) rfl (wb h.len (.cons (bf.refl _) (.cons fL (.cons (bf.refl _) (.cons (bf.refl _) (.cons (bf.refl _) .nil))))))
  refine Y ?_;have v:=h.aQ (aL.app H [an] []) (h.fj.app rfl);clear h;refine aZ (fun n e H=>∃(j:Nat) (vj vp:AV),j<=ae b.aN/\n=ae b.aN - j/\ae (pr++kt a b l i j)<=3200+40*i+j/\RfR H ((m:Int)+k) vl .nil vj vp L [] (rM a b m k (pr++kt a b l i j)) /\
   e=[(2,.seq 1 fl (br l)),(3,.fp (c9 a) 0),(4,.fp (c9 b) 0),(6,.ptr 0 0 0 0),(8,.ptr 1 0 0 0),(9,.ptr 2 0 0 0),(10,.q0 (ae b.aJ:Int)),(21,.q0 (i:Int)),(22,.fp (dI x) 0),(177,.seq 6 ar (a.aN.map dI)),(178,.q0 (ae a.aN:Int)),(179,.q0 (i:Int)),(185,.seq 6 ar (b.aN.map dI)),(186,.q0 (ae b.aN:Int)),(187,.q0 (j:Int))]) (n:=ae b.aN) ⟨0,vj,vp,aD,rfl,by rw[show kt a b l i 0=[] from rfl,aiu];exact B,by rw[show kt a b l i 0=[] from rfl,aiu];exact v,rfl⟩ ?_;clear v;rintro n2 _ H ⟨j,vj,vp,hj,a9,z,h,rfl⟩;by_cases A:(j:Int) < (ae b.aN:Int)
  .have N:=ws j;have c:=JC a b l i j;generalize w:kt a b l i (j+1)=q1 at *;generalize b0:kt a b l i j=q0 at *;have a2:=s.jmp _ (bS (show j < ae b.aN by omega) (d:=ah));have o:A8 a b l i j=(l.contains x.label&&decide (x.label=(af b.aN j ah).label)):=by unfold A8;rw[U]
   generalize hy:af b.aN j ah=y at *;have ⟨⟨y1,y2,y3,y4,y5,y6⟩,⟨yg,yn⟩,yl,ya⟩:=a2;have yc:=yK ya aD;have v:=h.aQ (aL.app H [an] []) (h.fj.app rfl);refine Y2 A hy ?_;refine ⟨aD,[(2,.seq 1 fl (br l)),(3,.fp (c9 a) 0),(4,.fp (c9 b) 0),(6,.ptr 0 0 0 0),(8,.ptr 1 0 0 0),(9,.ptr 2 0 0 0),(10,.q0 (ae b.aJ:Int)),(21,.q0 (i:Int)),(22,.fp (dI x) 0),(23,.q0 (j:Int)),(24,.fp (dI y) 0),(177,.seq 6 ar (a.aN.map dI)),(178,.q0 (ae a.aN:Int)),(179,.q0 (i:Int)),(185,.seq 6 ar (b.aN.map dI)),(186,.q0 (ae b.aN:Int)),(187,.q0 (j:Int))],H++[an],?_,?_⟩
   .exact gQ (cs:=dI y) rfl (wb h.len (.cons (bf.refl _) (.cons (bf.refl _) (.cons (bf.refl _) (.cons fL (.cons (bf.refl _) (.cons (bf.refl _) (.cons (bf.refl _) (.cons (bf.refl _) (.cons (bf.refl _) (.cons (bf.refl _) .nil)))))))))))
   clear h;generalize H++[an]=H at *;have h:=v;clear v;have no:A8 a b l i j=ar->q1=q0:=fun hh=>by rw[c,hh];simp
   refine Y ?_;refine cX (Aq l x.label aD fl) ?_;by_cases J:l.contains x.label=aq;rotate_left
   .have G:l.contains x.label=ar:=bu J;have F:=no (by rw[o,G];rfl);rw[G];refine Y1 N ?_;exact ⟨ae b.aN - (j+1),aD,j+1,vj,vp,aD,rfl,by rw[w,F];exact aiJ z aD,by rw[w,F];exact h,rfl⟩
   by_cases I:x.label=y.label;rotate_left
   .have g:(x.label=y.label)=False:=aie I;have F:=no (by rw[o,aif I,ana]);rw[J];refine Z2 g N ?_;exact ⟨ae b.aN - (j+1),aD,j+1,vj,vp,aD,rfl,by rw[w,F];exact aiJ z aD,by rw[w,F];exact h,rfl⟩
   have g:(x.label=y.label)=True:=aiq I;rw[o,J,air I,aiM,ah1 rfl] at c;rw[J];have m1:0<=x.cI*(ae b.aJ:Int):=ajw x1 aD;have n1:x.cI*(ae b.aJ:Int)<=12*12:=akJ (aik (by omega:x.cI<=12) aD) aD;have w1:au .i64 (x.cI*(ae b.aJ:Int))=x.cI*(ae b.aJ:Int):=wrap_i64 aD aD;have u1:au .i64 (x.cI*(ae b.aJ:Int)+y.cI)=x.cI*(ae b.aJ:Int)+y.cI:=wrap_i64 aD aD;have m2:0<=x.to*(ae b.aJ:Int):=ajw x3 aD;have n2:x.to*(ae b.aJ:Int)<=12*12:=akJ (aik (by omega:x.to<=12) aD) aD;have w2:au .i64 (x.to*(ae b.aJ:Int))=x.to*(ae b.aJ:Int):=wrap_i64 aD aD;have u2:au .i64 (x.to*(ae b.aJ:Int)+y.to)=x.to*(ae b.aJ:Int)+y.to:=wrap_i64 aD aD;refine Z5 g w1 w2 u1 u2 ?_;refine cX (tW x.guard y.guard (ik xg) (ik yg) aD aD) ?_;refine Y1 R ?_;refine jJ (sY h.fj x.cO 0 k ar aD xc aD aD) ?_;have i1:=zg (k:=4) h.fj (jl (x.cO.map (As.wide 0 k)));have k1:aL H (nH H 4 ((x.cO.map (As.wide 0 k)).map dX)) []:=qY _ _ _;have a1:=vB H 4 ((x.cO.map (As.wide 0 k)).map dX);have a6:=a1.cell;generalize xO H 4 ((x.cO.map (As.wide 0 k)).map dX)=v1 at *;generalize nH H 4 ((x.cO.map (As.wide 0 k)).map dX)=p at *;refine Y1 O ?_;refine jJ (sY i1 y.cO m 0 ar aD yc aD aD) ?_;have i2:=zg (k:=4) i1 (jl (y.cO.map (As.wide m 0)));have k2:aL p (nH p 4 ((y.cO.map (As.wide m 0)).map dX)) []:=qY _ _ _;have a0:=Kc p 4 ((y.cO.map (As.wide m 0)).map dX);have a7:=(vB p 4 ((y.cO.map (As.wide m 0)).map dX)).cell;generalize xO p 4 ((y.cO.map (As.wide m 0)).map dX)=v3 at *;have ⟨v2,H2,a3,q2,q3,q4,M⟩:=Q4 (a1.aQ k2 aO) (k1.trans k2) i2 (jl _) (jl (y.cO.map (As.wide m 0))) bW;generalize nH p 4 ((y.cO.map (As.wide m 0)).map dX)=H3 at *;have ap:∀K,j4 4 v1 v3 H3 K=K v2 H2:=fun K=>Gi a0 ▸ a3 K;rw[<-aii] at q2;refine Y2 ap M ?_;refine cQ (RfR.Qw (f:=x.cI*(ae b.aJ:Int)+y.cI) (t:=x.to*(ae b.aJ:Int)+y.to) (x:=n7 a b m k (yB a b i j)) h q3 q4 q2 ?_ ?_ _ _ ?_) fun r H' hr=>?_
   .rw[ah3];omega
   .rw[ah3];omega
   .unfold n7 yB Vv;have e6:¬(i:Int) < 0:=aD;have e7:¬(j:Int) < 0:=aD;simp only[e6,e7,ajO,lE,ah9,U,hy]
   obtain ⟨rfl,a4,a5,h'⟩:=hr;refine Y1 N ?_;refine ⟨ae b.aN - (j+1),aD,j+1,a4,a5,aD,rfl,?_,?_,rfl⟩
   .rw[w,c,<-aio,ain];simp only[aiF,aiV];omega
   .rw[w,c,<-aio,KE];exact h'
  .have T:j=ae b.aN:=aD;subst T;refine Y2 A e1 ?_;refine ⟨ae a.aN - (i+1),aD,i+1,vj,vp,aD,rfl,?_,?_,rfl⟩
   .rw[W,<-aio,D];exact aiJ z aD
   .rw[W,<-aio,D];exact h
 .have S:i=ae a.aN:=aD;subst S;refine Y1 C ?_;rw[<-hL] at h;rw[X] at h;exact aaV q s h _
def aaT (X:VA0 a m) (v:VA0 b k) (hl:ae l < 1000000) (pre:List Lp) (D:ae pre<=1600) (s:pre=(aC (ae a.aN)).flatMap (qJ a b l)) (h:RfR H ((m:Int)+k) vl .nil vj vp (jd a b m k l).aJ [] (rM a b m k pre)) (er:Env) :
  WP prog 281 oB (PR a b m k l) (S5 a b l fl++er) H:=by
 refine uz ?_;generalize hL:(jd a b m k l).aJ=L at *;have al:=X.uH;have bl:=v.uH;have aj:=X.Hu;have bj:=v.Hu;have am:=X.m4;have bm:=v.m4;have p:=X.bA;have a2:=v.bA;refine Z0 ?_;refine aZ (fun n e H=>∃(i:Nat) (vj vp:AV),i<=ae b.aN/\n=ae b.aN - i/\ae (pre++(aC i).flatMap (qK a b l))<=1600+40*i/\RfR H ((m:Int)+k) vl .nil vj vp L [] (rM a b m k (pre++(aC i).flatMap (qK a b l))) /\
  e=[(2,.seq 1 fl (br l)),(3,.fp (c9 a) 0),(4,.fp (c9 b) 0),(6,.ptr 0 0 0 0),(8,.ptr 1 0 0 0),(9,.ptr 2 0 0 0),(10,.q0 (ae b.aJ:Int)),(124,.seq 6 ar (b.aN.map dI)),(125,.q0 (ae b.aN:Int)),(126,.q0 (i:Int))]) (n:=ae b.aN) ⟨0,vj,vp,aD,rfl,bu D,bu h,rfl⟩ ?_;clear h;rintro n _ H ⟨i,vj,vp,hi,a3,A,h,rfl⟩;by_cases B:(i:Int) < (ae b.aN:Int)
 .have e1:=ws i;have W:=lD (f:=qK a b l) (k:=i);have N:=v.jmp _ (bS (show i < ae b.aN by omega) (d:=ah));generalize C:pre++(aC i).flatMap (qK a b l)=pr at *;generalize M:af b.aN i ah=x at *;have ⟨⟨x1,x2,x3,x4,x5,x6⟩,⟨xg,xn⟩,xl,xa⟩:=N;have xc:=yK xa aD;refine Y2 B M ?_;refine ⟨aD,[(2,.seq 1 fl (br l)),(3,.fp (c9 a) 0),(4,.fp (c9 b) 0),(6,.ptr 0 0 0 0),(8,.ptr 1 0 0 0),(9,.ptr 2 0 0 0),(10,.q0 (ae b.aJ:Int)),(18,.q0 (i:Int)),(19,.fp (dI x) 0),(124,.seq 6 ar (b.aN.map dI)),(125,.q0 (ae b.aN:Int)),(126,.q0 (i:Int))],H++[an],?_,?_⟩
  .exact gQ (cs:=dI x) rfl (wb h.len (.cons (bf.refl _) (.cons fL (.cons (bf.refl _) (.cons (bf.refl _) (.cons (bf.refl _) .nil))))))
  refine Y ?_;have V:=h.aQ (aL.app H [an] []) (h.fj.app rfl);clear h;refine aZ (fun n e H=>∃(j:Nat) (vj vp:AV),j<=ae a.aJ/\n=ae a.aJ - j/\ae (pr++jB b l i j)<=1600+40*i+j/\RfR H ((m:Int)+k) vl .nil vj vp L [] (rM a b m k (pr++jB b l i j)) /\
   e=[(2,.seq 1 fl (br l)),(3,.fp (c9 a) 0),(4,.fp (c9 b) 0),(6,.ptr 0 0 0 0),(8,.ptr 1 0 0 0),(9,.ptr 2 0 0 0),(10,.q0 (ae b.aJ:Int)),(18,.q0 (i:Int)),(19,.fp (dI x) 0),(124,.seq 6 ar (b.aN.map dI)),(125,.q0 (ae b.aN:Int)),(126,.q0 (i:Int)),(133,.q0 (ae a.aJ:Int)),(134,.q0 (j:Int))]) (n:=ae a.aJ) ⟨0,vj,vp,aD,rfl,by rw[show jB b l i 0=[] by unfold jB;split<;>rfl,aiu];exact A,by rw[show jB b l i 0=[] by unfold jB;split<;>rfl,aiu];exact V,rfl⟩ ?_;clear V;rintro n2 _ H ⟨j,vj,vp,hj,a4,w,h,rfl⟩;by_cases q:(j:Int) < (ae a.aJ:Int)
  .have U:=ws j;have y:=JB b l i j;rw[M] at y;generalize o:jB b l i (j+1)=q1 at *;generalize a5:jB b l i j=q0 at *;by_cases E:l.contains x.label=aq
   .rw[ah1 E,aiu] at y;refine Y1 q ?_;refine cX (Aq l x.label aD fl) ?_;rw[E];refine Z1 U ?_;exact ⟨ae a.aJ - (j+1),aD,j+1,vj,vp,aD,rfl,by rw[o,y];exact aiJ w aD,by rw[o,y];exact h,rfl⟩
   .rw[ah0 E] at y;have J:l.contains x.label=ar:=bu E;have m1:0<=(j:Int)*(ae b.aJ:Int):=ajw aD aD;have n1:(j:Int)*(ae b.aJ:Int)<=12*12:=akJ (aik (by omega:(j:Int)<=12) aD) aD;have w1:au .i64 ((j:Int)*(ae b.aJ:Int))=(j:Int)*(ae b.aJ:Int):=wrap_i64 aD aD;have u1:au .i64 ((j:Int)*(ae b.aJ:Int)+x.cI)=(j:Int)*(ae b.aJ:Int)+x.cI:=wrap_i64 aD aD;have m2:=ajw aD aD;have n2:(j:Int)*(ae b.aJ:Int)<=12*12:=akJ (aik (by omega:(j:Int)<=12) aD) aD;have w2:au .i64 ((j:Int)*(ae b.aJ:Int))=(j:Int)*(ae b.aJ:Int):=wrap_i64 aD aD;have u2:au .i64 ((j:Int)*(ae b.aJ:Int)+x.to)=(j:Int)*(ae b.aJ:Int)+x.to:=wrap_i64 aD aD;refine Y1 q ?_;refine cX (Aq l x.label aD fl) ?_;rw[J];have bo:bg prog 20 [.agg [.q0 (m:Int),.nil],.agg (p9 x.guard)] (.agg (p9 (Pl.both ⟨m,[]⟩ x.guard))) :=
     bR.D9 (tW ⟨m,[]⟩ x.guard ⟨aO,fun c h=>by simp at h⟩ (ik xg) (by show (0:Int)<=(m:Int)/\(m:Int) < 1000000;omega) aD) (.cons (qO (.cons (bf.refl _) (.cons (eW 3) .nil))) (.cons (bf.refl _) .nil));refine Z4 p w1 u1 u2 ?_;refine cX bo ?_;refine Y1 p ?_;refine jJ (Nc (H:=H) m aD) ?_;obtain ⟨z,g⟩:∃z,z=H++[ak (⟨4,0,(aA m (⟨0,⟨[],0⟩,0⟩:As)).map dX⟩:bz)]:=⟨_,rfl⟩;have i1:Idl z:=g ▸ h.fj.app (fZ _ (jl _));have k1:aL H z []:=g ▸ aL.app _ _ _;have a1:Acc (ae H) z 4 (.sl 4 (ae H) 0 0 m) ((aA m uG).map dX):=by rw[g];exact Acc.mk aO (ahZ _)
    rw[<-g];refine Y1 p ?_;refine jJ (sY i1 x.cO m 0 ar aD xc aD aD) ?_;have i2:=zg (k:=4) i1 (jl (x.cO.map (As.wide m 0)));have k2:aL z (nH z 4 ((x.cO.map (As.wide m 0)).map dX)) []:=qY _ _ _;have O:=Kc z 4 ((x.cO.map (As.wide m 0)).map dX);have a0:=(vB z 4 ((x.cO.map (As.wide m 0)).map dX)).cell;generalize xO z 4 ((x.cO.map (As.wide m 0)).map dX)=v1 at *;have ⟨v2,H2,R,q2,q3,q4,F⟩:=Q4 (a1.aQ k2 aO) (k1.trans k2) i2 (jl _) (jl (x.cO.map (As.wide m 0))) bW;generalize nH z 4 ((x.cO.map (As.wide m 0)).map dX)=H3 at *;have ap:∀K,j4 4 (.sl 4 (ae H) 0 0 m) v1 H3 K=K v2 H2:=fun K=>Gi O ▸ R K;rw[<-aii] at q2;refine Y2 ap F ?_;refine cQ (RfR.Qw (f:=(j:Int)*(ae b.aJ:Int)+x.cI) (t:=(j:Int)*(ae b.aJ:Int)+x.to) (x:=n7 a b m k (yA b i j)) h q3 q4 q2 ?_ ?_ _ _ ?_) fun r H' hr=>?_
    .rw[ah3];omega
    .rw[ah3];omega
    .unfold n7 yA Vu;have e5:(-1:Int) < 0:=aR;have e6:¬(i:Int) < 0:=aD;simp only[e5,e6,ajs,ajO,lE,ah9,M]
    obtain ⟨rfl,S,T,h'⟩:=hr;refine Y1 U ?_;refine ⟨ae a.aJ - (j+1),aD,j+1,S,T,aD,rfl,?_,?_,rfl⟩
    .rw[o,y,<-aio,ain];simp only[aiF,aiV];omega
    .rw[o,y,<-aio,KE];exact h'
  .have I:j=ae a.aJ:=aD;subst I;refine Y2 q e1 ?_;refine ⟨ae b.aN - (i+1),aD,i+1,vj,vp,aD,rfl,?_,?_,rfl⟩
   .rw[W,<-aio,C];exact aiJ w aD
   .rw[W,<-aio,C];exact h
 .have G:i=ae b.aN:=aD;subst G;refine Y1 B ?_;rw[<-hL] at h;refine aaU X v hl (pre++(aC (ae b.aN)).flatMap (qK a b l)) aD (by rw[s];rfl) h _
def aaS (s:VA0 a m) (v:VA0 b k) (hl:ae l < 1000000) (pre:List Lp) (C:ae pre<=0) (q:pre=[]) (h:RfR H ((m:Int)+k) vl .nil vj vp (jd a b m k l).aJ [] (rM a b m k pre)) (er:Env) :
  WP prog 281 oA (PR a b m k l) (S5 a b l fl++er) H:=by
 refine uz ?_;generalize hL:(jd a b m k l).aJ=L at *;have al:=s.uH;have bl:=v.uH;have aj:=s.Hu;have bj:=v.Hu;have am:=s.m4;have bm:=v.m4;have a2:=s.bA;have o:=v.bA;refine Z0 ?_;refine aZ (fun n e H=>∃(i:Nat) (vj vp:AV),i<=ae a.aN/\n=ae a.aN - i/\ae (pre++(aC i).flatMap (qJ a b l))<=0+40*i/\RfR H ((m:Int)+k) vl .nil vj vp L [] (rM a b m k (pre++(aC i).flatMap (qJ a b l))) /\
  e=[(2,.seq 1 fl (br l)),(3,.fp (c9 a) 0),(4,.fp (c9 b) 0),(6,.ptr 0 0 0 0),(8,.ptr 1 0 0 0),(9,.ptr 2 0 0 0),(10,.q0 (ae b.aJ:Int)),(71,.seq 6 ar (a.aN.map dI)),(72,.q0 (ae a.aN:Int)),(73,.q0 (i:Int))]) (n:=ae a.aN) ⟨0,vj,vp,aD,rfl,bu C,bu h,rfl⟩ ?_;clear h;rintro n _ H ⟨i,vj,vp,hi,a3,W,h,rfl⟩;by_cases A:(i:Int) < (ae a.aN:Int)
 .have e1:=ws i;have X:=lD (f:=qJ a b l) (k:=i);have M:=s.jmp _ (bS (show i < ae a.aN by omega) (d:=ah));generalize B:pre++(aC i).flatMap (qJ a b l)=pr at *;generalize J:af a.aN i ah=x at *;have ⟨⟨x1,x2,x3,x4,x5,x6⟩,⟨xg,xn⟩,xl,xa⟩:=M;have xc:=yK xa aD;refine Y2 A J ?_;refine ⟨aD,[(2,.seq 1 fl (br l)),(3,.fp (c9 a) 0),(4,.fp (c9 b) 0),(6,.ptr 0 0 0 0),(8,.ptr 1 0 0 0),(9,.ptr 2 0 0 0),(10,.q0 (ae b.aJ:Int)),(15,.q0 (i:Int)),(16,.fp (dI x) 0),(71,.seq 6 ar (a.aN.map dI)),(72,.q0 (ae a.aN:Int)),(73,.q0 (i:Int))],H++[an],?_,?_⟩
  .exact gQ (cs:=dI x) rfl (wb h.len (.cons (bf.refl _) (.cons fL (.cons (bf.refl _) (.cons (bf.refl _) (.cons (bf.refl _) .nil))))))
  refine Y ?_;have V:=h.aQ (aL.app H [an] []) (h.fj.app rfl);clear h;refine aZ (fun n e H=>∃(j:Nat) (vj vp:AV),j<=ae b.aJ/\n=ae b.aJ - j/\ae (pr++jA a b l i j)<=0+40*i+j/\RfR H ((m:Int)+k) vl .nil vj vp L [] (rM a b m k (pr++jA a b l i j)) /\
   e=[(2,.seq 1 fl (br l)),(3,.fp (c9 a) 0),(4,.fp (c9 b) 0),(6,.ptr 0 0 0 0),(8,.ptr 1 0 0 0),(9,.ptr 2 0 0 0),(10,.q0 (ae b.aJ:Int)),(15,.q0 (i:Int)),(16,.fp (dI x) 0),(71,.seq 6 ar (a.aN.map dI)),(72,.q0 (ae a.aN:Int)),(73,.q0 (i:Int)),(80,.q0 (ae b.aJ:Int)),(81,.q0 (j:Int))]) (n:=ae b.aJ) ⟨0,vj,vp,aD,rfl,by rw[show jA a b l i 0=[] by unfold jA;split<;>rfl,aiu];exact W,by rw[show jA a b l i 0=[] by unfold jA;split<;>rfl,aiu];exact V,rfl⟩ ?_;clear V;rintro n2 _ H ⟨j,vj,vp,hj,a4,z,h,rfl⟩;by_cases p:(j:Int) < (ae b.aJ:Int)
  .have U:=ws j;have y:=JA a b l i j;rw[J] at y;generalize w:jA a b l i (j+1)=q1 at *;generalize a5:jA a b l i j=q0 at *;by_cases D:l.contains x.label=aq
   .rw[ah1 D,aiu] at y;refine Y1 p ?_;refine cX (Aq l x.label aD fl) ?_;rw[D];refine Z1 U ?_;exact ⟨ae b.aJ - (j+1),aD,j+1,vj,vp,aD,rfl,by rw[w,y];exact aiJ z aD,by rw[w,y];exact h,rfl⟩
   .rw[ah0 D] at y;have I:l.contains x.label=ar:=bu D;have m1:0<=x.cI*(ae b.aJ:Int):=ajw x1 aD;have n1:x.cI*(ae b.aJ:Int)<=12*12:=akJ (aik (by omega:x.cI<=12) aD) aD;have w1:au .i64 (x.cI*(ae b.aJ:Int))=x.cI*(ae b.aJ:Int):=wrap_i64 aD aD;have u1:au .i64 (x.cI*(ae b.aJ:Int)+(j:Int))=x.cI*(ae b.aJ:Int)+(j:Int):=wrap_i64 aD aD;have m2:0<=x.to*(ae b.aJ:Int):=ajw x3 aD;have n2:x.to*(ae b.aJ:Int)<=12*12:=akJ (aik (by omega:x.to<=12) aD) aD;have w2:au .i64 (x.to*(ae b.aJ:Int))=x.to*(ae b.aJ:Int):=wrap_i64 aD aD;have u2:au .i64 (x.to*(ae b.aJ:Int)+(j:Int))=x.to*(ae b.aJ:Int)+(j:Int):=wrap_i64 aD aD;refine Y1 p ?_;refine cX (Aq l x.label aD fl) ?_;rw[I];have bo:bg prog 20 [.agg (p9 x.guard),.agg [.q0 (k:Int),.nil]] (.agg (p9 (x.guard.both ⟨k,[]⟩))) :=
     bR.D9 (tW x.guard ⟨k,[]⟩ (ik xg) ⟨aO,fun c h=>by simp at h⟩ aD (by show (0:Int)<=(k:Int)/\(k:Int) < 1000000;omega)) (.cons (bf.refl _) (.cons (qO (.cons (bf.refl _) (.cons (eW 3) .nil))) .nil));refine Z5 o w1 w2 u1 u2 ?_;refine cX bo ?_;refine Y1 o ?_;refine jJ (sY h.fj x.cO 0 k ar aD xc aD aD) ?_;have i1:=zg (k:=4) h.fj (jl (x.cO.map (As.wide 0 k)));have k1:aL H (nH H 4 ((x.cO.map (As.wide 0 k)).map dX)) []:=qY _ _ _;have T:=vB H 4 ((x.cO.map (As.wide 0 k)).map dX);have a0:=T.cell;generalize xO H 4 ((x.cO.map (As.wide 0 k)).map dX)=v1 at *;generalize nH H 4 ((x.cO.map (As.wide 0 k)).map dX)=g at *;refine Y1 o ?_;refine jJ (Nc (H:=g) k aD) ?_;have i2:Idl (g++[ak ⟨4,0,(aA k (⟨0,⟨[],0⟩,0⟩:As)).map dX⟩]):=i1.app (fZ _ (jl _));have k2:aL g (g++[ak ⟨4,0,(aA k (⟨0,⟨[],0⟩,0⟩:As)).map dX⟩]) []:=aL.app _ _ _;have N:dW 4 (g++[ak ⟨4,0,(aA k (⟨0,⟨[],0⟩,0⟩:As)).map dX⟩]) (.sl 4 (ae g) 0 0 k)=ak ((aA k uG).map dX):=by simp only[dW,ct,aix];simp[uG]
    have ⟨v2,H2,O,q2,q3,q4,E⟩:=Q4 (T.aQ k2 aO) (k1.trans k2) i2 (jl _) (jl (aA k uG)) bW;have ap:∀K,j4 4 v1 (.sl 4 (ae g) 0 0 k) (g++[ak ⟨4,0,(aA k (⟨0,⟨[],0⟩,0⟩:As)).map dX⟩]) K=K v2 H2:=fun K=>Gi N ▸ O K;rw[<-aii] at q2;refine Y2 ap E ?_;refine cQ (RfR.Qw (f:=x.cI*(ae b.aJ:Int)+(j:Int)) (t:=x.to*(ae b.aJ:Int)+(j:Int)) (x:=n7 a b m k (yz a b i j)) h q3 q4 q2 ?_ ?_ _ _ ?_) fun r H' hr=>?_
    .rw[ah3];omega
    .rw[ah3];omega
    .unfold n7 yz Vt;have e5:(-1:Int) < 0:=aR;simp only[e5,ajs,lE,ah9,J]
    obtain ⟨rfl,R,S,h'⟩:=hr;refine Y1 U ?_;refine ⟨ae b.aJ - (j+1),aD,j+1,R,S,aD,rfl,?_,?_,rfl⟩
    .rw[w,y,<-aio,ain];simp only[aiF,aiV];omega
    .rw[w,y,<-aio,KE];exact h'
  .have G:j=ae b.aJ:=aD;subst G;refine Y2 p e1 ?_;refine ⟨ae a.aN - (i+1),aD,i+1,vj,vp,aD,rfl,?_,?_,rfl⟩
   .rw[X,<-aio,B];exact aiJ z aD
   .rw[X,<-aio,B];exact h
 .have F:i=ae a.aN:=aD;subst F;refine Y1 A ?_;rw[<-hL] at h;refine aaT s v hl (pre++(aC (ae a.aN)).flatMap (qJ a b l)) aD (by rw[q];rfl) h _
end
section
variable {H:aF} {a b:Au} {m k:Nat} {l:List Int} {fl:Bool}
def n9 (a b:Au) (i:Nat):List Lc:=(a.aJ.take i).flatMap fun x=>b.aJ.map (DR x)
def HC (h:i < ae a.aJ):n9 a b (i+1)=n9 a b i++b.aJ.map (DR (af a.aJ i ah)):=by unfold n9;rw[lg h,ak5];simp
def JN (a b:Au):∀i,ae (n9 a b i)<=i*ae b.aJ
 | 0=>by simp[n9]
 | i+1=>by
  have:=JN a b i;by_cases h:i < ae a.aJ
  .rw[HC h,ain,ah3,aiW];omega
  .have e:n9 a b (i+1)=n9 a b i:=by unfold n9;rw[aiv aD,aiv aD]
   rw[e,aiW];omega
def aaR (o:VA0 a m) (p:VA0 b k) (L:ae l < 1000000) (h:RfR H ((m:Int)+k) .nil .nil .nil .nil [] [] (rM a b m k [])) (F:Env) :
  WP prog 281 oz (PR a b m k l) (S5 a b l fl++F) H:=by
 refine uz ?_;have al:=o.uH;have bl:=p.uH;have am:=o.m4;have bm:=p.m4;refine Z0 ?_;refine aZ (fun n e H=>∃(i:Nat) (vl:AV),i<=ae a.aJ/\n=ae a.aJ - i/\RfR H ((m:Int)+k) vl .nil .nil .nil (n9 a b i) [] (rM a b m k []) /\
  e=[(2,.seq 1 fl (br l)),(3,.fp (c9 a) 0),(4,.fp (c9 b) 0),(6,.ptr 0 0 0 0),(8,.ptr 1 0 0 0),(9,.ptr 2 0 0 0),(10,.q0 (ae b.aJ:Int)),(39,.seq 4 ar (a.aJ.map iy)),(40,.q0 (ae a.aJ:Int)),(41,.q0 (i:Int))]) (n:=ae a.aJ) ⟨0,.nil,aD,rfl,h,rfl⟩ ?_;clear h;rintro n _ H ⟨i,vl,hi,M,h,rfl⟩;by_cases g:(i:Int) < (ae a.aJ:Int)
 .have D:au .i64 ((i:Int)+1)=((i+1:Nat):Int):=by rw[wrap_i64 (by omega) (by omega)];rfl
  have X:=HC (b:=b) (show i < ae a.aJ by omega);obtain ⟨⟨T,x2⟩,⟨U,x4⟩,_⟩:=o.loc _ (bS (show i < ae a.aJ by omega) (d:=ah));generalize O:af a.aJ i ah=x at *;refine Y2 g O ?_;refine ⟨aD,[(2,.seq 1 fl (br l)),(3,.fp (c9 a) 0),(4,.fp (c9 b) 0),(6,.ptr 0 0 0 0),(8,.ptr 1 0 0 0),(9,.ptr 2 0 0 0),(10,.q0 (ae b.aJ:Int)),(12,.fp (iy x) 0),(39,.seq 4 ar (a.aJ.map iy)),(40,.q0 (ae a.aJ:Int)),(41,.q0 (i:Int))],H++[an],?_,?_⟩
  .exact gQ (cs:=iy x) rfl (wb h.len (.cons fL (.cons (bf.refl _) (.cons (bf.refl _) (.cons (bf.refl _) .nil)))))
  refine Y ?_;have z:=h.aQ (aL.app H [an] []) (h.fj.app rfl);refine aZ (fun n e H=>∃(j:Nat) (vl:AV),j<=ae b.aJ/\n=ae b.aJ - j/\RfR H ((m:Int)+k) vl .nil .nil .nil (n9 a b i++(b.aJ.take j).map (DR x)) [] (rM a b m k []) /\
   e=[(2,.seq 1 fl (br l)),(3,.fp (c9 a) 0),(4,.fp (c9 b) 0),(6,.ptr 0 0 0 0),(8,.ptr 1 0 0 0),(9,.ptr 2 0 0 0),(10,.q0 (ae b.aJ:Int)),(12,.fp (iy x) 0),(39,.seq 4 ar (a.aJ.map iy)),(40,.q0 (ae a.aJ:Int)),(41,.q0 (i:Int)),
    (46,.seq 4 ar (b.aJ.map iy)),(47,.q0 (ae b.aJ:Int)),(48,.q0 (j:Int))]) (n:=ae b.aJ) ⟨0,vl,aD,rfl,bu z,rfl⟩ ?_;clear h z;rintro n2 _ H ⟨j,vl,hj,N,h,rfl⟩;by_cases w:(j:Int) < (ae b.aJ:Int)
  .have E:=ws j;have v:b.aJ.take (j+1)=b.aJ.take j++[af b.aJ j ah]:=lg aD;obtain ⟨⟨V,y2⟩,⟨y3,y4⟩,_⟩:=p.loc _ (bS (show j < ae b.aJ by omega) (d:=ah));generalize R:af b.aJ j ah=y at *;have z:=h.aQ (aL.app H [an] []) (h.fj.app rfl);have f:ae (n9 a b i++(b.aJ.take j).map (DR x)) < 1000000:=by have q1:=JN a b i;have q2:i*ae b.aJ<=12*12:=akp aD bl;simp;omega
   have ⟨W,G,A,C,I,J⟩:=z.gT f (DR x y);have B:∀K,bk (H++[an]) 1 0 K=K ⟨4,0,[[.q0 ((m:Int)+k),vl,.nil,.nil]]⟩:=aK z.o1;have r:∀K,bk G 1 0 K=K ⟨4,0,[[.q0 ((m:Int)+k),vl,.nil,.nil]]⟩:=aK I;have wl:=h.al.cell;have q:∀K,bX 4 vl [[.c (.int .i64 (x.inv.both y.inv).n),.seq 3 ar ((x.inv.both y.inv).l.map cC),.c (.int .i64 (x.dy.both y.dy).n),.seq 3 ar ((x.dy.both y.dy).l.map cC)]] (H++[an]) K=K W G:=A;refine Y2 w R ?_;refine ⟨aD,[(2,.seq 1 fl (br l)),(3,.fp (c9 a) 0),(4,.fp (c9 b) 0),(6,.ptr 0 0 0 0),(8,.ptr 1 0 0 0),(9,.ptr 2 0 0 0),(10,.q0 (ae b.aJ:Int)),(12,.fp (iy x) 0),(14,.fp (iy y) 0),(39,.seq 4 ar (a.aJ.map iy)),(40,.q0 (ae a.aJ:Int)),(41,.q0 (i:Int)),
    (46,.seq 4 ar (b.aJ.map iy)),(47,.q0 (ae b.aJ:Int)),(48,.q0 (j:Int))],H++[an],?_,?_⟩
   .exact gQ (cs:=iy y) rfl (wb h.len (.cons (bf.refl _) (.cons fL (.cons (bf.refl _) (.cons (bf.refl _) (.cons (bf.refl _) (.cons (bf.refl _) (.cons (bf.refl _) (.cons (bf.refl _) .nil)))))))))
   refine Y1 B ?_;refine cY (tW x.inv y.inv (ik T) (ik V) (by omega) (by omega)) ?_;refine cX (tW x.dy y.dy (ik U) (ik y3) (by omega) (by omega)) ?_;refine Y4 q C r E ?_;refine ⟨rfl,ae b.aJ - (j+1),aD,j+1,W,aD,rfl,?_,rfl⟩;rw[v,aii,<-aio];exact J
  .have t:j=ae b.aJ:=aD;subst t;refine Y2 w D ?_;rw[aiK] at h;refine ⟨ae a.aJ - (i+1),aD,i+1,vl,aD,rfl,by rw[X];exact h,rfl⟩
 .have s:i=ae a.aJ:=aD;subst s;refine Y1 g ?_;have S:n9 a b (ae a.aJ)=(jd a b m k l).aJ:=by unfold n9;rw[aiK];rfl
  rw[S] at h;exact aaS o p L [] (ahZ 0) rfl h _
end
def Ga (y:VA0 a m) (z:VA0 b k) (e:ae l < 1000000) :
  bg prog 10 [.agg (c9 a),.agg (c9 b),.seq 1 fl (br l)] (.bM [.agg (c9 (jd a b m k l)),.seq 2 ar (((cz a b l).map gp).map sD)]):=by
 refine pc func10 zo ?_;refine uz ?_;have f:=y.m4;have g:=z.m4;have c:au .i64 ((m:Int)+(k:Int))=(m:Int)+k:=wrap_i64 aD aD;refine Y3 y.bA z.bA c ?_;have w:RfR [ak ⟨4,0,[[.q0 0,.nil,.nil,.nil]]⟩,ak ⟨4,0,[[.q0 ((m:Int)+k),.nil,.nil,.nil]]⟩,ak ⟨2,0,[[.nil,.nil]]⟩] ((m:Int)+k) .nil .nil .nil .nil [] [] (rM a b m k []) :=
  ⟨rfl,rfl,⟨rfl,aR,.nil,.nil,fun x h=>by simp[aG] at h⟩,.nil,.nil,fun x h=>by simp[aG] at h,fun x h=>by simp[aG] at h,fun x h=>by simp[aG] at h,fun x h=>by simp[aG] at h,fun x h=>by simp[aG] at h,rfl⟩;exact aaR y z e w []
def Wv {p:Pl} (h:p.iN 8=aq):ae p.l<=140/\(ae p.l<=8\/120 < ae p.l)/\∀c,c∈p.l->ae c.f.c<=40:=by unfold Pl.iN at h;simp only[ah2,ajJ,amj,Bool.and_eq_false_iff,aj5,ah4,aiU] at h;have ⟨⟨y,z⟩,k⟩:=h;refine ⟨aD,aD,fun c x=>cn (k c x)⟩
def JF {p:Pl} (h:p.iN 8=aq):mC p.l:=by have ⟨y,z,k⟩:=Wv h;exact ⟨aD,fun c x=>cn (k c x)⟩
def K7 (h:eR a=aq):(ae a.aJ<=20/\ae a.aN<=50/\ae a.init<=20)/\(∀x,x∈a.aJ->x.inv.iN 8=aq/\x.dy.iN 8=aq) /\
  (∀x,x∈a.aN->x.guard.iN 8=aq/\ae x.cO<=20/\∀y,y∈x.cO->ae y.f.c<=20)/\(∀z,z∈a.init->z.set.iN 8=aq):=by unfold eR at h;simp only[ah2,aiU,ah4] at h;exact h
def Gn {a:Au} (h:eR a=aq):AuS a:=by have ⟨e,w,z,b⟩:=K7 h;exact ⟨aD,aD,aD,fun x k=>⟨JF (w x k).1,JF (w x k).2⟩,fun x k=>⟨JF (z x k).1,cn ((z x k).2.1),fun y c=>cn ((z x k).2.2 y c)⟩,fun x k=>JF (b x k)⟩
def zy (h:eR a=aq) (y:VA0 a m):yY a 60:=by
 have ⟨i,w,c,e⟩:=K7 h;have key:∀p:Pl,p.iN 8=aq->mT m p.l=aq->ae p.l<=60:=fun p g f=>by have:=(Wv g).2.1;have:=(rm.1 f).1;omega
 exact ⟨fun x k=>⟨key _ (w x k).1 (y.loc x k).1.1,key _ (w x k).2 (y.loc x k).2.1.1⟩,fun x k=>key _ (c x k).1 (y.jmp x k).2.1.1,fun z b=>key _ (e z b) (y.A7 z b).2.1⟩
def VA0.Ul (h:VA0 a m):yV a m:=by
 have b:=h.m4;have c:=h.uH;have e:=h.Hu;have f:=h.i12;refine ⟨h.bA,aD,aD,fun x k=>⟨ik (h.loc x k).1.1,ik (h.loc x k).2.1.1⟩,aD,⟨⟨aD,fun x k=>?_⟩,aD,fun x k=>?_⟩,aD,fun x k=>?_⟩
 .have ⟨_,⟨y,_⟩,z,w⟩:=h.jmp x k;exact ⟨aD,yK w aD,ik y⟩
 .have ⟨g,_⟩:=h.jmp x k;exact ⟨⟨g.1,aD⟩,g.2.2.1,aD⟩
 .have ⟨y,z,w⟩:=h.A7 x k;exact ⟨ik z,y.1,aD⟩
def ZB {a b:Au} {m k:Nat} (y:VA0 a m) (z:VA0 b k) (j:yY a 60) (n:yY b 60) (l:List Int) (f:m+k<=4):AuS (eT a b m k l):=by have ⟨w,g,i⟩:=NH (l:=l) y z j n f;have p:(eT a b m k l).aJ.length=ae a.aJ*ae b.aJ:=pF a b m k;have q:(eT a b m k l).init.length=ae a.init*ae b.init:=sN a b m k;have r:(eT a b m k l).aN.length=ae (cz a b l):=ah3 ..;have s:ae a.aJ*ae b.aJ<=12*12:=akp y.uH z.uH;have t:ae a.init*ae b.init<=12*12:=akp y.i12 z.i12;have v:=FA y z l;refine ⟨aD,aD,aD,fun x h=>⟨ik (w x h).1.1,ik (w x h).2.1.1⟩,fun x h=>?_,fun x h=>ik (i x h).2.1⟩;have ⟨_,⟨c,_⟩,o,e⟩:=g x h;exact ⟨ik c,aD,yK e aD⟩
def Oz:Au:=⟨0,[],[],[]⟩
noncomputable def qy (a b:Au) (l:List Int):Au × List (Int × Int) × Int :=
 if fu a=aq/\fu b=aq then
  if nG l=aq then
   if gO a b (az a.bA) (az b.bA) l=aq/\fu (eT a b (az a.bA) (az b.bA) l)=aq then (eT a b (az a.bA) (az b.bA) l,(cz a b l).map gp,0) else (Oz,[],3)
  else (Oz,[],6)
 else (Oz,[],1)
def O9 (a b:Au) (l:List Int) (fl:Bool) (x:Au × List (Int × Int) × Int):AV := .bM [.agg (gN a b l fl),.agg (c9 x.1),.seq 2 ar (x.2.1.map sD),.c (.int .i64 x.2.2)]
def RT (h:o=(Oz,[],e)) :
  Fin 0 (.bM [.agg (gN a b l fl),.agg [.q0 0,.nil,.nil,.nil],.nil,.q0 e]) H (O9 a b l fl o) []:=by rw[h];exact (j6 (m:=0) (ahZ _) aO rfl).trans (A3 (F4 (.cons (bf.refl _) (.cons (qO (.cons (bf.refl _) (.cons (eW 4) (.cons (eW 6) (.cons (eW 3) .nil))))) (.cons (eW 2) (.cons (bf.refl _) .nil))))))
def LW (a b:Au) (l:List Int) (fl:Bool) (F:eR a=aq) (G:eR b=aq) (hl:ae l<=40) :
  bg prog 16 [.agg (c9 a),.agg (c9 b),.seq 1 fl (br l)] (O9 a b l fl (qy a b l)):=by
 have T:=Gn F;have sb:=Gn G;refine pw func16 ?_;refine Z ?_;refine cX (BN a T) ?_;have y:∀{H:aF},¬(fu a=aq/\fu b=aq)->Fin 0 (.bM [.agg (gN a b l fl),.agg [.q0 0,.nil,.nil,.nil],.nil,.q0 1]) H (O9 a b l fl (qy a b l)) []:=fun h=>RT (by unfold qy;rw[ah0 h]);cases D:fu a with
 | false =>
  refine Z ?_;exact y (fun h=>by rw[D] at h;exact absurd h.1 aR)
 | true =>
  refine Z ?_;refine cX (BN b sb) ?_;cases E:fu b with
  | false =>
   refine Z ?_;exact y (fun h=>by rw[E] at h;exact absurd h.2 aR)
  | true =>
   refine Z ?_;have A:=qQ D;have B:=qQ E;have R:=zy F A;have S:=zy G B;have g:qy a b l=if nG l=aq then
     if gO a b (az a.bA) (az b.bA) l=aq/\fu (eT a b (az a.bA) (az b.bA) l)=aq then (eT a b (az a.bA) (az b.bA) l,(cz a b l).map gp,0) else (Oz,[],3)
    else (Oz,[],6):=by unfold qy;rw[ah1 ⟨D,E⟩]
   generalize az a.bA=m at *;generalize az b.bA=k at *;have z:∀{H:aF},nG l=ar->Fin 0 (.bM [.agg (gN a b l fl),.agg [.q0 0,.nil,.nil,.nil],.nil,.q0 6]) H (O9 a b l fl (qy a b l)) []:=fun h=>RT (by rw[g,h];rfl);refine aZ (fun n e H=>H=[ak (⟨9,0,[[.q0 0,.nil,.nil,.nil,.q0 0,.nil,.nil,.nil,.nil]]⟩:bz),ak ⟨4,0,[[.q0 0,.nil,.nil,.nil]]⟩,ak ⟨9,0,[gN a b l fl]⟩]/\∃i:Nat,i<=ae l/\n=ae l - i/\(∀j,j < i->sy l j=aq) /\
    e=[(6,.ptr 0 0 0 0),(7,.ptr 1 0 0 0),(10,.ptr 2 0 0 0),(11,.q0 (if i=0 then 0 else af l (i - 1) 0)),(31,.seq 1 fl (br l)),(32,.q0 (ae l:Int)),(33,.q0 (i:Int))]) (n:=ae l) ⟨rfl,0,aD,rfl,fun j h=>aD,rfl⟩ ?_;rintro n _ H ⟨rfl,i,V,hn,K,rfl⟩;by_cases q:(i:Int) < (ae l:Int)
   .have U:=ws i;have w:(ah:Int)=0:=rfl;have M:sy l i=decide (1<=af l i 0/\af l i 0<=20/\(i=0\/af l (i - 1) 0 < af l i 0)):=rfl;have r:i≠0->1<=af l (i - 1) 0:=fun v=>(akB (K (i - 1) aD)).1;have x:sy l i=ar↔(af l i 0<=(if i=0 then 0 else af l (i - 1) 0)\/20 < af l i 0):=by
     rw[M,aj5];by_cases v:i=0
     .rw[ah1 v];omega
     .rw[ah0 v];have:=r v;omega
    have p:(if i+1=0 then (0:Int) else af l (i+1 - 1) 0)=af l i 0:=by rw[ah0 aD,alx]
    generalize (if i=0 then (0:Int) else af l (i - 1) 0)=last at *;have step:sy l i=aq->∀j,j < i+1->sy l j=aq:=fun h j O=>by
     rcases aij j i with s | s
     .exact K j s
     .rw[show j=i by omega];exact h
    by_cases s:af l i 0<=last
    .simp only[go_sem,↓reduceIte,ahZ,q,w,s,Cx];exact ⟨aD,z (Ks aD (x.2 (Or.inl s)))⟩
    by_cases I:20 < af l i 0
    .simp only[go_sem,↓reduceIte,ahZ,q,w,s,I,Cx];exact ⟨aD,z (Ks aD (x.2 (Or.inr I)))⟩
    have C:sy l i=aq:=by
     cases N:sy l i with
     | true=>rfl
     | false=>rcases x.1 N with L | L<;>contradiction
    refine Z ?_;exact ⟨aD,ae l - (i+1),aD,i+1,aD,rfl,step C,by rw[p]⟩
   have W:nG l=aq:=Pm (fun j O=>K j aD);have f:qy a b l=if gO a b m k l=aq/\fu (eT a b m k l)=aq then (eT a b m k l,(cz a b l).map gp,0) else (Oz,[],3):=by rw[g,ah1 W]
   clear g K;refine Y1 q ?_;have t:=TE a b m k l fl A.Ul B.Ul aD (bv:=fu (eT a b m k l)) (fun X=>BN _ (ZB A B R S l (by unfold gO at X;simp only[ah2,aiU] at X;exact X.1.1)));have J:(if gO a b m k l=aq/\fu (eT a b m k l)=aq then jW (eT a b m k l) ((cz a b l).map gp) else B8) = .bM [.agg (c9 (qy a b l).1),.seq 2 ar ((qy a b l).2.1.map sD),.c (.int .i64 (qy a b l).2.2)]:=by rw[f];split<;>rfl
   rw[J] at t;generalize qy a b l=o at *;clear f J;refine cX t ?_;simp only[go_sem,↓reduceIte,ahZ,Cx];refine j6 (m:=0) (ahZ _) aO rfl
def LV (a b:Au) (l:List Int) (fl:Bool) (h:eR a=aq) (k:eR b=aq) (y:ae l<=40) :
  bg prog 7 [.agg (c9 a),.agg (c9 b),.seq 1 fl (br l)] (.bM [.agg (c9 (qy a b l).1),.c (.int .i64 (qy a b l).2.2)]):=by have x:=LW a b l fl h k y;generalize qy a b l=o at *;refine pw func7 ?_;refine Z ?_;refine cX x ?_;simp only[go_sem,↓reduceIte,ahZ,O9,Cx];exact j6 (m:=0) (ahZ _) aO rfl
def XT (a b:Au) (l:List Int) (fl:Bool) (h:eR a=aq) (k:eR b=aq) (y:ae l<=40) :
  bg prog 8 [.agg (c9 a),.agg (c9 b),.seq 1 fl (br l)] (.bM [.seq 2 ar ((qy a b l).2.1.map sD),.c (.int .i64 (qy a b l).2.2)]):=by have x:=LW a b l fl h k y;generalize qy a b l=o at *;refine pw func8 ?_;refine Z ?_;refine cX x ?_;simp only[go_sem,↓reduceIte,ahZ,O9,Cx];exact j6 (m:=0) (ahZ _) aO rfl
noncomputable def zi (a b:Au) (l:List Int):Int :=
 if fu a=aq/\fu b=aq then (if nG l=aq then (if Dd (jd a b (az a.bA) (az b.bA) l)=aq then 0 else 3) else 6) else 1
def XP (a b:Au) (l:List Int) (fl:Bool) (z:eR a=aq) (w:eR b=aq) (p:ae l<=40) :
  bg prog 9 [.agg (c9 a),.agg (c9 b),.seq 1 fl (br l)] (.q0 (zi a b l)):=by
 have n:=Gn z;have sb:=Gn w;refine pw func9 ?_;refine Z ?_;refine cX (J5 a n) ?_;cases x:fu a with
 | false =>
  refine Z ?_;exact aW (by unfold zi;rw[ah0 (fun h=>by rw[x] at h;exact absurd h.1 aR)]) rfl
 | true =>
  refine Z ?_;refine cX (J5 b sb) ?_;cases y:fu b with
  | false =>
   refine Z ?_;exact aW (by unfold zi;rw[ah0 (fun h=>by rw[y] at h;exact absurd h.2 aR)]) rfl
  | true =>
   have A:=qQ x;have B:=qQ y;have c:zi a b l=if nG l=aq then (if Dd (jd a b (az a.bA) (az b.bA) l)=aq then 0 else 3) else 6:=by unfold zi;rw[ah1 ⟨x,y⟩]
   rw[c];generalize az a.bA=m at *;generalize az b.bA=k at *;refine Z ?_;refine cX (VT l aD fl) ?_;cases o:nG l with
   | false =>
    refine Z ?_;exact aW rfl rfl
   | true =>
    refine Z ?_;refine cX (Ga (fl:=fl) A B aD) ?_;have e:=Rq A B (zU A.m4 B.m4) l;have f:(jd a b m k l).aJ.length < 1000000:=by rw[e];have j:ae a.aJ*ae b.aJ<=12*12:=akp A.uH B.uH;have:(eT a b m k l).aJ.length=ae a.aJ*ae b.aJ:=pF a b m k;omega
    have g:(jd a b m k l).init.length < 1000000:=by rw[e];have j:ae a.init*ae b.init<=12*12:=akp A.i12 B.i12;have:(eT a b m k l).init.length=ae a.init*ae b.init:=sN a b m k;omega
    have i:(jd a b m k l).aN.length < 1000000:=by have:(jd a b m k l).aN.length=ae (cz a b l):=ah3 ..;have:=FA A B l;omega
    generalize jd a b m k l=R at *;refine Y ?_;refine cX (TF R f i g) ?_;cases Dd R with
    | false =>
     refine Z ?_;exact aW rfl rfl
    | true =>
     refine Z ?_;exact aW rfl rfl
def RQ (g:eR a=aq) (i:eR b=aq):(qy a b l).2.2=zi a b l:=by
 unfold qy zi;by_cases h:fu a=aq/\fu b=aq
 .rw[ah1 h,ah1 h];have A:=qQ h.1;have B:=qQ h.2;by_cases z:nG l=aq
  .rw[ah1 z,ah1 z,Rq A B (by have:=A.m4;have:=B.m4;omega) l];have e:=zy g A;have f:=zy i B;have c:=UK (m:=az a.bA) (k:=az b.bA) e f l;by_cases y:gO a b (az a.bA) (az b.bA) l=aq
   .rw[SX A B e f y];by_cases w:ae a.init*ae b.init<=12
    .rw[ah1 ⟨y,air w⟩,ah1 (c.2 ⟨y,w⟩)]
    .rw[ah0 (fun x=>w (akB x.2)),ah0 (fun x=>w (c.1 x).2)]
   .rw[ah0 (fun x=>y x.1),ah0 (fun x=>y (c.1 x).1)]
  .rw[ah0 z,ah0 z]
 .rw[ah0 h,ah0 h]
def aav (z:eR a=aq) (w:eR b=aq) (h:zi a b l=0) :
  VA0 a (az a.bA)/\VA0 b (az b.bA)/\qy a b l=(jd a b (az a.bA) (az b.bA) l,(cz a b l).map gp,0)/\fu (jd a b (az a.bA) (az b.bA) l)=aq:=by
 have k:=RQ (l:=l) z w;rw[h] at k;unfold qy at k ⊢;by_cases hv:fu a=aq/\fu b=aq
 .rw[ah1 hv] at k ⊢;have A:=qQ hv.1;have B:=qQ hv.2;have e:=Rq A B (zU A.m4 B.m4) l;by_cases y:nG l=aq
  .rw[ah1 y] at k ⊢;by_cases x:gO a b (az a.bA) (az b.bA) l=aq/\fu (eT a b (az a.bA) (az b.bA) l)=aq
   .rw[ah1 x,e];exact ⟨A,B,rfl,x.2⟩
   .rw[ah0 x] at k;exact absurd k (by show ¬(3:Int)=0;decide)
  .rw[ah0 y] at k;exact absurd k (by show ¬(6:Int)=0;decide)
 .rw[ah0 hv] at k;exact absurd k (by show ¬(1:Int)=0;decide)
def B4 (x a:Int) (e:Bool):Cd:=⟨⟨[x],a⟩,e⟩
def eV:Au:=⟨1,[⟨⟨1,[B4 (-1) 10 ar]⟩,⟨1,[B4 1 (-1) ar,B4 (-1) 2 ar]⟩⟩,⟨⟨1,[B4 1 0 ar]⟩,⟨1,[B4 1 1 aq]⟩⟩],
 [⟨0,1,0,⟨1,[B4 1 (-8) ar]⟩,[uG]⟩,⟨1,0,0,⟨1,[B4 (-1) 2 ar]⟩,[uG]⟩],[⟨0,⟨1,[B4 1 (-5) aq]⟩⟩]⟩
inductive TR (k:Nat):List (List AV)->List (List AV)->Prop
 | nil:TR k [] []
 | cons {x y:List AV} {xs ys:List (List AV)}:mM x y->(y.length=k/\y.all bB=true)->TR k xs ys->TR k (x::xs) (y::ys)
def mM.get (h:mM x y):ae x=ae y/\∀(j:Nat) a b,x[j]?=ak a->y[j]?=ak b->bf a b:=by
 induction h with
 | nil=>exact ⟨rfl,fun j a b h=>by simp at h⟩
 | cons c _ w =>
  refine ⟨by simp[w.1],fun j a b k z=>?_⟩
  match j with
  | 0=>simp at k z;subst k z;exact c
  | j+1=>simp at k z;exact w.2 j a b k z
def TR.l {k:Nat} {xs ys:List (List AV)} (h:TR k xs ys):jS xs ys/\∀y,y∈ys->ae y=k:=by
 induction h with
 | nil=>exact ⟨⟨rfl,fun i x y h=>by simp at h⟩,fun y h=>by simp at h⟩
 | cons b c _ a =>
  refine ⟨⟨by simp[a.1.1],fun i x y w z=>?_⟩,fun y z=>?_⟩
  .match i with
   | 0=>simp at w z;subst w z;exact ⟨b.get.1,c.2,b.get.2⟩
   | i+1=>simp at w z;exact a.1.2 i x y w z
  .rcases aiz.1 z with rfl | z
   .exact c.1
   .exact a.2 y z
def VN {k:Nat} {xs ys:List (List AV)} (h:TR k xs ys):bf (.seq k aq xs) (.seq k ar ys):=fun I β v x =>
 F3 h.l.1 h.l.2 I β v (x.TK (.full k xs))
def Tx:bg prog 15 [] (.agg (c9 eV)):=by
 refine pc func15 BV ?_;refine uz ?_;refine Y ?_;refine ⟨rfl,rfl,rfl,rfl,rfl,rfl,aR,rfl,aR,rfl,rfl,rfl,?_⟩;refine (A3 ?_).trans (j6 (m:=0) (ahZ _) aO rfl)
 repeat' first
  | exact bf.refl _
  | exact eW _
  | apply qO
  | apply VN
  | exact TR.nil
  | exact mM.nil
  | exact ⟨rfl,rfl⟩
  | apply TR.cons
  | apply mM.cons
def adn (f:Nat->Rat):cU 1 f=f 0:=by
 show (0:Rat)+f 0=f 0
 grind
def vK (x a:Int) (e:Bool) (u:Nat->Rat):(B4 x a e).f.val 1 u=(a:Rat)+(x:Rat)*u 0:=by unfold Fm.val;rw[adn];rfl
def Rz:fu eV=aq:=by
 refine VA0.fu (m:=1) ⟨rfl,aR,aR,aR,aR,aR,fun x k=>?_,fun x k=>?_,fun x k=>?_⟩
 .have w:(((1:Int)):Rat)=1:=by rfl
  have h:(((-1:Int)):Rat) = -1:=by rfl
  have e:(((2:Int)):Rat)=2:=by rfl
  simp only[eV,aiz,ajr,akD] at k;rcases k with rfl | rfl
  .refine ⟨⟨aR,rfl⟩,⟨aR,rfl⟩,xu.2 ⟨⟨fun _=>1,fun c a=>?_⟩,fun v hv=>?_⟩⟩
   .simp only[aiz,ajr,akD] at a;rcases a with rfl | rfl
    .show (0:Rat)<=Fm.val _ _ _;rw[vK,w,h];grind
    .show (0:Rat)<=Fm.val _ _ _;rw[vK,e,h];grind
   .have:v=0:=aD;subst this;refine ⟨⟨1,fun u z=>?_⟩,-2,fun u z=>?_⟩
    .have:(0:Rat)<=Fm.val _ 1 u:=z (B4 1 (-1) ar) aO;rw[vK,w,h] at this;grind
    .have:(0:Rat)<=Fm.val _ 1 u:=z (B4 (-1) 2 ar) aO;rw[vK,e,h] at this;grind
  .refine ⟨⟨aR,rfl⟩,⟨aR,rfl⟩,xu.2 ⟨⟨fun _ => -1,fun c a=>?_⟩,fun v hv=>?_⟩⟩
   .simp only[aiz,ajr,akD] at a;rw[a];show Fm.val _ _ _=(0:Rat);rw[vK,w];grind
   .have:v=0:=aD;subst this;refine ⟨⟨-1,fun u z=>?_⟩,1,fun u z=>?_⟩
    .have:Fm.val _ 1 u=(0:Rat):=z (B4 1 1 aq) aO;rw[vK,w] at this;grind
    .have:Fm.val _ 1 u=(0:Rat):=z (B4 1 1 aq) aO;rw[vK,w] at this;grind
 .simp only[eV,aiz,ajr,akD] at k;rcases k with rfl | rfl
  .exact ⟨aR,⟨aR,rfl⟩,rfl,fun y b=>by simp only[aiz,ajr,akD] at b;rw[b];rfl⟩
  .exact ⟨aR,⟨aR,rfl⟩,rfl,fun y b=>by simp only[aiz,ajr,akD] at b;rw[b];rfl⟩
 .simp only[eV,aiz,ajr,akD] at k;rw[k];exact ⟨aR,aR,rfl⟩
def W4:qy eV eV []=(eT eV eV 1 1 [],(cz eV eV []).map gp,0):=by have v:=Rz;have A:VA0 eV 1:=qQ v;have f:eR eV=aq:=aR;have s:=zy f A;have h:gO eV eV 1 1 []=aq:=aR;have hv:=SX A A s s h;unfold qy;rw[ah1 ⟨v,v⟩,ah1 aR];show (if gO eV eV 1 1 []=aq/\fu (eT eV eV 1 1 [])=aq then _ else _)=_;rw[ah1 ⟨h,by rw[hv];decide⟩];rfl
def KM:bg prog 6 [] (.v0 aq):=by
 refine pw func6 ?_;have f:eR eV=aq:=aR;have k:=LV eV eV [] ar f f aR;rw[W4] at k;have x:(eT eV eV 1 1 []).bA=2:=rfl;have a:(eT eV eV 1 1 []).aJ.length=4:=aR;have b:(eT eV eV 1 1 []).aN.length=8:=aR;have c:(eT eV eV 1 1 []).init.length=1:=aR;generalize eT eV eV 1 1 []=R at *;have h:bg prog 7 [.agg (c9 eV),.agg (c9 eV),.nil] (.bM [.agg (c9 R),.q0 0]) :=
  bR.D9 k (.cons (bf.refl _) (.cons (bf.refl _) (.cons (eW 1) .nil)));refine Y ?_;refine cY Tx ?_;refine cX Tx ?_;generalize eV=T at *;refine Y ?_;refine cX h ?_;have y:((ae R.aJ:Int)=4)=True:=aiq aD;have z:((ae R.aN:Int)=8)=True:=aiq aD;have w:((ae R.init:Int)=1)=True:=aiq aD;refine Z4 x y z w ?_;exact aW rfl rfl
def VV (a b:Au) (l:List Int) (fl:Bool) (k:AuL a) (x:AuL b) (y:ae l < 9223372036854775808) :
  bg prog 5 [.agg (c9 a),.agg (c9 b),.seq 1 fl (br l)] (.v0 (eR a&&(eR b&&decide (ae l<=40)))):=by
 refine pw func5 ?_;refine Y ?_;refine cX (On a k) ?_;cases eR a with
 | false =>
  refine Z0 ?_;exact aW rfl rfl
 | true =>
  refine Y ?_;refine cX (On b x) ?_;cases eR b with
  | false =>
   refine Z0 ?_;exact aW rfl rfl
  | true =>
   have e:decide ((ae l:Int)<=40)=decide (ae l<=40):=by congr 1;exact propext ⟨fun h=>aD,fun h=>aD⟩
   refine Z0 ?_;exact aW (by rw[<-e]) rfl
def XV (a b:Au) (l:List Int) (fl:Bool) (D:AuL a) (E:AuL b) (F:ae l < 9223372036854775808) :
  bg prog 3 [.agg (c9 a),.agg (c9 b),.seq 1 fl (br l)] (.v0 aq):=by
 refine pw func3 ?_;refine Y ?_;refine cX (VV a b l fl D E F) ?_;cases s:eR a&&(eR b&&decide (ae l<=40)) with
 | false =>
  refine Z0 ?_;refine cY KM ?_;exact aW rfl rfl
 | true =>
  simp only[ah2,aiU] at s;have ⟨w,c,h⟩:=s;have m:=LV a b l fl w c h;have o:=XT a b l fl w c h;have p:=XP a b l fl w c h;have q:=RQ (l:=l) w c;have r:=aav (l:=l) w c;refine Z0 ?_;refine cY m ?_;refine cY o ?_;refine cX p ?_;by_cases g:zi a b l=0
  .have ⟨A,B,t,hv⟩:=r g;have W:=Ga (fl:=fl) A B (l:=l) aD;have M:=A.m4;have z:(zi a b l=0)=True:=aiq g;rw[t];have C:AuS (jd a b (az a.bA) (az b.bA) l):=by have V:=qQ hv;have ⟨_,_,T,J,U,⟨⟨i4,j⟩,i6,i7⟩,i8,L⟩:=V.Ul;exact ⟨aD,aD,aD,fun x k=>J x k,fun x k=>⟨(j x k).2.2,cn ((j x k).1),(j x k).2.1⟩,fun x k=>(L x k).1⟩
   have X:=TB _ C;generalize jd a b (az a.bA) (az b.bA) l=R at *;have G:ae ((cz a b l).map gp)<=2560:=by rw[ah3];exact FA A B l
   generalize (cz a b l).map gp=y at *;clear m o p q r t hv;refine Z1 z ?_;refine cX W ?_;refine Z0 ?_;refine cX X ?_;refine Z0 ?_;refine aZ (fun n e H=>∃i:Nat,i<=ae y/\n=ae y - i /\
    e=[(9,.seq 2 ar (y.map sD)),(13,.seq 2 ar (y.map sD)),(79,.q0 (ae y:Int)),(80,.q0 (i:Int))]) (n:=ae y) ⟨0,aD,rfl,rfl⟩ ?_;rintro n _ H ⟨i,O,S,rfl⟩;by_cases f:(i:Int) < (ae y:Int)
   .have v:au .i64 ((i:Int)+1)=((i+1:Nat):Int):=by rw[wrap_i64 aD aD];rfl
    generalize k:af y i ah=x at *;have I:∀K,TW aq [ar,ar] (.agg [.q0 x.1,.q0 x.2]) (.agg [.q0 x.1,.q0 x.2]) K=K (.v0 ar):=fun K=>by simp[TW,HO,bO]
    refine Y4 f k I v ?_;exact ⟨aD,aD,ae y - (i+1),aD,i+1,aD,rfl,rfl⟩
   .refine Y1 f ?_;refine cY KM ?_;exact aW rfl rfl
  .generalize zi a b l=N at *;have z:(N=0)=False:=aie g;refine Z2 z q ?_;refine cY KM ?_;exact aW rfl rfl
end
end Go.Fx
