/- A state of the product is allowed or initial exactly when its two parts are; ProductStates returns true whatever its arguments are: part 8 of 10. No condition. -/
import Derived.Test.YtkpkkhepecgeiaaGreatBg
import Derived.Test.YtkpkkhepecgeiaaGreatBe
import Derived.Test.YtkpkkhepecgeiaaGreatBc
import Derived.RangeFuncLeaves
import Derived.Test.YtkpkkhepecgeiaaGreatBd
set_option linter.all false
set_option maxRecDepth 8000
set_option maxHeartbeats 9000000
set_option autoImplicit true
set_option relaxedAutoImplicit true
namespace Go.Fx
open Go.Proofs.Tryz
open List renaming length->ae,getD->af,replicate->aA,eraseIdx->aB,range->aC
open Inhabited renaming default->ah
open Option renaming some->ak,none->an
open Bool renaming true->aq,false->ar
open Go.IntKind renaming wrap->au
open Int renaming natAbs->ay,toNat->az
section
variable {P:Program}
def Gy (h:aH H a 0=ak ⟨4,0,l.map qC⟩) (k:n=ae l) :
  Fin 0 (.agg [.q0 0,.q0 0,.nil,.q0 0,.nil,.nil,.nil,.sl 4 a 0 0 n]) H (pW ⟨0,ah,.nil,.nil,pZ l⟩) []:=by
 subst k;refine qJ h (by show (l.map qC).all (fun x=>x.all b8)=aq;rw[W6];intro x y;obtain ⟨q,_,rfl⟩:=Xf.1 y;exact pK q) ?_;have e:dT a 0 4 (l.map qC) (.agg [.q0 0,.q0 0,.nil,.q0 0,.nil,.nil,.nil,.sl 4 a 0 0 (ae l)]) = .agg [.q0 0,.q0 0,.nil,.q0 0,.nil,.nil,.nil,pZ l]:=by simp[dT,oF,fX,pZ,Xq]
 rw[e];exact aV (qL 0 _ _ _).symm (by rw[<-qL];exact lQ rC rC (mS _))
def Ix {n:Nat} {rv:AV} {aI:List bV} {aN:bV} {o:pR} (hn:n < 1000000) (B:ae aI < 1000000) (W:SlV [] 6 rv (aI.map bT)) (v:ae aN.dh < 1000000) (X:∀r,r∈aI->ae r.dh < 1000000) (hm:sZ n aI aN o) :
  a9 prog 109 [.q0 (n:Int),rv,.agg (bT aN)] (pW o):=by
 refine pc func109 zI ?_;refine uz ?_;have s:((bT aN).all cN)=aq:=by show (aq&&((qC aN.add++[AV.v0 aN.eq]).all cN))=aq;rw[Ze,DG];rfl
 have f:aF rv=[]:=by
  generalize aI.map bT=xs at W;cases W with
  | nil=>rfl
  | seq=>rfl
  | sl h=>simp[aH] at h
 have G:∀K,gn aq (bT aN) 0 6 K=K (.agg (bT aN)):=fun K=>by simp[gn,fm,bT,bD,qC]
 obtain ⟨i,k⟩:∃i,i=([ak ⟨8,0,[rF]⟩]:aE):=⟨_,rfl⟩;have w:i=([ak ⟨8,0,[[.q0 0,.q0 0,.nil,.q0 0,.nil,.nil,.nil,.nil]]⟩]:aE):=k;simp only[go_sem,↓reduceIte,Xb,s,G,<-w];have A:SlV i 6 rv (aI.map bT):=W.same (fun id e=>by rw[f] at e;simp at e);refine dZ (Nw hn B A f v X) ?_;rintro _ S ⟨t,D,rfl,I,k2,i2⟩;have j:sX S t D:=⟨by rw[k2.2 0 (by rw[k];simp) aK,k];rfl,fun H=>by have:=i2 0 H;rw[k] at this;simp at this⟩;refine Y ?_;cases hm with
 | eqs b =>
  refine dZ (rh b I) ?_;rintro _ N ⟨M,g,a,rfl,ha,x⟩;have z:=j.eX g;have p:=z.eT;have q:=z.set;simp only[go_sem,↓reduceIte,WY,Xb,X9,p,q,rF];have V:=aU j.ob;exact Gy (by rw[aW aD];exact x) rfl
 | mh b c y =>
  refine dZ (rh b I) ?_;rintro _ N ⟨M,g,rfl,J⟩;have z:=j.eX g;refine Z0 ?_;refine dZ (Ek c J) ?_;rintro _ T ⟨rfl,O,L,E⟩;have l:=z.eX E;refine Y ?_;refine dZ (zo (c _) y L) ?_;rintro _ U ⟨R,F,a,rfl,ha,x⟩;have m:=l.eX F;have p:=m.eT;have q:=m.set;simp only[go_sem,↓reduceIte,WY,Xb,X9,p,q,rF];have V:=aU l.ob;exact Gy (by rw[aW aD];exact x) rfl
 | fin b c y C hE =>
  refine dZ (rh b I) ?_;rintro _ N ⟨M,g,rfl,J⟩;have z:=j.eX g;refine Z0 ?_;refine dZ (Ek c J) ?_;rintro _ T ⟨rfl,O,L,E⟩;have l:=z.eX E;refine Y ?_;refine dZ (zo (c _) y L) ?_;rintro _ U ⟨R,F,rfl,t5⟩;have m:=l.eX F;refine Z0 ?_;exact OO hE C t5 m
end
def bV.val (r:bV) (n:Nat) (u:Nat->Rat):Rat:=r.add.val+bR n fun k=>(af r.dh k ah).val*u k
def bV.gP (r:bV) (n:Nat) (u:Nat->Rat):Prop:=if r.eq=aq then r.val n u=0 else 0<=r.val n u
def nr (n:Nat) (aI:List bV) (u:Nat->Rat):Prop:=∀r,r∈aI->r.gP n u
inductive sh (n:Nat) (aI:List bV) (aN:bV):Int->Rat->Prop
 | void {v:Rat}:(¬∃u,nr n aI u)->sh n aI aN 0 v
 | qH {v:Rat}:(∀B,∃u,nr n aI u/\aN.val n u < B)->sh n aI aN 1 v
 | pT {v:Rat}:(∃u,nr n aI u/\aN.val n u=v)->(∀u,nr n aI u->v<=aN.val n u)->sh n aI aN 2 v
structure Hg (n:Nat) (aI:List bV) (aN:bV) (M:Int):Prop where
 S:yk n aI M
 len:∀r,r∈aI->r.dh.length=n
 Ov:aN.dh.length=n
 cd:∃d:Int,d≠0 /\ -M<=d/\d<=M/\(∀r,r∈aI->∀x,x∈r.line->QV x/\Num M d x.val)/\∀x,x∈aN.line->QV x/\Num M d x.val
section
variable {n:Nat} {aI:List bV} {aN:bV} {M:Int}
def qz:(bO n aI aN).cells.getD i []=if i < ae aI then (af aI i ah).line else []:=by
 show af ((aI.take (ae aI)).map bV.line) i []=_;rw[XP];by_cases h:i < ae aI
 .rw[W0 h];simp[af,h]
 .rw[WX h];simp[af,show ae aI<=i by omega]
def rD {i:Nat} (h:i < ae aI):(bO n aI aN).aJ.getD i 0=(n:Int)+(i:Int):=by show af ((aC (ae aI)).map fun (i:Nat)=>(n:Int)+(i:Int)) i 0=_;simp[af,h]
def uZ {k:Nat} (h:k < n):(bO n aI aN).out.getD k 0=(k:Int):=by show af ((aC n).map fun (i:Nat)=>(i:Int)) k 0=_;simp[af,h]
def nM:(bO n aI aN).cells.length=ae aI:=by simp[bO,fO]
def tU:(bO n aI aN).out.length=n:=by simp[bO,fO]
def PN (P:Hg n aI aN M):eL (bO n aI aN):=by
 have ⟨d,_,_,_,y,z⟩:=P.cd;refine ⟨by rw[nM];simp[bO,fO],fun i h=>?_,?_,fun i h x k=>?_,fun x k=>(z x k).1⟩
 .rw[nM] at h;rw[qz,W0 h,tU];simp only[bV.line,XG];rw[P.len _ (cV h)]
 .rw[tU];simp[bO,fO,bV.line,P.Ov]
 .rw[nM] at h;rw[qz,W0 h] at k;exact (y _ (cV h) x k).1
def Lt (P:Hg n aI aN M):Beg (bO n aI aN).dic n aI M:=by
 have ⟨d,l,o,p,q,r⟩:=P.cd;have f:(bO n aI aN).dic.m=ae aI:=nM;have z:(bO n aI aN).dic.w=n:=tU;have e:∀i,i < ae aI->(bO n aI aN).dic.bu i=(n:Int)+(i:Int):=fun i h=>rD h;have b:∀k,k < n->(bO n aI aN).dic.out k=(k:Int):=fun k y=>uZ y;refine ⟨P.S,⟨fun i j h x a=>?_,fun i j h x a=>?_,fun i j h x a=>?_⟩,⟨d,l,o,p,fun i h c g=>?_,fun c g=>?_⟩,z,fun k y=>?_,?_⟩
 .rw[f] at h x;rw[e i h,e j x] at a;omega
 .rw[z] at h x;rw[b i h,b j x] at a;omega
 .rw[f] at h;rw[z] at x;rw[e i h,b j x] at a;omega
 .rw[f] at h;rw[z] at g;have s:(af aI i ah).line.length=n+1:=by simp only[bV.line,XG];rw[P.len _ (cV h)]
  show Num M d (af ((bO n aI aN).cells.getD i []) c ah).val;rw[qz,W0 h];exact (q _ (cV h) _ (cV aD)).2
 .rw[z] at g;have s:ae aN.line=n+1:=by simp[bV.line,P.Ov]
  exact (r _ (cV (show c < ae aN.line by omega))).2
 .rw[z] at y;rw[b k y];omega
 .rintro v (⟨i,h,rfl⟩ | ⟨k,y,rfl⟩)
  .rw[f] at h;rw[e i h];omega
  .rw[z] at y;rw[b k y];omega
def val_congr {r:bV} {u v:Nat->Rat} (h:∀k,k < n->u k=v k):r.val n u=r.val n v:=by unfold bV.val;rw[cH (g:=fun k=>(af r.dh k ah).val*v k) fun k x=>by rw[h k x]]
def Gx (f:Nat->Rat) (x:Asg):(bO n aI aN).dic.rv f x=f 0+bR n fun k=>f (k+1)*x (k:Int):=by unfold Dic.rv;rw[show (bO n aI aN).dic.w=n from tU];congr 1;exact cH fun k h=>by rw[show (bO n aI aN).dic.out k=(k:Int) from uZ h]
def xI (x:Asg):(bO n aI aN).dic.rv (bO n aI aN).dic.g x=aN.val n fun k=>x (k:Int):=Gx _ _
def EI (x:Asg) (h:i < ae aI):(bO n aI aN).dic.rv ((bO n aI aN).dic.a i) x=(af aI i ah).val n fun k=>x (k:Int):=by rw[Gx];show (af ((bO n aI aN).cells.getD i []) 0 ah).val+bR n (fun k=>(af ((bO n aI aN).cells.getD i []) (k+1) ah).val*_)=_;rw[qz,W0 h];rfl
def zY {i:Nat} (h:i < ae aI):(bO n aI aN).fj ((n:Int)+(i:Int))=(af aI i ah).eq:=by unfold Tab.fj;show (decide ((n:Int)<=(n:Int)+i)&&decide ((n:Int)+i < (n:Int)+ae aI)&&(af aI (az ((n:Int)+i - n)) ah).eq)=_;have:az ((n:Int)+i - n)=i:=aD;rw[this];simp only[XB (show (n:Int)<=(n:Int)+i by omega),XB (show (n:Int)+i < (n:Int)+ae aI by omega),Yh]
def CQ (h:Pts (bO n aI aN).dic (bO n aI aN).eQ (bO n aI aN).dP x):nr n aI fun k=>x (k:Int):=by
 have ⟨b,c,f⟩:=h;intro r g;obtain ⟨i,z,rfl⟩:=Yz.1 g;have e:aI[i]=af aI i ah:=by simp[af,z]
 have a:=b i (by show i < (bO n aI aN).cells.length;rw[nM];exact z);rw[EI x z,show (bO n aI aN).dic.bu i=(n:Int)+(i:Int) from rD z] at a;rw[e];unfold bV.gP;rw[<-a];have w:=zY (n:=n) (aN:=aN) z;split
 .rename_i y;exact c _ (by unfold Tab.eQ;rw[w];exact y)
 .rename_i y;refine f _ (.inl ⟨i,by show i < (bO n aI aN).cells.length;rw[nM];exact z,rD z⟩) ?_;unfold Tab.dP Tab.cx;rw[w];have:(bO n aI aN).n=n:=rfl;rw[this,XB (show (n:Int)<=(n:Int)+i by omega),Yh];simpa using y
def CK {u:Nat->Rat} (h:nr n aI u):∃x,Pts (bO n aI aN).dic (bO n aI aN).eQ (bO n aI aN).dP x/\∀k,k < n->x (k:Int)=u k:=by
 obtain ⟨x,l⟩:∃x:Asg,x=fun v=>if v < (n:Int) then u (az v) else if v < (n:Int)+ae aI then (af aI (az (v - n)) ah).val n u else 0:=⟨_,rfl⟩;have f:∀k,k < n->x (k:Int)=u k:=fun k w=>by rw[l];simp only[];rw[W0 (by omega),Xd]
 have e:∀i,i < ae aI->x ((n:Int)+(i:Int))=(af aI i ah).val n u:=fun i y=>by grind
 have z:∀i,i < ae aI->(af aI i ah).gP n u:=fun i y=>h _ (cV y);refine ⟨x,⟨fun i y=>?_,fun v hv=>?_,fun v hv a=>?_⟩,f⟩
 .have y:i < (bO n aI aN).cells.length:=y;rw[nM] at y;rw[EI x y,show (bO n aI aN).dic.bu i=(n:Int)+(i:Int) from rD y,e i y];exact (val_congr fun k w=>f k w).symm
 .have hv:(bO n aI aN).fj v=aq:=hv;have m:(n:Int)<=v/\v < (n:Int)+ae aI:=Aw hv;obtain ⟨i,rfl⟩:∃i:Nat,v=(n:Int)+i:=⟨az (v - n),by omega⟩;have y:i < ae aI:=by omega
  rw[zY y] at hv;have:=z i y;unfold bV.gP at this;rw[W0 hv] at this;rw[e i y];exact this
 .rcases hv with ⟨i,y,rfl⟩ | ⟨k,w,rfl⟩
  .have y:i < (bO n aI aN).cells.length:=y;rw[nM] at y;have b:(bO n aI aN).dic.bu i=(n:Int)+(i:Int):=rD y;rw[b] at a ⊢;have c:=fun g=>Fg _ _ (by unfold Tab.eQ;rw[zY y];exact g) a;have:=z i y;unfold bV.gP at this;rw[WX c] at this;rw[e i y];exact this
  .have w:k < (bO n aI aN).out.length:=w;rw[tU] at w;have j:(bO n aI aN).dic.out k=(k:Int):=uZ w;rw[j] at a;exact absurd a (xX _ _ (by unfold Tab.fr;show (k:Int) < (n:Int);omega))
def Jg {p:Nat->Bool} {b:Nat} (h:p b=aq):∃k,k<=b/\p k=aq/\∀j,j < k->p j=ar:=by
 induction b using Nat.strongRecOn with
 | _ b w =>
  by_cases z:∃j,j < b/\p j=aq
  .grind
  .exact ⟨b,WY _,h,fun j y=>by
    cases x:p j with
    | false=>rfl
    | true=>exact absurd ⟨j,y,x⟩ z⟩
def zt (P:Hg n aI aN M):∃o,sZ n aI aN o/\sh n aI aN o.kind o.value.val:=by
 have B:=Lt P;have V:=PN P;have hm:(bO n aI aN).cells.length=ae aI:=nM;have hw:(bO n aI aN).out.length=n:=tU;have E0:nq (bO n aI aN).dic n aI (bO n aI aN):=⟨V,.refl B.bU,rfl,rfl,hw,aD,fun k _=>GN _ _⟩;have H:(¬∃x,Pts (bO n aI aN).dic (bO n aI aN).eQ (bO n aI aN).dP x)->¬∃u,nr n aI u:=fun hn ⟨u,hu⟩=>by obtain ⟨x,hx,_⟩:=CK (aN:=aN) hu;exact hn ⟨x,hx⟩
 have ⟨N,T1,res,E,q2⟩:=Ax B.S B.bU B.cd (sd:=(bO n aI aN).dP) _ 0 rfl (XE _) E0 (fun r hr=>aD) (fun k t=>by rw[hw] at t;left;rw[uZ t];show (k:Int) < (n:Int);omega);cases res with
 | some m=>exact ⟨_,.eqs E,.void (H q2)⟩
 | none =>
  have ⟨E1,D⟩:=q2;have G:∀c,eg (T1.cU c):=fun c=>((zR E1 D c).1).w B.S B.bU B.cd;have ⟨R,P2⟩:=IZ E1 D;have ⟨f,res,J,q4⟩:=M5 B R P2;have same:∀{X:Tab},X.n=n->X.aI=aI->X.fr=(bO n aI aN).fr/\X.eQ=(bO n aI aN).eQ/\X.dP=(bO n aI aN).dP:=fun {X} C I=>by
   refine ⟨?_,?_,?_⟩
   .funext v;unfold Tab.fr;rw[C];rfl
   .funext v;unfold Tab.eQ Tab.fj;rw[C,I];rfl
   .funext v;unfold Tab.dP Tab.cx Tab.fj;rw[C,I];rfl
  cases res with
  | some m =>
   have ⟨_,W,A⟩:=same R.tn R.tr;rw[W,A] at q4;exact ⟨_,.mh E G J,.void (H q4)⟩
  | none =>
   have ⟨m,a2,z⟩:=q4;have F:∀{X:Tab},qU (bO n aI aN).dic n aI n m X->eg X:=fun {X} h=>qR B.S h.v h.pre.fit.eM B.bU B.cd h.tn h.tr (by rw[h.tm];omega) (by rw[h.tw];omega);have W2:=F z;have lt:∀{X:Tab},eL X->∀k,X.gN k=aq↔X.fr (X.dic.out k)/\X.dic.g (k+1)≠0:=fun {X} hX k=>by unfold Tab.gN;rw[WZ,decide_eq_true_iff,Yd,YI,I8 hX];rfl
   have below:∀{X:Tab},(∀l,∃x,Pts (bO n aI aN).dic X.eQ X.dP x/\(bO n aI aN).dic.rv (bO n aI aN).dic.g x < l)->X.n=n->X.aI=aI->∀l,∃u,nr n aI u/\aN.val n u < l:=fun {X} hX C I l=>by have ⟨x,L,O⟩:=hX l;have ⟨_,W,A⟩:=same C I;rw[W,A] at L;rw[xI] at O;exact ⟨_,CQ L,O⟩
   by_cases hl:∃b,b < ae f.out/\f.gN b=aq
   .have ⟨b,hb,a0⟩:=hl;have ⟨k,k1,k2,k3⟩:=Jg a0;have ⟨l1,l2⟩:=(lt z.v k).1 k2;have K:k < ae f.out:=aD;exact ⟨_,.fin E G J W2 (.loose K k2 k3 (B.var _ (z.pre.fit.eM.var _ (.inr ⟨k,K,rfl⟩))).1),.qH (below (fun l=>z.pre.qH z.mh K l1 l2 l) z.tn z.tr)⟩
   .have tight:∀j,j < ae f.out->f.gN j=ar:=fun j hj=>by
     cases hx:f.gN j with
     | false=>rfl
     | true=>exact absurd ⟨j,hj,hx⟩ hl
    have p:∀q,q < f.dic.w->f.fr (f.dic.out q)->f.dic.g (q+1)=0:=fun q hq hf=>Zh fun a1=>by have:=tight q hq;rw[(lt z.v q).2 ⟨hf,a1⟩] at this;simp at this
    obtain ⟨N2,T3,r,T,y,g3⟩:=Gh B.S B.bU B.cd (by omega) (show m<=ae aI+1 by omega) (lo:=0) (V:=n+ae aI) (fun v hv=>by have:=B.var v hv;omega) z;have ⟨_,s⟩:=T.aR (P:=fun X=>Pre (bO n aI aN).dic X.dic X.fr X.eQ X.dP/\∀q,q < X.dic.w->X.fr (X.dic.out q)->X.dic.g (q+1)=0) z.v ⟨z.pre,p⟩ (fun X i k v _ _ U hi t hp b=>by
     have e:=jL v hi t hp;have ne:X.dic.a i (k+1)≠0:=by have:=b.uI;grind
     exact ⟨by rw[e];exact U.1.b9 hi t ne b.si b.sk,by rw[e];exact U.1.loose hi t b.si U.2⟩);cases g3 with
    | pT hb =>
     refine ⟨_,.fin E G J W2 (.tight tight (.pT T)),.pT ?_ fun u hu=>?_⟩
     .have ⟨p1,p2⟩:=y.pre.pd y.mh;have ⟨_,W,A⟩:=same y.tn y.tr;rw[W,A] at p1;rw[xI] at p2;exact ⟨_,CQ p1,p2⟩
     .have ⟨x,L,O⟩:=CK (aN:=aN) hu;have ⟨_,W,A⟩:=same y.tn y.tr;have:=y.pre.least s hb (x:=x) (by rw[W,A];exact L);rw[xI] at this;have e:aN.val n (fun k=>x (k:Int))=aN.val n u:=val_congr fun k t=>O k t;rw[e] at this;exact this
    | nS a b c d =>
     rename_i k;refine ⟨_,.fin E G J W2 (.tight tight (.nS T a (B.var _ (y.pre.fit.eM.var _ (.inr ⟨k,a,rfl⟩))).1)),.qH (below (fun l=>y.pre.nS y.mh a b c d l) y.tn y.tr)⟩
end
section
variable {P:Program}
def MD (n:Int):a9 prog 64 [.q0 n] (.v0 (decide (0<=n/\n<=8))):=by
 refine pw func64 ?_;by_cases h:0<=n
 .refine Z ?_;exact aV rfl rfl
 .refine Z ?_;exact aV rfl rfl
def BC (n:Int):a9 prog 85 [.q0 n] (.v0 (qh n)):=by
 refine pw func85 ?_;unfold qh;by_cases h:-1152921504606846976<=n
 .refine Z ?_;exact aV rfl rfl
 .refine Z ?_;exact aV rfl rfl
def LW (l:List Int) (n:ae l < 1000000000) (b:Bool):a9 prog 86 [.seq 1 b (jN l),.fn 85 [] []] (.v0 (l.all qh)):=by
 refine pw func86 ?_;have y:(ah:Int)=0:=rfl;refine Z ?_;refine bE (fun k e H=>∃i:Nat,i<=ae l/\k=ae l - i/\(∀j,j < i->qh (af l j 0)=aq) /\
  e=[(1,.fn 85 [] []),(7,.seq 1 b (jN l)),(8,.q0 (ae l:Int)),(9,.q0 (i:Int))]) ⟨0,aD,rfl,fun j h=>aD,rfl⟩ ?_;rintro k _ H ⟨i,f,m,w,rfl⟩;by_cases a:(i:Int) < (ae l:Int)
 .have c:=ws i;refine Z ?_;refine ⟨aD,aG (BC (af l i 0)) rfl rfl ?_⟩;by_cases z:qh (af l i 0)=aq
  .refine Z ?_;exact ⟨ae l - (i+1),aD,i+1,aD,rfl,Kw aD w z,rfl⟩
  .have x:qh (af l i 0)=ar:=bk z;refine Z ?_;exact aV (by rw[MK aD x]) rfl
 .refine Z ?_;exact aV (by rw[Kv (fun j g=>w j aD)]) rfl
def um (n:Int) (f:Fm) (z:ae f.c < 1000000000):a9 prog 60 [.q0 n,.agg (fC f)] (.v0 (f.jd n)):=by
 refine pw func60 ?_;unfold Fm.jd;refine Z ?_;refine cX (MD n) ?_;by_cases h:0<=n/\n<=8
 .by_cases w:(ae f.c:Int)=n
  .rw[XB (show 0<=n/\n<=8/\(ae f.c:Int)=n by omega),Yh];refine Z ?_;refine cX (BC f.a) ?_;by_cases x:qh f.a=aq
   .refine Z ?_;refine cX (LW f.c z ar) ?_;refine Z ?_;exact aV rfl rfl
   .have y:qh f.a=ar:=bk x;refine Z ?_;exact aV rfl rfl
  .rw[Xx (show ¬(0<=n/\n<=8/\(ae f.c:Int)=n) by omega),Yw];refine Z ?_;exact aV rfl rfl
 .have k:=Xh h;rw[Xx (show ¬(0<=n/\n<=8/\(ae f.c:Int)=n) by omega),Yw];refine Z ?_;exact aV rfl rfl
def Kc (n:Int) (l:List Cd) (K:ae l < 1000000000) (g:∀c,c∈l->ae c.f.c < 1000000000):a9 prog 108 [.agg [.q0 n,.seq 3 ar (l.map cC)]] (.v0 (jw n l)):=by
 refine pw func108 ?_;unfold jw;by_cases q:n < 0
 .refine Z ?_;exact aV (by rw[Xx (by omega)];rfl) rfl
 by_cases r:8 < n
 .refine Z ?_;exact aV (by rw[Xx (by omega)];rfl) rfl
 by_cases s:(120:Int) < (ae l:Int)
 .refine Z ?_;exact aV (by rw[Xx (by omega)];rfl) rfl
 rw[XB (show 0<=n/\n<=8/\ae l<=120 by omega),Yh];refine Z ?_;refine bE (fun k e H=>∃i:Nat,i<=ae l/\k=ae l - i/\(∀j,j < i->(af l j ah).f.jd n=aq) /\
  e=[(1,.fp [.q0 n,.seq 3 ar (l.map cC)] 0),(20,.seq 3 ar (l.map cC)),(21,.q0 (ae l:Int)),(22,.q0 (i:Int))]) ⟨0,aD,rfl,fun j h=>aD,rfl⟩ ?_;rintro k _ H ⟨i,t,v,w,rfl⟩;by_cases m:(i:Int) < (ae l:Int)
 .have p:=ws i;refine Z ?_;have b:af l i ah∈l:=by rw[af,W7 (by omega:i < ae l)];exact YN _
  refine ⟨aD,aG (um n (af l i ah).f (g _ b)) rfl rfl ?_⟩;by_cases z:(af l i ah).f.jd n=aq
  .refine Z ?_;refine ⟨ae l - (i+1),aD,i+1,aD,rfl,fun j a=>?_,rfl⟩;rcases Xe j i with h | h
   .exact w j h
   .rw[show j=i by omega];exact z
  .have y:(af l i ah).f.jd n=ar:=bk z;refine Z ?_;exact aV (by rw[Ye.2 ⟨_,b,by rw[y];decide⟩]) rfl
 .refine Z ?_;refine aV ?_ rfl;have:l.all (fun c=>c.f.jd n)=aq:=by rw[W6];intro x o;obtain ⟨j,a,rfl⟩:=Yz.1 o;have:=w j aD;simpa[af,a] using this
  rw[this]
def Kb (n:Int) (l:List Cd) (k:ae l < 1000000000) (h:∀c,c∈l->ae c.f.c < 1000000000):a9 prog 84 [.agg [.q0 n,.seq 3 ar (l.map cC)]] (.v0 (jw n l)):=by refine pw func84 ?_;refine Z ?_;refine cX (Kc n l k h) ?_;refine Z ?_;exact aV rfl rfl
def F9 (n:Int) (l:List Cd) (k:ae l < 1000000000) (h:∀c,c∈l->ae c.f.c < 1000000000):a9 prog 59 [.agg [.q0 n,.seq 3 ar (l.map cC)]] (.v0 (jw n l)):=by refine pw func59 ?_;refine Z ?_;refine cX (Kb n l k h) ?_;refine Z ?_;exact aV rfl rfl
def wq (n:Int):Q:=⟨n,0⟩
def Fm.dj (f:Fm) (e:Bool):bV:=⟨f.c.map wq,wq f.a,e,ar⟩
def Fm.fR (f:Fm) (i:Nat):List Q:=(f.c.take i).map wq++aA (ae f.c - i) ah
def KZ {f:Fm} {i:Nat} (h:i<=ae f.c):ae (f.fR i)=ae f.c:=by simp[Fm.fR];omega
def K0 {f:Fm} {i:Nat} (h:i < ae f.c):(f.fR i).set i (wq (af f.c i 0))=f.fR (i+1):=by unfold Fm.fR;rw[ZE _ _ (by simp;omega),W4,XI,XV (by omega),abW,show ae f.c - i=(ae f.c - (i+1))+1 by omega,aba,ZP,JY h,Xu];simp
def KY {f:Fm} {i:Nat} (h:i < ae f.c):((f.fR i).map qC)[i]?=ak (qC ah):=by unfold Fm.fR;rw[Ys,Xk cE,W4,XI,XV aD,abW,YH,W0 aD];rfl
def LZ (f:Fm) (K:ae f.c < 1000000000) (p:∀x,x∈f.c->I64 x) (o:I64 f.a):a9 prog 90 [.agg (fC f)] (.agg (bT (f.dj ar))):=by
 refine pw func90 ?_;refine Z ?_;refine aG (lR f.a o) rfl (aZ _) ?_;refine Z ?_;refine ⟨aD,by simp[List.all_replicate,ck],?_⟩;rw[ub];refine bE (fun n e H=>∃i:Nat,i<=ae f.c/\n=ae f.c - i/\H=[ak ⟨6,0,[[.nil,.q0 0,.nil,.q0 0,.nil,.v0 ar]]⟩,ak ⟨4,0,(f.fR i).map qC⟩,ak ⟨6,0,[[.sl 4 1 0 0 (ae f.c),.q0 (zv f.a),zd f.a,.q0 (zv 0),zd 0,.v0 ar]]⟩] /\
  e=[(2,.ptr 0 0 0 0),(3,.ptr 2 0 0 0),(15,iz f.c),(16,.q0 (ae f.c:Int)),(17,.q0 (i:Int))]) ⟨0,aD,rfl,by simp[Fm.fR],rfl⟩ ?_;rintro n _ _ ⟨i,v,X,rfl,rfl⟩;have j:(ah:Int)=0:=rfl;by_cases r:(i:Int) < (ae f.c:Int)
 .have h:i < ae f.c:=aD;have s:=ws i;have g:I64 (af f.c i 0):=p _ (bS h);have t:=py (KY h);refine Z ?_;refine ⟨aD,aG (lR _ g) rfl (aZ _) ?_⟩;refine Z ?_;have z:((f.fR i).map qC).set i [.q0 (zv (af f.c i 0)),zd (af f.c i 0),.q0 (zv 0),zd 0]=(f.fR (i+1)).map qC:=by rw[<-K0 h,Yp];rfl
  rw[z];exact ⟨aD,ae f.c - (i+1),aD,i+1,aD,rfl,rfl,rfl⟩
 .have w:i=ae f.c:=aD;subst w;refine Z ?_;have b:ae ((f.fR (ae f.c)).map qC)=ae f.c:=by rw[W4,KZ (WY _)]
  have l:Acc 0 [ak ⟨6,0,[[.sl 4 1 0 0 (ae f.c),.q0 (zv f.a),zd f.a,.q0 (zv 0),zd 0,.v0 ar]]⟩,ak ⟨4,0,(f.fR (ae f.c)).map qC⟩,ak ⟨6,0,[[.sl 4 1 0 0 (ae f.c),.q0 (zv f.a),zd f.a,.q0 (zv 0),zd 0,.v0 ar]]⟩] 4 (.sl 4 1 0 0 (ae f.c)) ((f.fR (ae f.c)).map qC):=by
   have:=Acc.sl (n0:=0) (H:=[ak ⟨6,0,[[.sl 4 1 0 0 (ae f.c),.q0 (zv f.a),zd f.a,.q0 (zv 0),zd 0,.v0 ar]]⟩,ak ⟨4,0,(f.fR (ae f.c)).map qC⟩,ak ⟨6,0,[[.sl 4 1 0 0 (ae f.c),.q0 (zv f.a),zd f.a,.q0 (zv 0),zd 0,.v0 ar]]⟩]) (k:=4) (id:=1) (ver:=0) (xs:=(f.fR (ae f.c)).map qC) aS rfl
   rwa [b] at this
  have y:f.fR (ae f.c)=f.c.map wq:=by simp[Fm.fR]
  rw[y] at l ⊢;have m:((f.c.map wq).map qC).all (fun x=>x.all b8)=aq:=by rw[W6];intro x g;obtain ⟨q,_,rfl⟩:=Xf.1 g;exact pK q
  exact l.HC (pre:=[]) (post:=[.q0 (zv f.a),zd f.a,.q0 (zv 0),zd 0,.v0 ar]) m rfl (by have:=pK (wq f.a);show (b8 (.q0 (zv f.a))&&(b8 (zd f.a)&&(b8 (.q0 (zv 0))&&(b8 (zd 0)&&(b8 (.v0 ar)&&aq)))))=aq;rw[BF,BF];rfl)
def Cd.dj (c:Cd):bV:=c.f.dj c.e
def E3 (r:bV):(bT r).all b8=aq:=by unfold bT;rw[Yu,Ze,pK];rfl
def jt (r:bV):bP (.agg (bT r))=aq:=by have h:=E3 r;rw[W6] at h;show (bT r).all fP=aq;rw[W6];exact fun a k=>BO (h a k)
def L0 (n:Int) (l:List Cd) (I:ae l < 1000000000) (K:∀c,c∈l->FmI c.f):a9 prog 63 [.agg [.q0 n,.seq 3 ar (l.map cC)]] (.seq 6 ar (l.map fun c=>bT c.dj)):=by
 refine pw func63 ?_;refine Z ?_;refine bE (fun k e H=>∃(i:Nat) (v:AV),i<=ae l/\k=ae l - i/\Acc 0 H 6 v ((l.take i).map fun c=>bT c.dj) /\
  e=[(3,v),(8,.seq 3 ar (l.map cC)),(9,.q0 (ae l:Int)),(10,.q0 (i:Int))]) ⟨0,.nil,aD,rfl,.nil,rfl⟩ ?_;rintro k _ H ⟨i,v,F,G,w,rfl⟩;have cv:=w.cell;by_cases X:(i:Int) < (ae l:Int)
 .have t:=ws i;refine Z ?_;have y:FmI (af l i ah).f:=K _ (bS aD);generalize j:af l i ah=c at *;refine ⟨aD,aG (LZ c.f y.len y.c y.a) rfl (jt _) ?_⟩;obtain ⟨o,h⟩:∃o,o=H++[ak (⟨3,0,[cC c]⟩:bC),ak ⟨6,0,[bT c.dj]⟩]:=⟨_,rfl⟩;have b:=w.aQ (h ▸ aT.app _ _ []) aK;have ⟨p,r,z,s,W,A,B,C,D,E⟩:=b.app (XE _) cE (bT c.dj);rw[h] at z;simp only[bT,Cd.dj,Fm.dj,wq] at z;simp only[go_sem,↓reduceIte,WY,bT,Fm.dj,wq,XU,XH] at z ⊢;refine Y2 z t ?_;refine ⟨rfl,ae l - (i+1),aD,i+1,p,aD,rfl,?_,rfl⟩;show Acc 0 r 6 p ((l.take (i+1)).map fun c=>bT c.dj);rw[By (g:=fun c:Cd=>bT c.dj) (d:=ah) aD,j];exact s
 .have m:i=ae l:=aD;subst m;refine Z ?_;rw[XP] at w;refine w.fin ?_;rw[W6];intro x y;obtain ⟨q,_,rfl⟩:=Xf.1 y;exact E3 _
def yI (x:Rat):x=x / ((1:Int):Rat):=by
 have h:(((1:Int)):Rat)=1:=by rfl
 rw[h];grind
def IE (n:Int):QV (wq n):=⟨Yn 0,by unfold wq Q.lo;simp⟩
def yg (n:Int):(wq n).val=(n:Rat):=by unfold Q.val wq Q.lo;rw[W0 rfl,Cp];exact (yI _).symm
def yn:(ah:Q).val=0:=by show Rat.divInt 0 _=0;simp
def LA {n:Nat} {f:Fm} {e:Bool} (u:Nat->Rat):(f.dj e).val n u=f.val n u:=by
 unfold bV.val Fm.val Fm.dj;rw[yg];congr 1;refine cH fun k _=>?_;congr 1;show ((af (f.c.map wq) k ah)).val=_;rw[XZ,Ys];rcases Xe k (ae f.c) with h | h
 .rw[W7 h];simp only[XL,XT,yg];simp[af,h]
 .rw[Xv h];simp only[Option.map_none,Option.getD_none,yn];simp[af,h]
def Il {n:Nat} {c:Cd} (u:Nat->Rat):c.dj.gP n u↔c.gP n u:=by unfold bV.gP Cd.gP Cd.dj;rw[LA];exact abe
def lh {n:Nat} {cs:List Cd} (u:Nat->Rat):nr n (cs.map Cd.dj) u↔fB n cs u:=by unfold nr fB;simp only[Xf,forall_exists_index,and_imp,forall_apply_eq_imp_iff₂,Il]
def qp (n v:Nat) (s:Int):bV:=⟨(aA n ah).set v (wq s),ah,ar,ar⟩
def Cy (x:k < n):(qp n v s).dh.getD k ah=if k=v then wq s else ah:=by
 unfold qp;simp only[XZ,abo,YH,Ym];by_cases h:v=k
 .subst h;simp[x]
 .rw[WX h,WX (Xg h)];simp[x]
def I7 {s:Int} (hv:v < n) (u:Nat->Rat):(qp n v s).val n u=(s:Rat)*u v:=by unfold bV.val;rw[lx hv (fun c k h=>by rw[Cy k,WX h,yn];grind),Cy hv,W0 rfl,yg];show (ah:Q).val+_=_;rw[yn];grind
def K6 (z:-M60<=s/\s<=M60):∀x,x∈(qp n v s).line->QV x/\Num M60 1 x.val:=by
 have y:QV (ah:Q)/\Num M60 1 (ah:Q).val:=⟨lG,0,aS,aS,yn ▸ yI 0⟩;intro x w;unfold bV.line at w;rcases X3.1 w with h | h
 .rw[h];exact y
 .rcases Yq h with k | k
  .rw[(YM.1 k).2];exact y
  .rw[k];exact ⟨IE s,s,z.1,z.2,by rw[yg];exact yI _⟩
def gL.Mu (h:gL n cs) (e:-M60<=s/\s<=M60):Hg n (cs.map Cd.dj) (qp n v s) M60:=by
 refine ⟨⟨dp h.n8,by have:=h.cl;simp;omega,aS,Nf (dp h.n8)⟩,fun r b=>?_,by simp[qp],1,aS,aS,aS,fun r b x f=>?_,K6 e⟩
 .obtain ⟨c,k,rfl⟩:=Xf.1 b;simp[Cd.dj,Fm.dj,h.len c k]
 .obtain ⟨c,k,rfl⟩:=Xf.1 b;have key:∀y:Int,(-M60<=y/\y<=M60)->QV (wq y)/\Num M60 1 (wq y).val:=fun y z=>⟨IE y,y,z.1,z.2,by rw[yg];exact yI _⟩;rcases X3.1 f with w | w
  .rw[w];exact key _ (h.a c k)
  .obtain ⟨y,z,rfl⟩:=Xf.1 w;exact key _ (h.c c k y z)
def FJ (n:Nat) (h:n < 1000000):bK prog 88 [.q0 (n:Int)] H (.agg [.sl 4 (ae H+1) 0 0 n,.q0 0,.nil,.q0 0,.nil,.v0 ar])
  (H++[ak ⟨6,0,[[.sl 4 (ae H+1) 0 0 n,.q0 0,.nil,.q0 0,.nil,.v0 ar]]⟩,ak ⟨4,0,(aA n (ah:Q)).map qC⟩]):=by refine cw func88 ?_;refine Z0 ?_;rw[ub];exact ⟨⟨aD,aD,aD⟩,eH (Wk1.refl _)⟩
def nP (y:fP p=aq) (z:fP q=aq) (hm:fP m=aq):bP (pW ⟨k,v,p,q,m⟩)=aq:=by
 show (fP (.q0 k)&&(fP (.q0 (zv v.top))&&(fP (zd v.top)&&(fP (.q0 (zv v.low))&&(fP (zd v.low)&&(fP p&&(fP q&&(fP m&&aq))))))))=aq;have h:∀x,fP (zd x)=aq:=fun x=>by unfold zd;split<;>rfl
 rw[h,h,y,z,hm];rfl
def pH (h:bh p=aq) (x:bh q=aq) (hm:bh m=aq):(pR.cells ⟨k,v,p,q,m⟩).all bh=aq:=by show (aq&&(aq&&(bh (zd v.top)&&(aq&&(bh (zd v.low)&&(bh p&&(bh q&&(bh m&&aq))))))))=aq;rw[DH,DH,h,x,hm];rfl
def sZ.cells (h:sZ n aI aN o):o.cells.all bh=aq/\jR 0 (pW o)=aq:=by
 cases h with
 | eqs _=>exact ⟨pH rfl rfl rfl,lQ rfl rfl rfl⟩
 | mh _ _ _=>exact ⟨pH rfl rfl rfl,lQ rfl rfl rfl⟩
 | fin _ _ _ _ x =>
  cases x with
  | loose _ _ _ _=>exact ⟨pH rfl rfl rfl,lQ rfl rfl rfl⟩
  | tight _ k =>
   cases k with
   | nS _ _ _=>exact ⟨pH rfl rfl rfl,lQ rfl rfl rfl⟩
   | pT _=>exact ⟨pH rfl rfl rfl,lQ rfl rfl rfl⟩
def sZ.bP (h:sZ n aI aN o):bP (pW o)=aq:=by
 cases h with
 | eqs _=>exact nP rfl rfl rfl
 | mh _ _ _=>exact nP rfl rfl rfl
 | fin _ _ _ _ x =>
  cases x with
  | loose _ _ _ _=>exact nP rfl rfl rfl
  | tight _ k =>
   cases k with
   | nS _ _ _=>exact nP rfl rfl rfl
   | pT _=>exact nP rfl rfl rfl
def GU {n:Nat} {cs:List Cd} {aN:bV} {o:pR} (e:n < 1000000) (h:ae cs < 1000000) (b:∀c,c∈cs->ae c.f.c < 1000000) (a:ae aN.dh < 1000000) (hm:sZ n (cs.map Cd.dj) aN o) :
  a9 prog 87 [.q0 (n:Int),.seq 6 ar (cs.map fun c=>bT c.dj),.agg (bT aN)] (pW o):=by
 have x:=Ix (rv := .seq 6 ar (cs.map fun c=>bT c.dj)) e (by simpa using h) (by rw[show ((cs.map Cd.dj).map bT)=cs.map (fun c=>bT c.dj) by simp];exact .seq) a (fun r g=>by obtain ⟨c,h,rfl⟩:=Xf.1 g;simpa[Cd.dj,Fm.dj] using b c h) hm;refine pw func87 ?_;have k:((bT aN).all cN)=aq:=by show (aq&&((qC aN.add++[AV.v0 aN.eq]).all cN))=aq;rw[Ze,DG];rfl
 have y:∀K,gn aq (bT aN) 0 6 K=K (.agg (bT aN)):=fun K=>by simp[gn,fm,bT,bD,qC]
 refine Y2 k y ?_;have z:[AV.q0 (n:Int),.seq 6 ar (cs.map fun c=>bT c.dj),.agg (bT aN)].all bP=aq:=by simp only[Yu,Zv,jt,X4];rfl
 refine aG x z hm.bP ?_;refine Y ?_;have w:ae o.cells=8:=rfl;have i:List.take 8 (o.cells++List.drop (0+ae o.cells) [AV.q0 0,.q0 0,.nil,.q0 0,.nil,.nil,.nil,.nil])=o.cells:=by rw[YP (by omega),Xq (by omega)]
 show (ae o.cells=8/\o.cells.all bh=aq)/\8<=ae (o.cells++_)/\Fin 0 (.agg (List.take 8 (o.cells++List.drop (0+ae o.cells) _))) _ _ _;refine ⟨⟨rfl,hm.cells.1⟩,by rw[Xn,w];omega,?_⟩;rw[i];exact aV rfl hm.cells.2
def sh.none (h:sh n (cs.map Cd.dj) g k v):decide (k=0)=sG n cs:=by
 cases h with
 | void h=>rw[B6 (fun ⟨u,x⟩=>h ⟨u,(lh u).2 x⟩)];rfl
 | qH h=>rw[yE ⟨_,(lh _).1 (h 0).choose_spec.1⟩];rfl
 | pT h _=>obtain ⟨u,x,_⟩:=h;rw[yE ⟨u,(lh u).1 x⟩];rfl
def sh.one (h:sh n (cs.map Cd.dj) g k v) (x:∃u,fB n cs u):k=1↔¬∃B,∀u,fB n cs u->B<=g.val n u:=by
 cases h with
 | void h=>exact absurd ⟨_,(lh _).2 x.choose_spec⟩ h
 | qH h =>
  refine ⟨fun _ ⟨B,w⟩=>?_,fun _=>rfl⟩;have ⟨u,y,z⟩:=h B;exact absurd z (aai.2 (w u ((lh u).1 y)))
 | pT _ h=>exact ⟨fun h=>absurd h aS,fun a=>absurd ⟨_,fun u b=>h u ((lh u).2 b)⟩ a⟩
def Ph {n:Nat} (h:gL n cs):a9 prog 61 [.q0 (n:Int),.seq 6 ar (cs.map fun c=>bT c.dj)] (.v0 (sG n cs)):=by
 have b:=h.n8;have ⟨o,x,y⟩:=zt (h.Mu (v:=n) (s:=0) aS);have w:qp n n 0=⟨aA n ah,ah,ar,ar⟩:=by unfold qp;rw[List.set_eq_of_length_le aK]
 rw[w] at x y;have a:=GU aD (dp h.cl) (fun c z=>by rw[h.len c z];omega) cE x;refine pw func61 ?_;refine Y ?_;refine dK (FJ n aD) ?_;refine Y ?_;refine wN 1 0 (ob:=⟨4,0,(aA n (ah:Q)).map qC⟩) rfl (by rw[Zw,W6];exact fun q _=>pK q) a ?_ ?_ x.bP ?_
 .show [AV.q0 (n:Int),.seq 6 ar (cs.map fun c=>bT c.dj),.agg [fX 1 0 4 ((aA n (ah:Q)).map qC) (.sl 4 1 0 0 n),_,_,_,_,_]]=_;have:fX 1 0 4 ((aA n (ah:Q)).map qC) (.sl 4 1 0 0 n) = .seq 4 ar ((aA n (ah:Q)).map qC):=by simp[fX]
  rw[this];rfl
 .simp only[Yu,Zv,jt,X4];rfl
 have k:∀K,FdP 0 ar 1 (pW o) K=K (.q0 o.kind):=fun K=>rfl;refine Y1 k ?_;exact aV (by rw[y.none]) rfl
def J8 {n:Nat} (h:gL n cs) (F:∃u,fB n cs u):a9 prog 62 [.q0 (n:Int),.seq 6 ar (cs.map fun c=>bT c.dj)] (.v0 (xC n cs)):=by
 have hn:=h.n8;refine pw func62 ?_;refine Y ?_;refine bE (fun q e H=>∃v:Nat,v<=n/\q=n - v/\(∀j,j < v->DI n cs j) /\
  e=[(0,.q0 (n:Int)),(1,.seq 6 ar (cs.map fun c=>bT c.dj)),(9,.q0 (n:Int)),(10,.q0 (v:Int))]) (n:=n) ⟨0,aD,rfl,fun j hj=>aD,rfl⟩ ?_;rintro q _ H ⟨v,hv,hq,O,rfl⟩;by_cases t:(v:Int) < (n:Int)
 .have e1:=ws v;have i:v < n:=aD;refine Y1 t ?_;refine bE (fun q e G=>∃k:Nat,k<=2/\q=2 - k/\(1<=k->∃B,∀u,fB n cs u->B<=u v)/\(2<=k->∃B,∀u,fB n cs u->B <= -u v) /\
   e=[(0,.q0 (n:Int)),(1,.seq 6 ar (cs.map fun c=>bT c.dj)),(5,.q0 (v:Int)),(9,.q0 (n:Int)),(10,.q0 (v:Int)),(13,.agg [.q0 1,.q0 (-1)]),(14,.q0 (k:Int))]) (n:=2) ⟨0,aD,rfl,fun h=>aD,fun h=>aD,rfl⟩ ?_;rintro q2 _ G ⟨k,hk,a0,a,A,rfl⟩;by_cases z:(k:Int) < 2
  .have e2:=ws k;obtain ⟨s,S,C,X⟩:∃s:Int,(-M60<=s/\s<=M60)/\(∀K,IxP 2 1 ar (.agg [.q0 1,.q0 (-1)]) (.q0 (k:Int)) K=K (.q0 s)) /\
     ((¬∃B,∀u,fB n cs u->B<=(s:Rat)*u v)->xC n cs=ar)/\((∃B,∀u,fB n cs u->B<=(s:Rat)*u v)->(1<=k+1->∃B,∀u,fB n cs u->B<=u v)/\(2<=k+1->∃B,∀u,fB n cs u->B <= -u v)):=by
    have p:(((1:Int)):Rat)=1:=by rfl
    have M:(((-1:Int)):Rat) = -1:=by rfl
    have T:∀u:Nat->Rat,(1:Rat)*u v=u v:=fun u=>by grind
    have U:∀u:Nat->Rat,(-1:Rat)*u v = -u v:=fun u=>by grind
    match k,hk,z,a with
    | 0,_,_,_=>exact ⟨1,aS,fun K=>rfl,by simp only[p,T];exact fun b=>Ji i (fun r=>b r.1),by simp only[p,T];exact fun b=>⟨fun _=>b,fun h=>aD⟩⟩
    | 1,_,_,a=>exact ⟨-1,aS,fun K=>rfl,by simp only[M,U];exact fun b=>Ji i (fun r=>b r.2),by simp only[M,U];exact fun b=>⟨fun _=>a aD,fun _=>b⟩⟩
    | k+2,_,z,_=>exact absurd z aD
   have ⟨o,R,E⟩:=zt (h.Mu (v:=v) S);have w:=E.one F;simp only[I7 i] at w;have r:=GU aD (dp h.cl) (fun c hc=>by rw[h.len c hc];omega) (by simp[qp];omega) R;refine Y2 z C ?_;refine dK (FJ n aD) ?_;have V:aH (G++[ak ⟨6,0,[[.sl 4 (ae G+1) 0 0 n,.q0 0,.nil,.q0 0,.nil,.v0 ar]]⟩,ak ⟨4,0,(aA n (ah:Q)).map qC⟩]) (ae G+1) 0=ak ⟨4,0,(aA n (ah:Q)).map qC⟩ :=
    (Jo (H:=G) (l:=[ak ⟨6,0,[[.sl 4 (ae G+1) 0 0 n,.q0 0,.nil,.q0 0,.nil,.v0 ar]]⟩,ak ⟨4,0,(aA n (ah:Q)).map qC⟩]) (j:=1) (v:=0)).trans (by simp[aH]);have z2:ae (G++[ak (⟨6,0,[[.sl 4 (ae G+1) 0 0 n,.q0 0,.nil,.q0 0,.nil,.v0 ar]]⟩:bC),ak ⟨4,0,(aA n (ah:Q)).map qC⟩])=ae G+1+1:=aK;generalize G++[ak (⟨6,0,[[.sl 4 (ae G+1) 0 0 n,.q0 0,.nil,.q0 0,.nil,.v0 ar]]⟩:bC),ak ⟨4,0,(aA n (ah:Q)).map qC⟩]=W at *;generalize ae G+1=g at *;have ho:∀ob K,bq (W++[ob]) g 0 K=K ⟨4,0,(aA n (ah:Q)).map qC⟩:=fun ob K=>aP ((fI (aU V)).trans V) K;refine Y ?_;refine aG (lR s (by simp only[M60] at S;omega)) rfl (aZ _) ?_;have I:∀x K,bq ((W++[ak (⟨6,0,[[.sl 4 g 0 0 n,.q0 0,.nil,.q0 0,.nil,.v0 ar]]⟩:bC)]).set g x) (ae W) 0 K=K ⟨6,0,[[.sl 4 g 0 0 n,.q0 0,.nil,.q0 0,.nil,.v0 ar]]⟩:=fun x K =>
    aP (by rw[aW (by omega)];exact bZ) K;refine Y2 ho I ?_;refine ⟨⟨aD,aD⟩,cE,?_⟩;have L:(List.map qC (aA n (ah:Q))).set (0+v) [.q0 (zv s),zd s,.q0 (zv 0),zd 0]=((aA n (ah:Q)).set v (wq s)).map qC:=by rw[Xb,Yp];rfl
   rw[L];refine wN g 0 (ob:=⟨4,0,((aA n (ah:Q)).set v (wq s)).map qC⟩) (bz (by rw[Xn,z2,aa2];omega)) (by rw[Zw,W6];exact fun q _=>pK q) r ?_ ?_ R.bP ?_
   .show [AV.q0 (n:Int),.seq 6 ar (cs.map fun c=>bT c.dj),.agg [fX g 0 4 (((aA n (ah:Q)).set v (wq s)).map qC) (.sl 4 g 0 0 n),_,_,_,_,_]]=_;have:fX g 0 4 (((aA n (ah:Q)).set v (wq s)).map qC) (.sl 4 g 0 0 n) = .seq 4 ar (((aA n (ah:Q)).set v (wq s)).map qC):=rn aK;rw[this];rfl
   .simp only[Yu,Zv,jt,X4];rfl
   have m:∀K,FdP 0 ar 1 (pW o) K=K (.q0 o.kind):=fun K=>rfl;by_cases f:o.kind=1
   .have y:(o.kind=1)=True:=XO f;refine Z2 m y ?_;exact aV (by rw[X.1 (w.1 f)]) rfl
   .have y:(o.kind=1)=False:=Xh f;have N:=X.2 (aaR.1 (fun b=>f (w.2 b)));refine Z3 m y e2 ?_;exact ⟨2 - (k+1),aD,k+1,aD,rfl,N.1,N.2,rfl⟩
  .have D:k=2:=aD;subst D;refine Y2 z e1 ?_;refine ⟨n - (v+1),aD,v+1,aD,rfl,fun j hj=>?_,rfl⟩;rcases Xe j v with p | p
   .exact O j p
   .rw[show j=v by omega];exact ⟨a aD,A aD⟩
 .have J:v=n:=aD;subst J;refine Y1 t ?_;exact aV (by rw[OH O]) rfl
def Pf {n:Nat} (h:gL n cs):a9 prog 43 [.q0 (n:Int),.seq 6 ar (cs.map fun c=>bT c.dj)] (.v0 (kO n cs)):=by
 refine pw func43 ?_;refine Y ?_;refine cX (Ph h) ?_;by_cases k:∃u,fB n cs u
 .rw[yE k];refine Z0 ?_;refine cY (J8 h k) ?_;exact aV (by unfold kO;rw[yE k];rfl) rfl
 .rw[B6 k];refine Z0 ?_;exact aV (by unfold kO;rw[B6 k];rfl) rfl
def kT (l:List Cd):Prop:=ae l < 1000000/\∀c,c∈l->ae c.f.c < 1000000
def MX (l:List Cd):(l.map cC).all (fun x=>x.all b8)=aq:=by rw[Zw,W6];exact fun c _=>rfl
def As.wide (b a:Nat) (x:As):As:=if x.kind=1 then ⟨x.kind,x.f.wide b a,x.low⟩ else x
def F0 (n:Nat):gY ((aA n (⟨0,⟨[],0⟩,0⟩:As)).map fun _=>[AV.q0 0,.nil,.q0 0,.q0 0]) ((aA n (⟨0,⟨[],0⟩,0⟩:As)).map mr) :=
 gY.of_map _ fun a z=>by
  have:a=⟨0,⟨[],0⟩,0⟩:=(YM.1 z).2;subst this;refine ⟨rfl,rfl,fun j x y h k=>?_⟩
  match j with
  | 0=>simp at h k;subst h k;exact bg.refl _
  | 1=>simp at h k;subst h k;exact dX 1
  | 2=>simp at h k;subst h k;exact bg.refl _
  | 3=>simp at h k;subst h k;exact bg.refl _
  | j+4=>simp at h
structure JmP where
 js:List Jp
 ps:List (Int × Int)
abbrev eu (p:Int × Int):List AV:=[.q0 p.1,.q0 p.2]
def Ps:qS k a (.c (.slice p 0 cap)) H K=c6 k a [] H K:=by simp only[qS,ik,gO,pF,c6]
def Qo {k h:Nat} {f:Bool} {xs:List (List AV)} {H:aE} {K:AV->aE->Prop}:c6 k (.seq h f xs) [] H K=K (.seq h f xs) H:=by rfl
def Qn {k x:Nat} {xs:List (List AV)} {y:List AV} {ys:List (List AV)} {H:aE} {K:AV->aE->Prop}:c6 k (.seq x aq xs) (y::ys) H K=((x=k/\ae xs+(ae ys+1)<=4294967296)/\K (.sl k (ae H) 0 0 (ae xs+(ae ys+1))) (H++[ak ⟨k,0,xs++y::ys⟩])):=by
 show bD (if x=k/\ae xs+(ae ys+1)<=4294967296 then _ else an) _=_;by_cases h:x=k/\ae xs+(ae ys+1)<=4294967296
 .rw[W0 h];exact propext ⟨fun g=>⟨h,g⟩,fun g=>g.2⟩
 .rw[WX h];exact propext ⟨fun g=>g.elim,fun g=>(h g.1).elim⟩
def QD:sY neg (.seq h f (y::ys)) K=K (.v0 neg):=(rfl)
attribute [go_sem] Ps Qo Qn QD
def KL (l:List Int) (b:Bool) (h:ae l < 1000000):∃v G,bK prog 98 [.seq 1 b (jN l)] H v G/\Acc (ae H) G 1 v (jN l)/\aT H G []:=by
 cases l with
 | nil =>
  refine ⟨.seq 1 aq [],H,bK.empty fun p cap=>?_,.sq,aT.refl _ _⟩;refine cw func98 ?_;cases p with
  | none =>
   simp only[go_sem,↓reduceIte,Option.isNone_none,Bool.xor_true,X9];exact eH (.cell (.nil 1))
  | some q =>
   simp only[go_sem,↓reduceIte,Option.isNone_some,Bool.xor_false];exact eH (Wk1.refl _)
 | cons x l =>
  refine ⟨.sl 1 (ae H) 0 0 (ae l+1),H++[ak ⟨1,0,jN (x::l)⟩],?_,Acc.mk aK (WY _),aT.app _ _ _⟩;refine cw func98 ?_;have k:x::l≠[]:=aK;simp only[go_sem,↓reduceIte,Nat.reduceLeDiff,XQ,Xb,Z9,W4];simp only[XG] at h;exact ⟨aD,eH (Wk1.refl _)⟩
abbrev eU (a b:Au) (l:List Int) (fl:Bool):List AV:=[.q0 a.bt,.seq 4 ar (a.aL.map kP),.seq 6 ar (a.aM.map fQ),.seq 3 ar (a.init.map jx),
 .q0 b.bt,.seq 4 ar (b.aL.map kP),.seq 6 ar (b.aM.map fQ),.seq 3 ar (b.init.map jx),.seq 1 fl (jN l)]
def Pj (a b:Au) (l:List Int) (fl:Bool) (f:Fm) (m:Nat) (hm:b.bt=m) (D:m < 1000000) (C:ae f.c < 1000000) :
  a9 prog 73 [.agg (eU a b l fl),.agg (fC f)] (.agg (fC (f.wide 0 m))):=by
 refine pc func73 wm ?_;refine uz ?_;refine Y ?_;obtain ⟨v,G,W,z,n⟩:=KL (H:=[ak ⟨2,0,[[AV.nil,.q0 0]]⟩]) f.c ar C;refine wM W ?_;have B:∀x,x∈aF v->1<=x:=fun x g=>(z.ge x g).1;have p:aH G 0 0=ak ⟨2,0,[[AV.nil,.q0 0]]⟩:=by rw[n.2 0 aK aK];rfl
 obtain ⟨r,k,s,j,t,X⟩:=z.Od (ys:=aA m [.q0 0]) (by have:=n.1;simpa using this) cE;have q:aH k 0 0=ak ⟨2,0,[[AV.nil,.q0 0]]⟩:=by rw[t.2 0 (aU p) (fun h=>by have:=B 0 h;omega)];exact p
 have w:∀K,bq k 0 0 K=K ⟨2,0,[[AV.nil,.q0 0]]⟩:=aP q;have A:∀i K,bq (k.set 0 (ak ⟨2,0,i⟩)) 0 0 K=K ⟨2,0,i⟩:=fun i K=>aP (bz (aU q)) K;have y:∀K,c6 1 v (List.map ec (aA m 0)) G K=K r k:=fun K=>by rw[ZS];exact s K
 have cv:=z.cell;refine Z1 hm ?_;refine ⟨⟨aD,aD⟩,?_⟩;refine Y4 y X w A ?_;have e:jN f.c++aA m [AV.q0 0]=jN (f.wide 0 m).c:=by show _=jN (aA 0 0++f.c++aA m 0);simp only[jN,Xu,ZS,Zp,XH];rfl
 rw[e] at j;exact (j.nW (b:=0) (o:=ak ⟨2,0,[[r,.q0 f.a]]⟩) aK).HC (pre:=[]) (post:=[.q0 f.a]) (Gk _) rfl rfl
def NX (a b:Au) (l:List Int) (fl:Bool) (f:Fm) (m:Nat) (hm:a.bt=m) (n:m < 1000000) (p:ae f.c < 1000000) :
  a9 prog 74 [.agg (eU a b l fl),.agg (fC f)] (.agg (fC (f.wide m 0))):=by
 refine pw func74 ?_;refine Z1 hm ?_;refine ⟨⟨aD,aD,aD⟩,?_⟩;have i:Acc 1 [ak ⟨2,0,[[AV.nil,.q0 0]]⟩,ak ⟨1,0,(aA m 0).map ec⟩] 1 (.sl 1 1 0 0 m) (jN (aA m 0)) :=
  Acc.mk (H:=[ak ⟨2,0,[[AV.nil,.q0 0]]⟩]) aK aK;have ⟨v,G,z,x,w,g⟩:=i.Od (ys:=jN f.c) aK cE;have y:aH G 0 0=ak ⟨2,0,[[AV.nil,.q0 0]]⟩:=by rw[w.2 0 aK (by simp[aF])];rfl
 have h:=aP y;have j:∀k K,bq (G.set 0 (ak ⟨2,0,k⟩)) 0 0 K=K ⟨2,0,k⟩:=fun k K=>aP (bz (aU y)) K;refine Y4 z g h j ?_;have e:jN (aA m 0)++jN f.c=jN (f.wide m 0).c:=by show _=jN (aA m 0++f.c++aA 0 0);simp only[jN,Xu,Zp,Xz]
 rw[e] at x;exact (x.nW (b:=0) (o:=ak ⟨2,0,[[v,.q0 f.a]]⟩) aK).HC (pre:=[]) (post:=[.q0 f.a]) (Gk _) rfl rfl
def Ah (a b:Au) (l:List Int) (fl:Bool) (i k:Int) (y:0<=i/\i < 1000000) (e:0<=k/\k < 1000000) (c:ae b.aL < 1000000) :
  a9 prog 53 [.agg (eU a b l fl),.q0 i,.q0 k] (.q0 (i*(ae b.aL:Int)+k)):=by refine pw func53 ?_;have z:0<=i*(ae b.aL:Int):=YB y.1 aD;have w:i*(ae b.aL:Int) < 1000000*1000000:=Int.lt_of_le_of_lt (Xj (by omega:i<=1000000) aD) aD;have h:au .i64 (i*(ae b.aL:Int))=i*(ae b.aL:Int):=wrap_i64 aD aD;have x:au .i64 (i*(ae b.aL:Int)+k)=i*(ae b.aL:Int)+k:=wrap_i64 aD aD;refine Y2 h x ?_;exact aV rfl rfl
def La:0<=cg l x↔x∈l:=by
 induction l with
 | nil=>simp[cg]
 | cons a r k =>
  simp only[cg,X3];by_cases h:x=a
  .simp[h]
  .rw[WX h,<-k.trans ((or_iff_right h).symm)];split<;>omega
def Iw (l:List Int) (x:Int) (b:Bool) (h:ae l < 1000000):a9 prog 99 [.seq 1 b (jN l),.q0 x] (.v0 (l.contains x)):=by refine pw func99 ?_;refine Y ?_;refine cX (oI (H:=[]) (.seq) h) ?_;have k:(0<=cg l x)=(l.contains x=aq):=propext (by rw[List.contains_iff_mem];exact La);refine Y1 k ?_;exact aV aK rfl
def Cg (a b:Au) (l:List Int) (fl:Bool) (x:Int) (h:ae l < 1000000) :
  a9 prog 76 [.agg (eU a b l fl),.q0 x] (.v0 (!l.contains x)):=by refine pw func76 ?_;refine Y ?_;refine cY (Iw l x fl h) ?_;exact aV rfl rfl
def DA (g:FuncId) (fs:List AV) (φ:Fm->Fm):Prop:=fs.all bP=aq/\∀f:Fm,ae f.c < 1000000->a9 prog g (fs++[.agg (fC f)]) (.agg (fC (φ f)))
def Ev (a b:Au) (l:List Int) (fl:Bool) (m:Nat) (hm:b.bt=m) (h:m < 1000000):DA 73 [.agg (eU a b l fl)] (fun f=>f.wide 0 m) :=
 ⟨rfl,fun f k=>Pj a b l fl f m hm h k⟩
def CS (a b:Au) (l:List Int) (fl:Bool) (m:Nat) (hm:a.bt=m) (h:m < 1000000):DA 74 [.agg (eU a b l fl)] (fun f=>f.wide m 0) :=
 ⟨rfl,fun f k=>NX a b l fl f m hm h k⟩
def Cd.put (φ:Fm->Fm) (c:Cd):Cd:=⟨φ c.f,c.e⟩
def JX {n0:Nat} {H:aE} {o:Nat} {v:AV} {bt:Value} {xs:List (List AV)} (z:aH H o 0=ak ⟨2,0,[[.c bt,v]]⟩) (hv:Acc n0 H 3 v xs) (D:o < n0) (J:n0<=ae H)
  {g:FuncId} {fs:List AV} {φ:Fm->Fm} (L:DA g fs φ) (l:List Cd) (f:Bool) (V:kT l) (a9:ae xs < 1000000) :
  cF prog 72 [.seq 3 f (l.map cC),.fn g fs [],.ptr o 0 0 0] H fun r p=>r = .bI []/\∃m,aH p o 0=ak ⟨2,0,[[.c bt,m]]⟩/\Acc n0 p 3 m (xs++(l.map (Cd.put φ)).map cC)/\n0<=ae p/\∀id,id < n0->id≠o->∀w,aH p id w=aH H id w:=by
 have ⟨a0,B⟩:=V;refine qw func72 ?_;refine Y ?_;refine bE (fun n e G=>∃(i:Nat) (v:AV),i<=ae l/\n=ae l - i/\aH G o 0=ak ⟨2,0,[[.c bt,v]]⟩/\Acc n0 G 3 v (xs++((l.take i).map (Cd.put φ)).map cC)/\n0<=ae G/\(∀id,id < n0->id≠o->∀w,aH G id w=aH H id w) /\
  e=[(1,.fn g fs []),(2,.ptr o 0 0 0),(7,.seq 3 f (l.map cC)),(8,.q0 (ae l:Int)),(9,.q0 (i:Int))]) ⟨0,v,aD,rfl,z,bk hv,J,fun _ _ _ _=>rfl,rfl⟩ ?_;rintro n _ G ⟨i,v,hi,J,z,k,U,I,rfl⟩;have cv:=k.cell;by_cases y:(i:Int) < (ae l:Int)
 .have S:=ws i;have hm:af l i ah∈l:=bS aD;have X:=B _ hm;have ht:l.take (i+1)=l.take i++[af l i ah]:=by rw[XW (by omega)];simp[af,show i < ae l by omega]
  generalize hx:af l i ah=x at *;have h:aH (G++[ak ⟨3,0,[cC x]⟩]) o 0=ak ⟨2,0,[[.c bt,v]]⟩:=(fI (aU z)).trans z;have C:=aP h;have t:=k.aQ (aT.app G [ak ⟨3,0,[cC x]⟩] []) aK;have ⟨m,E,M,N,s,a4,a5,O,R,a8⟩:=t.app cE cE (cC (x.put φ));have b:aH E o 0=ak ⟨2,0,[[.c bt,v]]⟩:=by rw[s.2 o (aU h) (fun W=>by have:=(k.ge o W).1;omega)];exact h
  have j:=aP b;have q:∀K,c6 3 v [[iz (φ x.f).c,.c (.int .i64 (φ x.f).a),.v0 x.e]] (G++[ak ⟨3,0,[[iz x.f.c,.q0 x.f.a,.v0 x.e]]⟩]) K=K m E:=M;refine Y3 y C hx ?_;refine ⟨by omega,?_⟩;refine aG (by rw[Xz];exact L.2 x.f X) (by rw[Xz,Ze,L.1];rfl) rfl ?_;refine Y5 q O R j S ?_;refine ⟨rfl,ae l - (i+1),by omega,i+1,m,by omega,rfl,bz (aU b),?_,by have:=s.1;simp at this ⊢;omega,fun id T F w=>by rw[aW (Xg F),s.2 id (by simp;omega) (fun W=>by have:=(k.ge id W).1;omega),fI (by omega)];exact I id T F w,rfl⟩;rw[ht,Xu,Xu,<-XC];exact N.nW D
 .have A:i=ae l:=aD;subst A;refine Y1 y ?_;rw[XP] at k;exact ⟨v,z,k,U,I⟩
def dO (m k:Nat) (x y:List Cd):Pl:=⟨(m:Int)+k,x.map (Cd.put fun f=>f.wide 0 k)++y.map (Cd.put fun f=>f.wide m 0)⟩
def mV (a b:Au) (l:List Int) (fl:Bool) (m k:Nat) (hm:a.bt=m) (n:b.bt=k) (c:m < 1000000) (w:k < 1000000) (x y:List Cd) (i j:Bool) (p:kT x) (D:kT y) :
  a9 prog 50 [.agg (eU a b l fl),.seq 3 i (x.map cC),.seq 3 j (y.map cC)] (.agg (Bg (dO m k x y))):=by
 refine pw func50 ?_;have A:au .i64 (a.bt+b.bt)=(m:Int)+k:=by rw[hm,n];exact wrap_i64 aD aD
 refine Y1 A ?_;refine dZ (JX (H:=[ak ⟨2,0,[[.q0 0,.nil]]⟩,ak ⟨2,0,[[.q0 ((m:Int)+k),.nil]]⟩]) (o:=1) (n0:=2) (xs:=[]) rfl .nil aS aK (Ev a b l fl k n w) x i p aS) ?_;rintro _ G ⟨rfl,v,E,s,W,t⟩;refine Y ?_;refine dZ (JX (n0:=2) E s aS W (CS a b l fl m hm c) y j D (by simpa using p.1)) ?_;rintro _ h ⟨rfl,r,F,z,I,X⟩;have g:∀K,bq h 1 0 K=K ⟨2,0,[[.q0 ((m:Int)+k),r]]⟩:=aP F;have q:aH h 0 0=ak ⟨2,0,[[.q0 0,.nil]]⟩:=by rw[X 0 aS aS,t 0 aS aS];rfl
 have e:∀K,bq h 0 0 K=K ⟨2,0,[[.q0 0,.nil]]⟩:=aP q;have C:∀xs K,bq (h.set 0 (ak ⟨2,0,xs⟩)) 0 0 K=K ⟨2,0,xs⟩:=fun xs K=>aP (bz (aU q)) K;have cv:=z.cell;refine Y4 g e C cv ?_;have B:[]++(x.map (Cd.put fun f=>f.wide 0 k)).map cC++(y.map (Cd.put fun f=>f.wide m 0)).map cC=(dO m k x y).l.map cC:=by simp[dO]
 rw[B] at z;exact (z.nW (b:=0) (o:=ak ⟨2,0,[[.q0 ((m:Int)+k),r]]⟩) aS).HC (pre:=[.q0 ((m:Int)+k)]) (post:=[]) (MX _) rfl rfl
def p9 (φ:Fm->Fm) (x:As):List AV:=if x.kind=1 then mr ⟨x.kind,φ x.f,x.low⟩ else [.c (.int .i64 x.kind),.nil,.c (.int .i64 0),.c (.int .i64 x.low)]
def As.put (φ:Fm->Fm) (x:As):As:=if x.kind=1 then ⟨x.kind,φ x.f,x.low⟩ else ⟨x.kind,⟨[],0⟩,x.low⟩
def Ge (φ:Fm->Fm) (l:List As):(l.map (p9 φ)).all (fun x=>x.all b8)=aq:=by rw[Zw,W6];intro x _;show (p9 φ x).all b8=aq;unfold p9;split<;>rfl
def Ck (φ:Fm->Fm) (l:List As):gY (l.map (p9 φ)) (l.map fun x=>mr (x.put φ)) :=
 gY.of_map _ fun a _=>by
  unfold p9 As.put;by_cases h:a.kind=1
  .rw[W0 h,W0 h];refine ⟨rfl,rfl,fun j x y k z=>?_⟩;rw[k] at z;cases z;exact bg.refl _
  .rw[WX h,WX h];refine ⟨rfl,rfl,fun j x y k z=>?_⟩
   match j with
   | 0=>simp at k z;subst k z;exact bg.refl _
   | 1=>simp at k z;subst k z;exact dX 1
   | 2=>simp at k z;subst k z;exact bg.refl _
   | 3=>simp at k z;subst k z;exact bg.refl _
   | j+4=>simp at k
def GO {n0:Nat} {H:aE} {o:Nat} {v:AV} {xs:List (List AV)} (p:aH H o 0=ak ⟨1,0,[[v]]⟩) (hv:Acc n0 H 4 v xs) (E:o < n0) (S:n0<=ae H)
  {g:FuncId} {fs:List AV} {φ:Fm->Fm} (T:DA g fs φ) (l:List As) (f:Bool) (a0:ae l < 1000000) (D:∀x,x∈l->ae x.f.c < 1000000) (a9:ae xs < 1000000) :
  cF prog 100 [.seq 4 f (l.map mr),.fn g fs [],.ptr o 0 0 0] H fun r H'=>r = .bI []/\∃h,aH H' o 0=ak ⟨1,0,[[h]]⟩/\Acc n0 H' 4 h (xs++l.map (p9 φ))/\n0<=ae H':=by
 refine qw func100 ?_;refine Y ?_;refine bE (fun n e G=>∃(i:Nat) (v:AV),i<=ae l/\n=ae l - i/\aH G o 0=ak ⟨1,0,[[v]]⟩/\Acc n0 G 4 v (xs++(l.take i).map (p9 φ))/\n0<=ae G /\
  e=[(1,.fn g fs []),(2,.ptr o 0 0 0),(7,.seq 4 f (l.map mr)),(8,.q0 (ae l:Int)),(9,.q0 (i:Int))]) ⟨0,v,aD,rfl,p,bk hv,S,rfl⟩ ?_;rintro n _ G ⟨i,v,hi,S,p,m,hG,rfl⟩;have cv:=m.cell;by_cases b:(i:Int) < (ae l:Int)
 .have O:=ws i;have hm:af l i ah∈l:=bS aD;have B:=D _ hm;have ht:l.take (i+1)=l.take i++[af l i ah]:=by rw[XW (by omega)];simp[af,show i < ae l by omega]
  generalize U:af l i ah=x at *;have R:∀(s:bC),∃h k,(∀K,c6 4 v [p9 φ x] (G++[ak s]) K=K h k)/\(bh h=aq/\h.cells=[h]/\eC h=aq)/\(∀K,bq (G++[ak s]) o 0 K=K ⟨1,0,[[v]]⟩)/\(∀K,bq k o 0 K=K ⟨1,0,[[v]]⟩) /\
    aH (k.set o (ak ⟨1,0,[[h]]⟩)) o 0=ak ⟨1,0,[[h]]⟩/\Acc n0 (k.set o (ak ⟨1,0,[[h]]⟩)) 4 h (xs++(l.take (i+1)).map (p9 φ))/\n0<=ae (k.set o (ak ⟨1,0,[[h]]⟩)):=fun s=>by
   have j:aH (G++[ak s]) o 0=ak ⟨1,0,[[v]]⟩:=(fI (aU p)).trans p;have W:=m.aQ (aT.app G [ak s] []) aK;have ⟨h,k,y,V,N,a4,a5,a6,a7,a8⟩:=W.app cE cE (p9 φ x);have q:aH k o 0=ak ⟨1,0,[[v]]⟩:=by rw[N.2 o (aU j) (fun hh=>by have:=(m.ge o hh).1;omega)];exact j
   refine ⟨h,k,y,⟨a6,a7,a8⟩,aP j,aP q,bz (aU q),?_,by have:=N.1;simp at this ⊢;omega⟩;rw[ht,Xu,<-XC];exact V.nW E
  by_cases t:x.kind=1
  .have w:(x.kind=1)=True:=XO t;have A:p9 φ x=mr ⟨x.kind,φ x.f,x.low⟩:=W0 t;have ⟨h,k,y,z,F,I,J,L,M⟩:=R ⟨4,0,[[.q0 x.kind,iz (φ x.f).c,.c (.int .i64 (φ x.f).a),.q0 x.low]]⟩;rw[A] at y;have X:=y;simp only[go_sem,↓reduceIte,Nat.reduceLeDiff,WY,b,U,w,Zr];refine ⟨aD,aG (by rw[Xz];exact T.2 x.f B) (by rw[Xz,Ze,T.1];rfl) rfl ?_⟩;refine Y5 X z F I O ?_;exact ⟨rfl,ae l - (i+1),aD,i+1,h,aD,rfl,J,L,bk M,rfl⟩
  .have w:(x.kind=1)=False:=Xh t;have A:p9 φ x=[.q0 x.kind,.nil,.q0 0,.q0 x.low]:=WX t;have ⟨h,k,y,z,F,I,J,L,M⟩:=R ⟨4,0,[[.q0 x.kind,.nil,.q0 0,.q0 x.low]]⟩;rw[A] at y;refine Z8 b U w y z F I O ?_;exact ⟨aD,rfl,ae l - (i+1),aD,i+1,h,aD,rfl,J,L,bk M,rfl⟩
 .have C:i=ae l:=aD;subst C;refine Y1 b ?_;rw[XP] at m;exact ⟨v,p,m,hG⟩
def pf (a b:Au) (m k:Nat) (i j:Int):List As :=
 (if 0<=i then (af a.aM (az i) ah).de else aA m ⟨0,⟨[],0⟩,0⟩).map (As.put fun f=>f.wide 0 k) ++
 (if 0<=j then (af b.aM (az j) ah).de else aA k ⟨0,⟨[],0⟩,0⟩).map (As.put fun f=>f.wide m 0)
def BH (l:List Jp):Prop:=ae l < 1000000/\∀x,x∈l->ae x.de < 100000/\(∀y,y∈x.de->ae y.f.c < 1000000)/\kT x.guard.l
def KB (h:x∈aA m (⟨0,⟨[],0⟩,0⟩:As)):ae x.f.c < 1000000:=by rw[(YM.1 h).2];decide
def qB (a b:Au) (l:List Int) (fl:Bool) (m k:Nat) (hm:a.bt=m) (p:b.bt=k) (r:m < 100000) (q:k < 100000) (X Y:List As) (z:ae X < 1000000/\∀x,x∈X->ae x.f.c < 1000000) (g:ae Y < 1000000/\∀x,x∈Y->ae x.f.c < 1000000) :
  WP prog 49 kF (pQ [.t 6] 0 (.seq 4 ar ((X.map (As.put fun f=>f.wide 0 k)++Y.map (As.put fun f=>f.wide m 0)).map mr)) [])
   [(3,.fp (eU a b l fl) 0),(7,.ptr 0 0 0 0),(8,.fn 100 [] [.ptr 0 0 0 0]),(9,.seq 4 ar (X.map mr)),(10,.seq 4 ar (Y.map mr))] [ak ⟨1,0,[[AV.nil]]⟩,an,an]:=by refine uz ?_;simp only[go_sem,↓reduceIte,WY];refine dZ (GO (H:=[ak ⟨1,0,[[.nil]]⟩,an,an]) (o:=0) (n0:=1) (xs:=[]) rfl .nil aS aK (Ev a b l fl k p aD) X ar z.1 z.2 aS) ?_;rintro _ G ⟨rfl,v,W,i,n⟩;simp only[go_sem,↓reduceIte,WY];refine dZ (GO (n0:=1) W i aS n (CS a b l fl m hm aD) Y ar g.1 g.2 (by simpa using z.1)) ?_;rintro _ j ⟨rfl,B,A,h,C⟩;have w:∀K,bq j 0 0 K=K ⟨1,0,[[B]]⟩:=aP A;have cv:=h.cell;simp only[go_sem,↓reduceIte,w];have e:([]:List (List AV))++X.map (p9 fun f=>f.wide 0 k)++Y.map (p9 fun f=>f.wide m 0)=X.map (p9 fun f=>f.wide 0 k)++Y.map (p9 fun f=>f.wide m 0):=aK;rw[e] at h;refine (h.fin (by rw[Ze,Ge,Ge];rfl)).trans (sC (xY ?_ (fun y s=>by obtain ⟨x,_,rfl⟩:=Xf.1 s;rfl)));rw[Xu,aaJ,aaJ];exact (Ck _ X).append (Ck _ Y)
def NW (a b:Au) (l:List Int) (fl:Bool) (m k:Nat) (hm:a.bt=m) (g:b.bt=k) (z:m < 100000) (h:k < 100000) (X:BH a.aM) (W:BH b.aM) (i j:Int)
  (r:-1<=i/\i < ae a.aM) (s:-1<=j/\j < ae b.aM) :
  a9 prog 77 [.agg (eU a b l fl),.q0 i,.q0 j] (.seq 4 ar ((pf a b m k i j).map mr)):=by
 refine pc func77 s7 ?_;refine uz ?_;simp only[go_sem,↓reduceIte,hm,g,Xd];have p:∀(n q:Nat),(((aA n [AV.q0 0,.nil,.q0 0,.q0 0]).all fun x=>x.all (ck q))&&aq)=aq:=fun n q=>by rw[X4,W6];intro x o;rw[(YM.1 o).2];rfl
 have K:∀n:Nat,(aA n [AV.q0 0,.nil,.q0 0,.q0 0]).all (fun x=>x.all b8)=aq:=fun n=>by rw[W6];intro x o;rw[(YM.1 o).2];rfl
 have A:∀n:Nat,bg (.seq 4 ar (aA n [AV.q0 0,.nil,.q0 0,.q0 0])) (.seq 4 ar ((aA n (⟨0,⟨[],0⟩,0⟩:As)).map mr)):=fun n=>by have:=F0 n;rw[ZS] at this;exact xY this (fun y D=>by obtain ⟨x,_,rfl⟩:=Xf.1 D;rfl)
 refine ⟨⟨aD,aD,aD⟩,p m 1,⟨aD,aD,aD⟩,p k 2,?_⟩;have C:=L7 (n:=3) (H:=[ak ⟨1,0,[[AV.nil]]⟩,ak ⟨4,0,aA m [AV.q0 0,.nil,.q0 0,.q0 0]⟩,ak ⟨4,0,aA k [AV.q0 0,.nil,.q0 0,.q0 0]⟩]) (i:=1) (j:=2)
  (oi:=⟨4,0,aA m [AV.q0 0,.nil,.q0 0,.q0 0]⟩) (oj:=⟨4,0,aA k [AV.q0 0,.nil,.q0 0,.q0 0]⟩) rfl rfl aS (K m) (K k);refine ⟨[(1,.q0 i),(2,.q0 j),(3,.fp (eU a b l fl) 0),(7,.ptr 0 0 0 0),(8,.fn 100 [] [.ptr 0 0 0 0]),(9,.seq 4 ar ((aA m (⟨0,⟨[],0⟩,0⟩:As)).map mr)),(10,.seq 4 ar ((aA k (⟨0,⟨[],0⟩,0⟩:As)).map mr))],[ak ⟨1,0,[[AV.nil]]⟩,an,an],?_,?_⟩
 .refine qV.FB (R:=fun x y=>bg (dT 2 0 4 (aA k [AV.q0 0,.nil,.q0 0,.q0 0]) (dT 1 0 4 (aA m [AV.q0 0,.nil,.q0 0,.q0 0]) x)) y) ?_ (bg.refl _) C;refine .cons (bg.refl _) (.cons (bg.refl _) (.cons (bg.refl _) (.cons (bg.refl _) (.cons (bg.refl _) (.cons ?_ (.cons ?_ .nil))))))
  .rw[rn aK];exact A m
  .have:dT 1 0 4 (aA m [AV.q0 0,.nil,.q0 0,.q0 0]) (.sl 4 2 0 0 k) = .sl 4 2 0 0 k:=rfl;rw[this,rn aK];exact A k
 have v:∀n:Nat,n < 100000->ae (aA n (⟨0,⟨[],0⟩,0⟩:As)) < 1000000/\∀x,x∈aA n (⟨0,⟨[],0⟩,0⟩:As)->ae x.f.c < 1000000:=fun n F=>⟨cE,fun x o=>KB o⟩;have t:∀{L:List Jp},BH L->∀q:Int,0<=q->q < ae L->(af L (az q) ah).de.length < 1000000/\∀x,x∈(af L (az q) ah).de->ae x.f.c < 1000000:=fun {L} B q E w=>by have:=B.2 (af L (az q) ah) (bS aD);exact ⟨aD,this.2.1⟩
 by_cases w:0<=i
 .by_cases e:0<=j
  .unfold pf;rw[W0 w,W0 e];have:=qB a b l fl m k hm g z h _ _ (t X i w r.2) (t W j e s.2);simp only[go_sem,↓reduceIte,WY,w,e] at this ⊢;exact ⟨r.2,s.2,this⟩
  .unfold pf;rw[W0 w,WX e];have:=qB a b l fl m k hm g z h _ _ (t X i w r.2) (v k h);simp only[go_sem,↓reduceIte,WY,w,e] at this ⊢;exact ⟨r.2,this⟩
 .by_cases e:0<=j
  .unfold pf;rw[WX w,W0 e];have:=qB a b l fl m k hm g z h _ _ (v m z) (t W j e s.2);simp only[go_sem,↓reduceIte,WY,w,e] at this ⊢;exact ⟨s.2,this⟩
  .unfold pf;rw[WX w,WX e];have:=qB a b l fl m k hm g z h _ _ (v m z) (v k h);simp only[go_sem,↓reduceIte,WY,w,e] at this ⊢;exact this
inductive iU:List AV->List AV->Prop
 | nil:iU [] []
 | cons {a b:AV} {l m:List AV}:bg a b->iU l m->iU (a::l) (b::m)
def iU.Lz (h:iU l m) (k:bJ I β l vs):bJ I β m vs:=by
 induction h generalizing vs with
 | nil=>exact k
 | cons x z y =>
  cases vs with
  | nil=>have:=k.1;simp at this
  | cons v vs=>exact .cons (x _ _ _ k.head) (y k.tail)
def bK.Bz (h:bK P f k H r H') (y:iU args k):bK P f args H r H' :=
 ⟨h.1,fun I β w z s x=>h.2 I β w z s (y.Lz x)⟩
structure Lp where
 i:Int
 k:Int
 cQ:Int
 to:Int
instance:Inhabited Lp:=⟨⟨0,0,0,0⟩⟩
abbrev tO (x:Lp):List AV:=[.q0 x.i,.q0 x.k,.q0 x.cQ,.q0 x.to]
def oa (a:Au) (i:Int):Jp:=af a.aM (az i) ah
def dW (a b:Au) (m k:Nat) (x:Lp):Jp :=
 ⟨x.cQ,x.to,if 0<=x.k then (oa b x.k).label else if 0<=x.i then (oa a x.i).label else 0,
  dO m k (if 0<=x.i then (oa a x.i).guard.l else []) (if 0<=x.k then (oa b x.k).guard.l else []),pf a b m k x.i x.k⟩
def L4 (a b:Au) (l:List Int) (fl:Bool) (m k:Nat) (hm:a.bt=m) (g:b.bt=k) (p:m < 100000) (o:k < 100000) (s:BH a.aM) (t:BH b.aM) (x:Lp)
  (w:-1<=x.i/\x.i < ae a.aM) (f:-1<=x.k/\x.k < ae b.aM) :
  a9 prog 52 [.agg (eU a b l fl),.agg (tO x)] (.agg (fQ (dW a b m k x))):=by
 refine pw func52 ?_;refine Y ?_;refine cX (NW a b l fl m k hm g p o s t x.i x.k w f) ?_;generalize n:pf a b m k x.i x.k=A;have q:0<=x.i->kT (oa a x.i).guard.l:=fun h=>(s.2 _ (bS aD)).2.2;have r:0<=x.k->kT (oa b x.k).guard.l:=fun h=>(t.2 _ (bS aD)).2.2;have j:kT []:=⟨aS,fun c h=>by simp at h⟩;have v:af a.aM (az x.i) ah=oa a x.i:=rfl;have H:af b.aM (az x.k) ah=oa b x.k:=rfl;by_cases z:0<=x.i
 .by_cases y:0<=x.k
  .have e:dW a b m k x=⟨x.cQ,x.to,(oa b x.k).label,dO m k (oa a x.i).guard.l (oa b x.k).guard.l,A⟩:=by unfold dW;simp only[z,y,Yj,n]
   rw[e];refine Y4 z y v H ?_;refine ⟨w.2,w.2,f.2,f.2,?_⟩;refine cY (bK.Bz (mV a b l fl m k hm g aD aD _ _ ar ar (q z) (r y)) (.cons (bg.refl _) (.cons (bg.refl _) (.cons (bg.refl _) .nil)))) ?_;exact aV rfl rfl
  .have e:dW a b m k x=⟨x.cQ,x.to,(oa a x.i).label,dO m k (oa a x.i).guard.l [],A⟩:=by unfold dW;simp only[z,y,Yj,YC,n]
   rw[e];refine Y3 z y v ?_;refine ⟨w.2,w.2,?_⟩;refine cY (bK.Bz (mV a b l fl m k hm g aD aD _ _ ar ar (q z) j) (.cons (bg.refl _) (.cons (bg.refl _) (.cons (dX 3) .nil)))) ?_;exact aV rfl rfl
 .by_cases y:0<=x.k
  .have e:dW a b m k x=⟨x.cQ,x.to,(oa b x.k).label,dO m k [] (oa b x.k).guard.l,A⟩:=by unfold dW;simp only[z,y,Yj,YC,n]
   rw[e];refine Y3 z y H ?_;refine ⟨f.2,f.2,?_⟩;refine cY (bK.Bz (mV a b l fl m k hm g aD aD _ _ ar ar j (r y)) (.cons (bg.refl _) (.cons (dX 3) (.cons (bg.refl _) .nil)))) ?_;exact aV rfl rfl
  .have e:dW a b m k x=⟨x.cQ,x.to,0,dO m k [] [],A⟩:=by unfold dW;simp only[z,y,YC,n]
   rw[e];refine Y2 z y ?_;refine cY (bK.Bz (mV a b l fl m k hm g aD aD _ _ ar ar j j) (.cons (bg.refl _) (.cons (dX 3) (.cons (dX 3) .nil)))) ?_;exact aV rfl rfl
end
section
variable {P:Program} {dl:List Deferred} {fo:Option Nat} {N:Nat} {I:Imm} {β:Bet} {e:Env} {H H':aE} {a:Act} {w:World} {o:Oper} {v:AV}
def Ac:∀n,k < n->p k=aq->(∀j,j < n->p j=aq->j=k)->(aC n).filter p=[k]:=by
 intro n
 induction n with
 | zero=>intro h;omega
 | succ n f =>
  intro c z b;rw[Yr,aaO];by_cases h:k=n
  .subst h;have:(aC k).filter p=[]:=by rw[aam];intro j y x;have:=b j (dp (X5.1 y)) x;have:=X5.1 y;omega
   rw[this];simp[z]
  .grind
def Cq {ops:Array Oper} (y:dy 0 (ops.toList.map bn)=aq) {i:Nat} {x:Oper} (c:ops[i]?=ak x):∀j,j∈bn x->j < i:=by
 have gen:∀(l:List (List Nat)) (k:Nat),dy k l=aq->∀(m:Nat) z,l[m]?=ak z->∀j,j∈z->j < k+m:=by
  intro l
  induction l with
  | nil=>intro k _ m z h;simp at h
  | cons x r g =>
   intro k f m z h j b;simp only[dy,WZ] at f;cases m with
   | zero=>simp at h;subst h;have:=W6.1 f.1 j b;simpa using this
   | succ m=>have:=g (k+1) f.2 m z (bk h) j b;omega
 intro j b;have:=gen _ 0 y i (bn x) (by simp[c]) j b;omega
def HJ (c:dy 0 (ops.toList.map bn)=aq) (p:∀j,q<=j->j < ops.size->∀i,i < j->ie (gQ (ops.toList.map bn) []) i j=aq) :
  ∀(m fuel t:Nat) (y:Array Bool) (k:Nat),q<=k->k+m=ops.size->y.size=ops.size->(∀j,j < k->y.getD j ar=aq)->(∀j,k<=j->y.getD j ar=ar)->m<=fuel ->
   Region.linearise.go .any ops fuel t y []=List.range' k m:=by
 intro m
 induction m with
 | zero =>
  intro fuel t y k hq U C s E _;cases fuel with
  | zero=>simp[Region.linearise.go]
  | succ fuel =>
   simp only[Region.linearise.go];have K:((aC ops.size).filter fun i => !y.getD i aq&&((ops[i]?).map (·.after.all fun e => !Region.binds .any e || y.getD e.on ar)).getD ar)=[]:=by rw[aam];intro j n;have T:j < ops.size:=bk n;have:=s j aD;simp only[W8,show j < y.size by omega,Xp,XT] at this ⊢;simp[this]
   rw[K];simp
 | succ m ih =>
  intro fuel t y k hq U C s E hf;obtain ⟨fuel,rfl⟩:∃f,fuel=f+1:=⟨fuel - 1,aD⟩;simp only[Region.linearise.go];have X:∀i,i < ops.size->y.getD i aq=y.getD i ar:=by grind
  have b:∀i (h:i < ops.size),ops[i]?=ak ops[i]:=fun i h=>Xp h;have B:((aC ops.size).filter fun i => !y.getD i aq&&((ops[i]?).map (·.after.all fun e => !Region.binds .any e || y.getD e.on ar)).getD ar)=[k]:=by
   refine Ac _ aD ?_ ?_
   .rw[X k (by omega),E k (WY _),b k (by omega)];simp only[X9,Yh,XL,XT];refine YA.2 fun r F=>?_;cases R:Region.binds .any r with
    | false=>rfl
    | true =>
     have V:r.on∈bn ops[k]:=by simp only[bn,Xf,XR];exact ⟨r,⟨bk F,R⟩,rfl⟩
     rw[s _ (Cq c (b k (by omega)) _ V)];rfl
   .intro j n J;simp only[WZ,Yd] at J;have ⟨g,z⟩:=J;rw[X j n] at g;rw[b j n] at z;simp only[XL,XT] at z;rcases Yt j k with h | h | h
    .rw[s j h] at g;simp at g
    .exact h
    .exfalso;have G:∀i,i∈bn ops[j]->y.getD i ar=aq:=by intro i W;simp only[bn,Xf,XR] at W;obtain ⟨r,⟨M,O⟩,rfl⟩:=W;have:=YA.1 z r (bk M);simpa[O] using this
     have l:Down (ops.toList.map bn) (fun i=>decide (i < k) || i==j):=by
      intro i L W D x hx;have A:i < ops.size:=by grind
      have S:L=bn ops[i]:=by simp[b i A] at W;exact W.symm
      subst S;simp only[YJ,Xm,X2] at D ⊢;rcases D with D | D
      .exact .inl (dp (Cq c (b i A) x hx))
      .grind
     have:=ff (fun i=>decide (i < k) || i==j) l h (p j aD n k h) aK;simp at this;omega
  rw[B];have:∀x:Nat,([k]:List Nat)[x % ae [k]]?=ak k:=fun x=>by simp[Nat.mod_one]
  rw[this];simp only;rw[iI];rw[ih fuel _ (y.setIfInBounds k aq) (k+1) (by omega) (by omega) (by simpa using C) ?_ ?_ (by omega)]
  .simp[aay]
  .intro j n;simp only[W8,Xl];by_cases h:k=j
   .subst h;simp[show k < y.size by omega]
   .rw[WX h];have:=s j aD;simpa[W8] using this
  .intro j n;simp only[W8,Xl];rw[WX (by omega)];have:=E j aD;simpa[W8] using this
def Li {ops:Array Oper} {z b:List bA} {md:List Nat} (a4:b≠[]) (hc:ea P N ops ops.toList (z++b)=aq) (a2:dy 0 (ops.toList.map bn)=aq) (J:gz ((ops.toList.map bn).take (ae z)) md z=aq) (M:∀j,ae z<=j->j < ops.size->∀i,i < j->ie (gQ (ops.toList.map bn) []) i j=aq) {E:Nat->Env} {G:Nat->aE} {V:Nat->AV} (ht:mq P md z E G V) {Q:Exit->Act->World->Prop} :
  ∀(fuel t:Nat) (y:Array Bool) (e:Env) (H:aE) (I:Imm) (β:Bet) (a:Act) (w:World),y.size=ops.size->(∀j,ae z<=j->y.getD j ar=ar)->ae ((aC ops.size).filter fun i => !y.getD i aq)<=fuel->Down (ops.toList.map bn) (fun i=>y.getD i ar) ->
   (∀s,lk s e=e8 z V (E 0) (fun i=>y.getD i ar) (ae z) s)->H=fY md G (fun i=>y.getD i ar) (ae z)->bH dl N I β e H a w ->
   (∀a' w',Out dl N I β H w (E (ae z)) (G (ae z)) a' w'->wpOpsIn (FR fo) 0 P ops Q (List.range' (ae z) (ae b)) a' w')->wpOpsIn (FR fo) 0 P ops Q (Region.linearise.go .any ops fuel t y []) a w:=by
 have ⟨b7,b5⟩:=eh hc;have a9:ops.size=ae z+ae b:=bk b7;have d5:=Zc.2 a4;have c:∀S:Nat->Bool,Down (ops.toList.map bn) S->Down ((ops.toList.map bn).take (ae z)) S:=by
  intro S hS i es hi;rw[Zi] at hi;split at hi
  .exact hS i es hi
  .simp at hi
 intro fuel
 induction fuel with
 | zero =>
  intro t y e H I β a w b2 O b3 f he hH s hq;exfalso;have:ae z∈(aC ops.size).filter fun i => !y.getD i aq:=by
   simp only[XR,X5];refine ⟨aD,?_⟩;have:y.getD (ae z) aq=y.getD (ae z) ar:=by simp[W8,show ae z < y.size by omega]
   rw[this,O _ (WY _)];rfl
  have:=aal this;omega
 | succ fuel ih =>
  intro t y e H I β a w b2 O b3 f he hH s hq;have a1:∀i,i < ops.size->y.getD i aq=y.getD i ar:=by intro i hi;simp[W8,show i < y.size by omega]
  simp only[Region.linearise.go];split
  .rename_i i b0;rw[iI];have a5:=XJ b0;simp only[XR,X5,WZ,Yd] at a5;have ⟨K,A,C⟩:=a5;have L:=Xp K;rw[a1 i K] at A;rw[L] at C;simp only[XL,XT] at C;have a7:∀j,j∈bn ops[i]->y.getD j ar=aq:=by intro j X;simp only[bn,Xf,XR] at X;obtain ⟨ed,⟨h1,h2⟩,rfl⟩:=X;have:=YA.1 C ed (bk h1);simpa[h2] using this
   have c1:(ops.toList.map bn)[i]?=ak (bn ops[i]):=by simp[L]
   have U:∀j,(y.setIfInBounds i aq).getD j ar=(y.getD j ar || j==i):=by
    intro j;simp only[W8,Xl];by_cases h:i=j
    .subst h;simp[show i < y.size by omega]
    .rw[WX h];simp[show ¬j=i from fun h'=>h h'.symm]
   have a0:=funext U;have n:Down (ops.toList.map bn) (fun j=>y.getD j ar || j==i):=by
    intro j es X c0 k hk;simp only[YJ,X2] at c0 ⊢;rcases c0 with h | h
    .exact .inl (f j es X h k hk)
    .subst h;rw[c1] at X;cases X;exact .inl (a7 k hk)
   rcases Xe i (ae z) with F | F
   case inr =>
    have c5:i=ae z:=by
     rcases Xe (ae z) i with h | h
     .exfalso;have:=ff (fun j=>y.getD j ar || j==i) n h (M i F K (ae z) h) aK;simp only[O _ (WY _),Bool.false_or,X2] at this;omega
     .omega
    subst c5;have W:∀j,j < ae z->y.getD j ar=aq:=by intro j X;have:=ff (fun j=>y.getD j ar || j==ae z) n X (M (ae z) (WY _) K j X) aK;simpa[show ¬j=ae z by omega] using this
    have a6:ae b - 1<=fuel:=by
     have h3:ae ((aC ops.size).filter fun i => !y.getD i aq)=ae b:=by
      have h4:((aC ops.size).filter fun i => !y.getD i aq)=List.range' (ae z) (ae b):=by
       have h5:aC ops.size=aC (ae z)++List.range' (ae z) (ae b):=by rw[aa4,aa4,a9,<-List.range'_append_1];simp
       rw[h5,aaO];have h6:(aC (ae z)).filter (fun i => !y.getD i aq)=[]:=by rw[aam];intro j X;have a8:=X5.1 X;rw[a1 j (by omega),W j a8];simp
       have h7:(List.range' (ae z) (ae b)).filter (fun i => !y.getD i aq)=List.range' (ae z) (ae b):=by rw[List.filter_eq_self];intro j X;have a8:=List.mem_range'_1.1 X;rw[a1 j (by omega),O j a8.1];rfl
       rw[h6,h7];rfl
      rw[h4];simp
     omega
    have b9:Region.linearise.go .any ops fuel (t / ae ((aC ops.size).filter fun i => !y.getD i aq&&((ops[i]?).map (·.after.all fun e => !Region.binds .any e || y.getD e.on ar)).getD ar)) (y.setIfInBounds (ae z) aq) []=List.range' (ae z+1) (ae b - 1) :=
     HJ (q:=ae z) a2 M _ _ _ _ _ aD aD (bk b2) (fun j X=>by
      rw[U];by_cases h:j=ae z
      .simp[h]
      .rw[W j (by omega)];rfl) (fun j X=>by rw[U,O j (by omega)];simp;omega) a6;rw[b9];rw[show ([ae z].reverse++List.range' (ae z+1) (ae b - 1))=List.range' (ae z) (ae b) by obtain ⟨m,hm⟩:∃m,ae b=m+1:=⟨ae b - 1,aD⟩;rw[hm,aay];simp];refine hq a w ⟨I,β,?_,?_⟩
    .rw[hH,k8 ht W _ (WY _)];exact .refl _ _ _ _
    .refine ⟨?_,s.size,fun t=>?_,s.mu⟩
     .have:=s.bm;rw[hH,k8 ht W _ (WY _)] at this;exact this
     .have:=s.env t;rw[he,yP ht W t _ (WY _)] at this;exact this
   have B:=W7 F;have b6:(z++b)[i]?=ak z[i]:=by rw[Xc F];exact B
   have a3:=ht.step i _ B;have T:∀l:List Nat,(∀s,s∈l->∀(j:Nat) x,z[j]?=ak x->j≠i->x.dst=ak s->gK x z[i]=aq)->cW l (E i) e:=by intro l hl s hs;have:=Fq J ht (c _ f) B A (c _ n) (t:=s) (fun j x X a4 D=>by have:=(jq J X B a4).1 (hl s hs j x X a4 D);rw[jO] at this;exact this) (ae z) (WY _);rw[he,this,ZA (by omega)]
   have h1:cW z[i].op.cK (E i) e:=T _ fun s hs j x _ _ D=>by simp[gK,D,hs]
   have h2:cW (nJ z[i].g) (E i) e:=T _ fun s hs j x _ _ D=>by simp[gK,D,hs]
   have c3:gj P N ops ops[i] z[i]=aq:=b5 i _ _ (by simp[L]) b6;have c9:(z[i].op.cP=aq->fv md i=aq):=by intro hw;simp only[gz,WZ] at J;have h1:=W6.1 J.2 i (bk F);rw[WZ,B] at h1;have:=h1.1;simpa[hw] using this
   obtain ⟨H1,c8,c2⟩:∃H1,gM P z[i] e H (V i) H1/\H1=fY md G (fun j=>y.getD j ar || j==i) (ae z):=by
    by_cases b1:fv md i=aq\/z[i].op.reads=aq
    .have hh:=BT J ht (c _ f) B A (c _ n) b1 (ae z) (WY _);rw[ZA (by omega)] at hh;refine ⟨G (i+1),?_,?_⟩
     .have:=a3.yl h1 h2;rw[hH,hh];exact this
     .rw[oG J (c _ f) B A (ae z) (WY _)];by_cases hm:fv md i=aq
      .rw[W0 ⟨F,hm⟩]
      .rw[WX (fun h=>hm h.2),hh,ht.heap i F (by simpa using hm)]
    .have hm:=fun h=>b1 (.inl h);have hr:z[i].op.reads=ar:=bk (fun h=>b1 (.inr h));have d0:z[i].op.cP=ar:=by
      cases d1:z[i].op.cP with
      | false=>rfl
      | true=>exact absurd (c9 d1) hm
     refine ⟨H,(a3.yl h1 h2).BI hr d0 H,?_⟩;rw[oG J (c _ f) B A (ae z) (WY _),WX (fun h=>hm h.2),hH]
   refine vL L c3 s c8 fun a' I' d7 w' x' s'=>?_;refine ih (t / _) (y.setIfInBounds i aq) (dF z[i].dst (V i) e) H1 I' d7 a' w' (bk b2) (fun j X=>by rw[U,O j X];simp;omega) ?_ (by rw[a0];exact n) ?_ (by rw[a0];exact c2) s' (fun d4 d6 ho=>hq _ _ (ho.step x'))
   .have:=filter_lt (p:=fun j => !y.getD j aq) (q:=fun j => !(y.setIfInBounds i aq).getD j aq) (i:=i) (l:=aC ops.size) (fun x hx=>by
     simp only[W8,Xl] at hx ⊢;by_cases h:i=x
     .subst h;simp[show i < y.size by omega] at hx
     .rw[WX h] at hx;exact hx) (by rw[a1 i K,A];rfl) (by simp[W8,show i < y.size by omega]) (bk K);omega
   .intro s';rw[a0,Ce J (c _ f) B A s' (ae z) (WY _),mz];by_cases hd:z[i].dst=ak s'
    .rw[W0 hd,W0 ⟨F,hd⟩]
    .rw[WX hd,WX (fun h=>hd h.2),he]
  .rename_i R;have b4:((aC ops.size).filter fun i => !y.getD i aq&&((ops[i]?).map (·.after.all fun e => !Region.binds .any e || y.getD e.on ar)).getD ar)=[]:=by
    cases c7:((aC ops.size).filter fun i => !y.getD i aq&&((ops[i]?).map (·.after.all fun e => !Region.binds .any e || y.getD e.on ar)).getD ar) with
    | nil=>rfl
    | cons x r =>
     rw[c7] at R;have:t % ae (x::r) < ae (x::r):=aaz _ aK;rw[W7 this] at R;simp at R
   have W:∀i,i < ops.size->y.getD i ar=aq:=by
    intro i
    induction i using Nat.strongRecOn with
    | _ i d3 =>
     intro hi;cases hl:y.getD i ar with
     | true=>rfl
     | false =>
      exfalso;have K:=hi;have L:=Xp K;have b8:∀j,j∈bn ops[i]->j < i:=by
       have gen:∀(l:List (List Nat)) (k:Nat),dy k l=aq->∀(m:Nat) es,l[m]?=ak es->∀j,j∈es->j < k+m:=by
        intro l
        induction l with
        | nil=>intro k _ m es h;simp at h
        | cons x r d2 =>
         intro k hk m es h j X;simp only[dy,WZ] at hk;cases m with
         | zero=>simp at h;subst h;have:=W6.1 hk.1 j X;simpa using this
         | succ m=>have:=d2 (k+1) hk.2 m es (bk h) j X;omega
       intro j X;have:=gen _ 0 a2 i (bn ops[i]) (by simp[L]) j X;omega
      have:i∈((aC ops.size).filter fun i => !y.getD i aq&&((ops[i]?).map (·.after.all fun e => !Region.binds .any e || y.getD e.on ar)).getD ar):=by
       simp only[XR,X5,WZ,Yd];refine ⟨K,by rw[a1 i hi];exact hl,?_⟩;rw[L];simp only[XL,XT];refine YA.2 fun ed c4=>?_;cases hb:Region.binds .any ed with
       | false=>rfl
       | true =>
        have hm:ed.on∈bn ops[i]:=by simp only[bn,Xf,XR];exact ⟨ed,⟨bk c4,hb⟩,rfl⟩
        have c6:=b8 _ hm;simp[d3 _ c6 aD]
      rw[b4] at this;simp at this
   have:=W (ae z) aD;rw[O _ (WY _)] at this;simp at this
end
section
variable {P:Program} {N:Nat} {σ:Type}
structure Ctx (σ:Type) where
 I:Imm
 β:Bet
 H:aE
 w:World
 dl:σ->List Deferred
 pins:σ->List (Nat × Obj)
 gw:∀i v B,β i v=some B->i < H.length
def Am (l:List (Nat × Obj)) (β:Bet) (H:aE) (w:World):Prop:=∀b o,(b,o)∈l->w.heap[b]?=ak o/\¬Own β H b
def Am.ext (h:Am l β H w) (x:Ext I β H w m j f w'):Am l j f w':=fun b o g=>by
 have ⟨y,z⟩:=h b o g;have k:=(Yl.1 y).1;refine ⟨(x.frame b k z).1 ▸ y,fun i=>?_⟩;rcases x.own b i with c | c
 .exact z c
 .omega
structure JS (C:Ctx σ) (N:Nat) (s:σ) (I:Imm) (β:Bet) (e:Env) (H:aE) (a:Act) (w:World):Prop where
 ext:Ext C.I C.β C.H C.w I β H w
 bm:bH (C.dl s) N I β e H a w
 sL:Am (C.pins s) β H w
def Dz (C:Ctx σ) (N:Nat) (Q:σ->bN):Exit->Act->World->Prop:=fun x a w=>∃s I β e H,JS C N s I β e H a w/\Q s x e H
def AJ (P:Program) (C:Ctx σ) (N:Nat) (c:bL) (Q:σ->bN) (s:σ) (e:Env) (H:aE):Prop :=
 ∀k,dE P N k c=aq->∀I β a w,JS C N s I β e H a w->k.wpIn (FR an) 0 P (Dz C N Q) a w
variable {C:Ctx σ} {Q:σ->bN} {s:σ} {e:Env} {H:aE}
def AJ.mono (h:AJ P C N c Q s e H) (l:∀s x e H,Q s x e H->f s x e H):AJ P C N c f s e H:=by intro k i I β a w j;refine wpIn_mono (h k i I β a w j) fun x r t m=>?_;have ⟨o,z,p,g,y,n,q⟩:=m;exact ⟨o,z,p,g,y,n,l _ _ _ _ q⟩
def AJ.oZ (h:AW P N c (Q s) e H):AJ P C N c Q s e H:=by intro k i I β a w j;refine wpIn_mono (h k i an _ I β a w j.bm) fun x o p l=>?_;have ⟨f,n,g,z,y,m,q⟩:=l;exact ⟨s,f,n,g,z,⟨j.ext.trans y,m,j.sL.ext y⟩,q⟩
def su (next:σ->Env->aE->Prop) (Q:σ->bN):σ->bN:=fun s=>j4 (next s) (Q s)
def tv (id:Nat) (Q:σ->bN):σ->bN:=fun s=>nu id (Q s)
def O8:su n Q s .normal e H=n s e H:=(rfl)
def Ra:su n Q s .ret e H=Q s .ret e H:=(rfl)
def Qb:su n Q s (.exit i) e H=Q s (.exit i) e H:=(rfl)
def NZ:tv i Q s .normal e H=Q s .normal e H:=(rfl)
def Pw:tv i Q s .ret e H=Q s .ret e H:=(rfl)
def Pn:tv i Q s (.exit j) e H=if j=i then Q s .normal e H else Q s (.exit j) e H:=(rfl)
attribute [go_sem] O8 Ra Qb NZ Pw Pn
def Oc (h:AJ P C N x (su (AJ P C N y Q) Q) s e H):AJ P C N (.seq x y) Q s e H:=by
 intro k z I β a w j;cases k<;>simp only[dE,W3,WZ] at z;rename_i p r;refine wpIn_seq (wpIn_mono (h p z.1 I β a w j) fun n l v o=>?_);have ⟨t,c,g,m,i,f,q⟩:=o;cases n with
 | normal=>exact q r z.2 c g l v f
 | _=>exact ⟨t,c,g,m,i,f,q⟩
def MH (g:c.ev e = .v0 b) (z:b=aq->AJ P C N x Q s e H) (f:b=ar->AJ P C N y Q s e H):AJ P C N (.cond c x y) Q s e H:=by
 intro k h I β a w j;cases k<;>simp only[dE,W3,WZ] at h;have ⟨⟨i,l⟩,m⟩:=h;have r:=j.bm.x i;rw[g] at r;have r:=r.c7.1;cases b with
 | true=>exact wpIn_cond_true r (z rfl _ l I β a w j)
 | false=>exact wpIn_cond_false r (f rfl _ m I β a w j)
def Ku {id:Nat} {x:bL} (h:AJ P C N x (tv id Q) s e H):AJ P C N (.block id x) Q s e H:=by
 intro k o I β a w j;cases k<;>simp only[dE,W3,WZ,X2] at o;obtain ⟨rfl,t⟩:=o;refine wpIn_block (wpIn_mono (h _ t I β a w j) fun p v K r=>?_);have ⟨c,g,n,z,y,m,q⟩:=r;cases p with
 | exit i =>
  have f:if i=_ then Q c .normal z y else Q c (.exit i) z y:=q;simp only[Exit.inBlock];split
  .rename_i l;rw[W0 l] at f;exact ⟨c,g,n,z,y,m,f⟩
  .rename_i l;rw[WX l] at f;exact ⟨c,g,n,z,y,m,f⟩
 | _=>exact ⟨c,g,n,z,y,m,q⟩
def JS.aR (j:JS C N s I β e H a w) (aR:List Nat):JS C N s I β (cG aR e) H a w:=⟨j.ext,j.bm.aR aR,j.sL⟩
def G9 (aR:List Nat) (Inv:Nat->σ->Env->aE->Prop) (n:Nat):σ->Env->aE->Prop:=fun s e H=>∃m,m < n/\Inv m s (cG aR e) H
def MI (Inv:Nat->σ->Env->aE->Prop) (M:Inv n s (cG aR e) H)
  (round:∀n s e H,Inv n s e H->AJ P C N c (su (G9 aR Inv n) Q) s e H):AJ P C N (.loop aR c) Q s e H:=by
 intro k L I β a w j;cases k<;>simp only[dE,W3] at L;rename_i k;intro b J X G B F;have key:∀n s e H,Inv n s e H->∀I β a w,JS C N s I β e H a w->∃o g w',Dz C N Q o g w'/\ArrivesIn (Machine.fenced P (FR an)) P (lone (b.atR a (.code k :: .inLoop k::J)) X w) b J X o g w':=by
  intro n
  induction n using Nat.strongRecOn with
  | _ n T =>
   intro s e H O I β a w j;have ⟨o,i,t,S,h⟩:=round n s e H O k L I β a w j b (.inLoop k::J) X G B F;have ⟨r,f,v,K,z,p,q⟩:=S;cases o with
   | normal =>
    have ⟨m,D,A⟩:=q;have ⟨W,g,w',E,y⟩:=T m D r _ z A f v i t (p.aR aR);exact ⟨W,g,w',E,.of_steps (StepsIn.trans h (.one (fenced_calm B F rfl) stepR_inLoop)) y⟩
   | exit id=>exact ⟨_,i,t,⟨r,f,v,K,z,p,q⟩,.pass (x := .inLoop k) rfl (fun _ _ => .inl aK) h⟩
   | goto l=>exact ⟨_,i,t,⟨r,f,v,K,z,p,q⟩,.pass (x := .inLoop k) rfl (fun _ _ => .inl aK) h⟩
   | ret=>exact ⟨_,i,t,⟨r,f,v,K,z,p,q⟩,.pass (x := .inLoop k) rfl (fun _ _ => .inl aK) h⟩
   | panic U=>exact ⟨_,i,t,⟨r,f,v,K,z,p,q⟩,.pass (x := .inLoop k) rfl (fun _ _ => .inl aK) h⟩
   | outgrown=>exact ⟨_,i,t,⟨r,f,v,K,z,p,q⟩,.pass (x := .inLoop k) rfl (fun _ _ => .inl aK) h⟩
 have ⟨o,g,w',E,h⟩:=key n s _ H M I β a w (j.aR aR);exact ⟨o,g,w',E,.of_steps (.one (fenced_calm B F rfl) stepR_loop) h⟩
def ma (o:AOp) (e:Env):Option (Nat × List AV):=match o with
 | .jz x args=>match x.ev e with
  | .c (.func (.yield l) _ _)=>ak (l,args.map (·.ev e))
  | _=>an
 | _=>an
abbrev mg (σ:Type):=σ->Nat->List AV->aE->(σ->AV->aE->Prop)->Prop
def RWJ (P:Program) (Y:mg σ):List bA->σ->Env->aE->(σ->Env->aE->Prop)->Prop
 | [],s,e,H,Q=>Q s e H
 | o::r,s,e,H,Q=>match dD o.g e with
  | some aq=>match ma o.op e with
   | some (l,args)=>Y s l args H fun s' v H'=>RWJ P Y r s' (dF o.dst v e) H' Q
   | none=>bW P .any o.op e H fun v H'=>RWJ P Y r s (dF o.dst v e) H' Q
  | some ar=>RWJ P Y r s (dF o.dst (.bI []) e) H Q
  | none=>False
def YOk (P:Program) (C:Ctx σ) (N:Nat) (Y:mg σ):Prop:=∀(s:σ) (l:Nat) (args:List AV) (e:Env) (H:aE) (K:σ->AV->aE->Prop),Y s l args H K->(∀s',C.dl s'=C.dl s) /\
 ∀(I:Imm) (β:Bet) (a:Act) (w:World) (o:Oper) (next:Act->World->Prop) (Q:Exit->Act->World->Prop),JS C N s I β e H a w ->
  (∃(c:Call) (y:Operand),o.op = .call c/\c.callee = .value y/\a.eval y = .func (.yield l) #[] #[]/\bJ I β args (c.args.toList.map a.eval)) ->
  (∀s' v H' I' β' rv w',Ext C.I C.β C.H C.w I' β' H' w'->I.le I'->β.le β'->Sim I' β' H' w'->Rel I' β' v rv->Am (C.pins s') β' H' w'->K s' v H'->next (a.put o.dst rv) w') ->
  o.wpIn (FR an) 0 P a w next Q
def FH (h:gj P N ops o n=aq) (s:bH t N I β e H a w) (z:ma n.op e=ak (l,args)) :
  ∃(c:Call) (y:Operand),o.op = .call c/\c.callee = .value y/\a.eval y = .func (.yield l) #[] #[]/\bJ I β args (c.args.toList.map a.eval):=by
 have ⟨_,_,g⟩:=im h;unfold ma at z;split at z
 .rename_i x X j;split at z<;>simp at z;rename_i K v r q;obtain ⟨rfl,rfl⟩:=z;rw[j] at g;cases p:o.op<;>simp only[p,bB,W3,WZ] at g;rename_i c;have ⟨k,f⟩:=g;have k:∃y,c.callee = .value y/\cT y x=aq:=by unfold BM at k;split at k<;>simp_all
  have ⟨y,k,z⟩:=k;have r1:=s.x z;rw[q] at r1;have ⟨m,i⟩:=r1.c7;simp only[isAtom,WZ,Array.isEmpty_iff] at i;rw[i.1,i.2] at m;exact ⟨c,y,rfl,k,m,fF s.env f⟩
 .simp at z
def RWJ.wp {Y:mg σ} (g:YOk P C N Y) {ops:Array Oper} {z:List bA} (A:ea P N ops ops.toList z=aq) {U:Exit->Act->World->Prop}:∀(r:List bA) (i:Nat),z.drop i=r->∀{s:σ} {e:Env} {H:aE} {I:Imm} {β:Bet} {a:Act} {w:World} {W:σ->Env->aE->Prop},
  RWJ P Y r s e H W->JS C N s I β e H a w->(∀s' V w' e' p F G,JS C N s' F G e' p V w'->W s' e' p->U .normal V w')->wpOpsIn (FR an) 0 P ops U (List.range' i (ae r)) a w
 | [],i,_,s,e,H,I,β,a,w,W,h,j,X=>by simp only[XQ,List.range'_zero,wpOpsIn];exact X s a w e H I β j h
 | ao::r,i,hd,s,e,H,I,β,a,w,W,h,j,X=>by
  have ⟨hl,hg⟩:=eh A;have hi:z[i]?=ak ao:=by have:=ZW (fun l=>l[0]?) hd;simp at this;exact this
  have a1:=(W9.1 hi).1;have L:i < ops.size:=by simp at hl;omega
  have D:=Xp L;have c:=hg i ops[i] ao (by simp[D]) hi;have n:z.drop (i+1)=r:=by rw[<-Ya,hd];rfl
  have ⟨k,o,_⟩:=im c;simp only[XG,aay,wpOpsIn,D];unfold RWJ at h;split at h
  .rename_i S;rw[W0 (eB c j.bm S)];split at h
   .rename_i l args T;have ⟨J,hY⟩:=g s l args e H _ h;refine hY I β a w ops[i] _ _ j (FH c j.bm T) ?_;intro s' v p F G rv w' x hI a0 s2 y E M;refine RWJ.wp g A r (i+1) n M ⟨x,?_,E⟩ X;rw[J s'];refine ⟨s2,?_,fun t=>?_,?_⟩
    .cases q:ops[i].dst<;>simp[Act.put,j.bm.size]
    .rw[mz,<-k];cases q:ops[i].dst with
     | none=>simp only[Act.put];rw[WX aK];exact (j.bm.env t).mono hI a0
     | some d =>
      have:=o d q;simp only[Act.put];by_cases h:d=t
      .subst h;rw[W0 rfl];simp only[W8,ZJ (by rw[j.bm.size];exact this),XT];exact y
      .rw[WX (by simp[h])];have e2:(a.tmps.setIfInBounds d rv).getD t undef=a.tmps.getD t undef:=by simp only[W8,Xl,WX h]
       rw[e2];exact (j.bm.env t).mono hI a0
    .cases q:ops[i].dst<;>simp[Act.put,j.bm.mu]
   .unfold bW at h;split at h
    .rename_i f args m;have h:∃Post,cF P f args H Post/\∀v p,Post v p->RWJ P Y r s (dF ao.dst v e) p W:=by
      have hm:zV .any ao.op = .any:=by cases ao.op<;>rfl
      rw[hm] at h;exact h
     have ⟨Post,B,M⟩:=h;refine iV c j.bm m B.1 (fun vs hr=>B.2 I β w vs j.bm.bm hr) ?_;rintro en w' ⟨rv,v,p,F,G,rfl,K,s',y,hp⟩;exact ⟨rv,rfl,RWJ.wp g A r (i+1) n (M v p hp) ⟨j.ext.trans K,k ▸ j.bm.put K s' o y,j.sL.ext K⟩ X⟩
    .rename_i m;split at h
     .rename_i v H1 O;refine jJ c j.bm O fun rv F G w' K s' y _=>?_;exact RWJ.wp g A r (i+1) n h ⟨j.ext.trans K,k ▸ j.bm.put K s' o y,j.sL.ext K⟩ X
     .exact h.elim
  .rename_i S;rw[WX (by rw[eB c j.bm S];simp)];rw[k];exact ⟨fun _ _=>trivial,RWJ.wp g A r (i+1) n h ⟨j.ext,j.bm.put (.refl _ _ _ _) j.bm.bm (fun t ht=>o t (by rw[k];exact ht)) yK,j.sL⟩ X⟩
  .exact h.elim
def MJ {Y:mg σ} (hY:YOk P C N Y) {aR:List Nat} {X:List (List Nat)} {ops z:List bA} (O:z≠[]) (hd:cM (.rJ aR X ops z)=aq)
  (h:RW P .aR ops e H fun A W=>RWJ P Y z s A W fun s' e2 H2=>Q s' .normal (cG aR e2) H2):AJ P C N (.rJ aR X ops z) Q s e H:=by
 intro k J I β a w j;have L:=J;cases k<;>try (simp only[dE,W3] at L;done)
 rename_i id x dr;cases dr<;>simp only[dE,W3,WZ] at J;have ⟨⟨F,c⟩,p⟩:=J;simp only[cM,WZ] at hd;have ⟨⟨r,S⟩,M⟩:=hd;have c:x.toList.map bn=X:=bk c;have ⟨os,A,W,a0,r1,r2,h0⟩:=RW.iQ (md:=lg 0 ops) (i:=0) (fun j hj=>by simpa[fv] using hj) h;have ht:=lT r1 r2.all;have hl:x.size=ae ops+ae z:=by have:=(eh F).1;simpa using this
 have ⟨E,G,V,h1,h2,D,m,h5,h6,h7⟩:=ht.fn;have U:mq P (lg 0 ops) ops E G V:=⟨h5,h6,fun i hi hm=>h7 i hi (bk hm)⟩;have T:bH (C.dl s) N I β e H a {w with drawn:=w.drawn+1}:=by refine ⟨⟨fun b o v e=>j.bm.bm.ef b o v e,fun id ob h=>?_,j.bm.bm.inj,j.bm.bm.gw,j.bm.bm.ver⟩,j.bm.size,j.bm.env,j.bm.mu⟩;have ⟨B,g1,g2,g3⟩:=j.bm.bm.obj id ob h;exact ⟨B,g1,g2,g3.aR (.refl _) (.refl _) (fun _=>rfl) (fun _ _=>rfl)⟩
 have hx:Ext I β H w I β H {w with drawn:=w.drawn+1}:=⟨.refl _,.refl _,WY _,WY _,rfl,rfl,rfl,fun _ _ _=>⟨rfl,fun _=>rfl⟩,fun _ h => .inl h⟩;have l:∀j,ae ops<=j->j < x.size->∀i,i < j->ie (gQ X []) i j=aq:=fun q h1 h2 i hi=>by have D:=W6.1 M (q - ae ops) cE;have m:=W6.1 D i cE;rw[show ae ops+(q - ae ops)=q by omega] at m;exact m
 refine wpIn_region_draw fun t=>?_;have g:Region.schedule (P.follows .mixedOrders) x t=Region.linearise .any x t:=by unfold Region.schedule;rw[W0 p]
 rw[g];unfold Region.linearise;have f:∀i,(Array.replicate x.size ar).getD i ar=ar:=by intro i;simp only[W8,Zj];split<;>rfl
 refine Li O F (c ▸ r) (c ▸ S) (c ▸ l) U x.size t (Array.replicate x.size ar) e H I β a _ aK (fun j _=>f j) ?_ ?_ ?_ ?_ T fun a' w' K=>?_
 .exact XX (ZV _ _) aK
 .intro i es _ n;have y:(Array.replicate x.size ar).getD i ar=aq:=n;rw[f] at y;simp at y
 .intro s';have:∀k,e8 ops V (E 0) (fun i=>(Array.replicate x.size ar).getD i ar) k s'=lk s' (E 0):=by
   intro k
   induction k with
   | zero=>rfl
   | succ k ih =>
    rw[e8,ih,WX];rintro ⟨n,_⟩;have y:=n;rw[f] at y;simp at y
  rw[this,h1]
 .have:∀k,fY (lg 0 ops) G (fun i=>(Array.replicate x.size ar).getD i ar) k=G 0:=by
   intro k
   induction k with
   | zero=>rfl
   | succ k ih =>
    rw[fY,ih,WX];rintro ⟨n,_⟩;have y:=n;rw[f] at y;simp at y
  rw[this,h2]
 .have ⟨I2,a1,x2,s2⟩:=K;rw[D,m] at s2;rw[m] at x2;have j2:JS C N s I2 a1 A W a' w':=⟨j.ext.trans (hx.trans x2),s2,(j.sL.ext hx).ext x2⟩;exact RWJ.wp hY F z (ae ops) aK h0 j2 fun s' a3 w3 e3 H3 I3 a2 j3 q3=>⟨s',I3,a2,_,H3,j3.aR aR,q3⟩
def Pr (i:s5 (ae H) e H f z) (h:AJ P C N x Q s f z):AJ P C N (.wk x) Q s e H:=by intro k g I β a w j;have ⟨c,m,l,y⟩:=i _ _ _ _ _ _ j.bm;refine h k (by cases k<;>simpa only[dE] using g) c m a w ⟨y _ _ _ _ j.ext.len C.gw j.ext,l,j.sL.ext (y I β H w (WY _) j.bm.bm.gw (.refl _ _ _ _))⟩
abbrev ux (σ:Type):=σ->bL->(σ->bN)->Env->aE->Prop
def Kq (P:Program) (Y:mg σ) (sfx:List bA) (aR:List Nat) (Q:σ->bN) (s:σ):Env->aE->Prop:=fun e H=>RWJ P Y sfx s e H fun s' e2 H2=>Q s' .normal (cG aR e2) H2
def Ha (P:Program) (C:Ctx σ) (N:Nat) (aR:List Nat) (c:bL) (Q:σ->bN) (s:σ) (e:Env) (H:aE):Prop:=cM c=aq->AJ P C N (.loop aR c) Q s e H
def WPJ (P:Program) (C:Ctx σ) (N:Nat) (Y:mg σ) (R:ux σ):bL->(σ->bN)->σ->Env->aE->Prop
 | .seq a b,Q,s,e,H=>WPJ P C N Y R a (su (WPJ P C N Y R b Q) Q) s e H
 | .cond c a b,Q,s,e,H=>oW (c.ev e) (WPJ P C N Y R a Q s e H) (WPJ P C N Y R b Q s e H)
 | .block id a,Q,s,e,H=>WPJ P C N Y R a (tv id Q) s e H
 | .loop aR a,Q,s,e,H=>Ha P C N aR a Q s e H
 | .wk a,Q,s,e,H=>∃e2 H2,s5 (ae H) e H e2 H2/\WPJ P C N Y R a Q s e2 H2
 | .rJ aR _ ops sfx,Q,s,e,H=>sfx≠[]/\RW P .aR ops e H (Kq P Y sfx aR Q s)
 | .vZ g p a b,Q,s,e,H=>R s (.vZ g p a b) Q e H
 | c,Q,s,e,H=>WP P N c (Q s) e H
def ROk (P:Program) (C:Ctx σ) (N:Nat) (R:ux σ):Prop:=∀s c Q e H,R s c Q e H->AJ P C N c Q s e H
def WPJ.aj {Y:mg σ} {R:ux σ} (y:YOk P C N Y) (hR:ROk P C N R):∀{c:bL} {Q:σ->bN} {s:σ} {e:Env} {H:aE},cM c=aq->WPJ P C N Y R c Q s e H->AJ P C N c Q s e H
 | .seq a b,Q,s,e,H,k,h=>by
  simp only[cM,WZ] at k;refine Oc ((WPJ.aj y hR (c:=a) k.1 h).mono fun s x e H w=>?_);cases x with
  | normal=>exact WPJ.aj y hR (c:=b) k.2 w
  | _=>exact w
 | .cond c a b,Q,s,e,H,k,h=>by simp only[cM,WZ] at k;have ⟨t,f,i,j⟩:=h;exact MH f (fun z=>WPJ.aj y hR k.1 (i z)) (fun z=>WPJ.aj y hR k.2 (j z))
 | .block id a,Q,s,e,H,k,h=>Ku (WPJ.aj y hR (c:=a) k h)
 | .loop aR a,Q,s,e,H,k,h=>h k
 | .rJ aR q ops m,Q,s,e,H,k,h=>MJ y h.1 k h.2
 | .vZ g p a b,Q,s,e,H,k,h=>hR _ _ _ _ _ h
 | .skip,Q,s,e,H,k,h=>AJ.oZ (WP.aw k h)
 | .ki _ _,Q,s,e,H,k,h=>AJ.oZ (WP.aw k h)
 | .tp _ _ _,Q,s,e,H,k,h=>AJ.oZ (WP.aw k h)
 | .pX _ _ _ _,Q,s,e,H,k,h=>AJ.oZ (WP.aw k h)
 | .rI _ _ _ _,Q,s,e,H,k,h=>AJ.oZ (WP.aw k h)
 | .vm _ _ _ _,Q,s,e,H,k,h=>AJ.oZ (WP.aw k h)
 | .bad,Q,s,e,H,k,h=>AJ.oZ (WP.aw k h)
 | .exit _,Q,s,e,H,k,h=>AJ.oZ (WP.aw k h)
 | .wk a,Q,s,e,H,k,h=>by have ⟨o,n,l,h⟩:=h;exact Pr l (WPJ.aj y hR (c:=a) k h)
 | .label _,Q,s,e,H,k,h=>AJ.oZ (WP.aw k h)
 | .ret,Q,s,e,H,k,h=>AJ.oZ (WP.aw k h)
section rules
variable {Y:mg σ} {R:ux σ} {a b:bL}
def wA (P:Program) (C:Ctx σ) (N:Nat) (Y:mg σ) (R:ux σ) (v:AV) (a b:bL) (Q:σ->bN) (s:σ) (e:Env) (H:aE):Prop:=oW v (WPJ P C N Y R a Q s e H) (WPJ P C N Y R b Q s e H)
def TV:WPJ P C N Y R (.seq a b) Q s e H=WPJ P C N Y R a (su (WPJ P C N Y R b Q) Q) s e H:=(rfl)
def Sw:WPJ P C N Y R (.cond c a b) Q s e H=wA P C N Y R (c.ev e) a b Q s e H:=(rfl)
def Rc {id:Nat}:WPJ P C N Y R (.block id a) Q s e H=WPJ P C N Y R a (tv id Q) s e H:=(rfl)
def Sy:WPJ P C N Y R (.loop aR a) Q s e H=Ha P C N aR a Q s e H:=(rfl)
def SA:WPJ P C N Y R (.rJ aR h ops (o::r)) Q s e H=RW P .aR ops e H (Kq P Y (o::r) aR Q s):=by show (o::r≠[]/\_)=_;simp
def TU:WPJ P C N Y R (.vZ g p a b) Q s e H=R s (.vZ g p a b) Q e H:=(rfl)
def SB:WPJ P C N Y R .skip Q s e H=Q s .normal e H:=(rfl)
def Sx:WPJ P C N Y R (.exit i) Q s e H=Q s (.exit i) e H:=(rfl)
def TT:WPJ P C N Y R .ret Q s e H=Q s .ret e H:=(rfl)
def TS:WPJ P C N Y R (.ki aR ops) Q s e H=RW P .any ops e H (uv aR (Q s)):=(rfl)
def Sz:WPJ P C N Y R (.tp aR h ops) Q s e H=RW P .aR ops e H (uv aR (Q s)):=(rfl)
attribute [go_sem] TV Sw Rc Sy SA TU SB Sx TT TS Sz
def L9:WPJ P C N Y R (.pX aR k h ops) Q s e H=WP P N (.pX aR k h ops) (Q s) e H:=(rfl)
def Ru:wA P C N Y R (.v0 aq) a b Q s e H=WPJ P C N Y R a Q s e H:=by simp[wA,oW]
def Rt:wA P C N Y R (.v0 ar) a b Q s e H=WPJ P C N Y R b Q s e H:=by simp[wA,oW]
def VT {aR:List Nat} {Inv:Nat->σ->Env->aE->Prop} {n:Nat}:G9 aR Inv n s e H=∃m,m < n/\Inv m s (cG aR e) H:=(rfl)
def WR:Kq P Y h aR Q s e H=RWJ P Y h s e H fun s' x k=>Q s' .normal (cG aR x) k:=(rfl)
attribute [go_sem] Ru Rt VT WR
end rules
def iE {Y:mg σ} {R:ux σ} (x:YOk P C N Y) (hR:ROk P C N R) {aR:List Nat} {c:bL} (Inv:Nat->σ->Env->aE->Prop) {n:Nat} (h:Inv n s (cG aR e) H)
  (round:∀n s e H,Inv n s e H->WPJ P C N Y R c (su (G9 aR Inv n) Q) s e H):Ha P C N aR c Q s e H :=
 fun y=>MI Inv h fun n s e H k=>WPJ.aj x hR y (round n s e H k)
end
section
variable {P:Program} {N:Nat}
def Sim.putObj (s:Sim I β H w) (m:w.heap[l]?=ak x) (p:∀c E k,x ≠ .cells c E k):Sim I β H (w.putObj l o):=by
 have y:∀b c E k,w.heap[b]?=ak (.cells c E k)->b≠l:=fun b c E k h e=>by subst e;rw[m] at h;cases h;exact p _ _ _ rfl
 refine ⟨fun b q v j=>?_,fun r K h=>?_,s.inj,s.gw,s.ver⟩
 .have ⟨c,E,k,a,i⟩:=s.ef b q v j;exact ⟨c,E,k,by rw[World.putObj_heap_other (y _ _ _ _ a)];exact a,i⟩
 .have ⟨B,f,g,z⟩:=s.obj r K h;refine ⟨B,f,g,z.aR (.refl _) (.refl _) (fun n=>?_) (fun _ _=>rfl)⟩;unfold dG at z;rw[WX (by simp[n])] at z;have ⟨c,E,t,_⟩:=z;exact World.putObj_heap_other (y _ _ _ _ t)
def Sim.wF (s:Sim I β H w) (o:Obj):Sim I β H (w.alloc o):=by
 have z:∀b x,w.heap[b]?=ak x->(w.alloc o).heap[b]?=ak x:=fun b x h=>by have k:=(Yl.1 h).1;show (w.heap.push o)[b]?=_;rw[aaS k,<-h,Xp k]
 refine ⟨fun b q v l=>?_,fun n p h=>?_,s.inj,s.gw,s.ver⟩
 .have ⟨c,E,e,i,j⟩:=s.ef b q v l;exact ⟨c,E,e,z _ _ i,j⟩
 .have ⟨B,f,g,y⟩:=s.obj n p h;refine ⟨B,f,g,y.aR (.refl _) (.refl _) (fun m=>?_) (fun _ _=>rfl)⟩;unfold dG at y;rw[WX (by simp[m])] at y;have ⟨c,E,a,_⟩:=y;rw[z _ _ a,a]
def Ext.putObj (x:Ext I β H w z a y w') (c:w.heap.size<=l):Ext I β H w z a y (w'.putObj l o) :=
 ⟨x.ef,x.n6,x.len,by rw[World.putObj_size];exact x.size,x.os,x.tape,x.output,fun b h k=>⟨by rw[World.putObj_heap_other aD];exact (x.frame b h k).1,(x.frame b h k).2⟩,x.own⟩
def Ext.wF (x:Ext I β H w a e z w') (o:Obj):Ext I β H w a e z (w'.alloc o):=by
 have c:∀b,b < w'.heap.size->(w'.alloc o).heap[b]?=w'.heap[b]?:=fun b h=>by show (w'.heap.push o)[b]?=_;rw[aaS h,Xp h]
 exact ⟨x.ef,x.n6,x.len,by have:=x.size;rw[World.size_alloc];omega,x.os,x.tape,x.output,fun b k y=>⟨(c b (dp x.size)) ▸ (x.frame b k y).1,(x.frame b k y).2⟩,x.own⟩
def Own.OK (s:Sim I β H w) (h:Own β H b):b < w.heap.size:=by have ⟨e,f,B,y,z,a,c⟩:=h;have ⟨g,k,i,x⟩:=s.obj e f y;rw[z] at k;cases k;rw[<-c];exact x.lt a
def DK (K:Bool->aE->Prop):bN:=fun x _ H=>(x = .normal/\K aq H)\/(x = .ret/\K ar H)
def Rd (A B:aE->Prop):Bool->bN:=fun s x _ H=>(x = .normal\/x = .ret)/\(s=aq->A H)/\(s=ar->B H)
def Oa (P:Program) (N:Nat) (p:Nat) (ab bd:bL) (g:AV) (e:Env) (H:aE) (A B:aE->Prop):Prop :=
 ∃gf caps N' ac,g = .fn gf [] caps/\zD P gf N' ac []/\ae caps+1<=N'/\p < N/\cM ab=aq/\cM bd=aq /\
  ∃Y:Nat->mg Bool,(∀l s l' args H K,Y l s l' args H K->s=aq/\l'=l/\∃x,args=[x]/\WP P N ab (j4 (WP P N bd (DK fun b H'=>K b (.c (.bool b)) H')) (fun _ _ _=>False)) ((p,x)::e) H) /\
   ∀(C:Ctx Bool) (l:Nat),YOk P C N' (Y l)->AJ P C N' ac (Rd A B) aq (jl (.c (.func (.yield l) #[] #[])::caps)) H
def uK (I:Imm) (β:Bet) (H:aE) (w:World) (h:∀i v B,β i v=ak B->i < ae H) (rec:LoopState->Option Code->Loop):Ctx Bool :=
 ⟨I,β,H,w,fun _=>[],fun s=>[(w.heap.size+1,.loop (if s then rec .ready an else rec .done (ak .ret))),(w.heap.size,.deferred (ak []))],h⟩
def Kh {I:Imm} {β:Bet} {e:Env} {H:aE} {g:Act} {w:World} (s0:bH [] N I β e H g w) {k z:Code} {ab R:bL} (a9:dE P N k ab=aq) (b0:dE P N z R=aq) (b1:cM ab=aq) (b2:cM R=aq) {p:Nat} (hp:p < N) {fnid:FuncId}
  {Y:mg Bool} (hY:∀s l' args H K,Y s l' args H K->s=aq/\l'=w.heap.size+1/\∃x,args=[x]/\WP P N ab (j4 (WP P N R (DK fun b V=>K b (.v0 b) V)) (fun _ _ _=>False)) ((p,x)::e) H) {N':Nat} :
  YOk P (uK I β H w s0.bm.gw fun st pe=>{state:=st,pending:=pe,fn:=fnid,tmps:=g.tmps,params:=#[p],assign:=k,body:=z,defers:=w.heap.size}) N' Y:=by
 intro s l' args e1 H1 K hy;obtain ⟨rfl,rfl,x,rfl,hw⟩:=hY _ _ _ _ _ hy;refine ⟨fun _=>rfl,fun A M B J o next Q j ⟨c,y,ho,D,b3,a⟩ hk=>?_⟩;obtain ⟨b4,c8⟩:=j.sL (w.heap.size+1) _ (by simp[uK];rfl);obtain ⟨c6,c7⟩:=j.sL w.heap.size (.deferred (ak [])) (by simp[uK]);have X:Ext I β H w A M H1 J:=j.ext;unfold Oper.wpIn;refine ⟨fun _ _=>trivial,?_⟩;rw[Oper.semAt_eq _ _ _ (by intro c hc;rw[ho] at hc;cases hc)];obtain ⟨f,b7,b6⟩:∃f,c.args.toList.map B.eval=[f]/\Rel A M x f:=by
  obtain ⟨vs,G⟩:∃vs,c.args.toList.map B.eval=vs:=⟨_,rfl⟩;rw[G] at a
  match vs,a with
  | [f],h=>exact ⟨f,G,h.head⟩
  | [],h=>exact absurd h.1 aK
  | _::_::_,h=>exact absurd h.1 aK
 have F:(execOp B.eval o).run P J = .ok (.round (w.heap.size+1) fnid (g.tmps.setIfInBounds p f) k z) J:=by
  have T:c.args.map B.eval=#[f]:=by apply Zx;simpa using b7
  have b8:=run_yield (P:=P) (args:=#[f]) b4 rfl;simp only[execOp,ho,resolve,D,Sem.run_bind];simp only[b3,Deferred.ofValue,Sem.run_pure,Result.andThen_ok,invoke,T];simpa using b8
 rw[F,Oper.uponIn_round];refine ⟨fun h=>by simp[FR,Fence.wide] at h,roundIn_of_wpIn trivial ?_⟩;have s2:bH [] N A M ((p,x)::e) H1 {tmps:=g.tmps.setIfInBounds p f,defers:=[]} J:=by
  refine ⟨j.bm.bm,by simp[s0.size],fun t=>?_,rfl⟩;show Rel A M (if p=t then x else lk t e) _;by_cases h:p=t
  .subst h;rw[W0 rfl];simp only[W8,ZJ (by rw[s0.size];exact hp),XT];exact b6
  .rw[WX h];have S:(g.tmps.setIfInBounds p f).getD t undef=g.tmps.getD t undef:=by simp only[W8,Xl,WX h]
   rw[S];exact (s0.env t).mono X.ef X.n6
 have a3:=(WP.aw b1 hw) k a9 (ak (w.heap.size+1)) [] A M _ J s2;refine wpIn_mono a3 ?_;rintro ex a2 w2 ⟨I2,c4,S,H2,U,m,q⟩;cases ex with
 | normal =>
  have q:WP P N R (DK fun b V=>K b (.v0 b) V) S H2:=q;have p2:=j.sL.ext U;obtain ⟨v,r⟩:=p2 (w.heap.size+1) _ (by simp[uK];rfl);obtain ⟨a6,n⟩:=p2 w.heap.size (.deferred (ak [])) (by simp[uK]);have b9:w.heap.size+1 < w2.heap.size:=(Yl.1 v).1;refine ⟨_,run_beginRound v rfl,?_⟩;generalize l:w2.putObj (w.heap.size+1) _=L;have E:L.heap[w.heap.size+1]?=ak (.loop {state := .busy,pending:=an,fn:=fnid,tmps:=g.tmps,params:=#[p],assign:=k,body:=z,defers:=w.heap.size}):=by rw[<-l];exact World.putObj_heap_same b9
  have a7:L.heap[w.heap.size]?=ak (.deferred (ak [])):=by rw[<-l,World.putObj_heap_other aD];exact a6
  have x3:Ext I β H w I2 c4 H2 L:=by rw[<-l];exact (X.trans U).putObj aD
  have s3:bH [] N I2 c4 S H2 a2 L:=⟨by rw[<-l];exact m.bm.putObj v (by intros;simp),m.size,m.env,m.mu⟩;have a5:=(WP.aw b2 q) z b0 (ak (w.heap.size+1)) [] I2 c4 a2 L s3;refine wpIn_mono a5 ?_;rintro ex a4 w4 ⟨I4,c5,e4,O,W,s4,q4⟩;have c0:=(Yl.1 E).1;have i:=(W.frame _ c0 r).1.trans E;have a8:=(W.frame _ aD n).1.trans a7;have c3:¬Own c5 O (w.heap.size+1):=fun h=>by rcases W.own _ h with h | h;exact r h;omega
  have c2:¬Own c5 O w.heap.size:=fun h=>by rcases W.own _ h with h | h;exact n h;omega
  have c1:=(Yl.1 i).1;have fin:∀(b:Bool) (ob:Obj),ob = .loop (if b then {state := .ready,pending:=an,fn:=fnid,tmps:=g.tmps,params:=#[p],assign:=k,body:=z,defers:=w.heap.size} else {state := .done,pending:=ak .ret,fn:=fnid,tmps:=g.tmps,params:=#[p],assign:=k,body:=z,defers:=w.heap.size}) ->
    K b (.v0 b) O->next (B.put o.dst (.bool b)) (w4.putObj (w.heap.size+1) ob):=by
   intro b ob b5 C;refine hk b (.v0 b) O I4 c5 (.bool b) _ ((x3.trans W).putObj aD) (U.ef.trans W.ef) (U.n6.trans W.n6) (s4.bm.putObj i (by intros;simp)) (.c rfl) ?_ C;intro b' o' T;simp only[uK,X3,abm,Yb,ZB] at T;rcases T with ⟨rfl,rfl⟩ | ⟨rfl,rfl⟩
   .exact ⟨by rw[World.putObj_heap_same c1,b5],c3⟩
   .exact ⟨by rw[World.putObj_heap_other aD];exact a8,c2⟩
  rcases q4 with ⟨rfl,C⟩ | ⟨rfl,C⟩
  .refine ⟨.bool aq,_,run_endRound an i,fin aq _ rfl C⟩
  .refine ⟨.bool ar,_,run_endRound (ak .ret) i,fin ar _ rfl C⟩
 | _=>exact q.elim
def uY (D:Nat):List Deferred:=[{target := .collected D,args:=#[]}]
def s9 (I:Imm) (β:Bet) (H:aE) (w:World) (h:∀i v B,β i v=ak B->i < ae H):Ctx (Option Nat) :=
 ⟨I,β,H,w,fun s=>match s with | none=>[] | some D=>uY D,fun s=>match s with | none=>[] | some D=>(D,.deferred (ak []))::if w.heap.size<=D then [] else [(D,.deferred an)],h⟩
def RM (P:Program) (N:Nat):ux (Option Nat):=fun s c Q e H=>s=an/\match c with
 | .vZ g p ab bd=>∃A B:aE->Prop,Oa P N p ab bd (g.ev e) e H A B/\(∀D H',A H'->Q (ak D) .normal e H')/\(∀D H',B H'->Q (ak D) .ret e H')
 | _=>False
def Mx:ROk P (s9 S b9 R M h0) N (RM P N):=by
 intro s c Q e H J;obtain ⟨rfl,J⟩:=J;cases c<;>try exact J.elim
 rename_i g p ab bd;have ⟨A,B,⟨V,f,N',ac,hg,b3,c1,hp,b0,b1,Y,hY,a0⟩,a4,a5⟩:=J;intro k hk I β a w j;cases k<;>simp only[dE,W3,WZ] at hk;rename_i go ps r K;have ⟨⟨⟨hx,n⟩,a7⟩,a8⟩:=hk;have n:ps=#[p]:=bk n;subst n;have rg:=j.bm.x hx;rw[hg] at rg;have ⟨vf,z,b2,rf,rc⟩:=rg.tM;have b6:vf=[]:=by cases vf with | nil=>rfl | cons x y=>exact absurd rf.1 aK
 subst b6;have ⟨i,body,f1,f2,f3,f4,f5,f6⟩:=b3.ok;have a9:mL P V:=⟨i,f1,f2,by simp[f3]⟩;have W:bH [] N I β e H a w:=j.bm;refine wpIn_rangeFunc (fun fnid _=>?_);obtain ⟨W1,l⟩:∃W1,(w.alloc (.deferred (ak []))).alloc (.loop {state := .ready,pending:=an,fn:=fnid,tmps:=a.tmps,params:=#[p],assign:=r,body:=K,defers:=w.heap.size})=W1:=⟨_,rfl⟩;refine ⟨w.heap.size+1,uY w.heap.size,W1,{target := .fn (.func V) z.toArray,args:=#[.func (.yield (w.heap.size+1)) #[] #[]]},W1,V,#[.func (.yield (w.heap.size+1)) #[] #[]]++z.toArray,W1,?_,?_,fun _ _=>trivial,?_,fun h=>by simp[FR,Fence.wide] at h,?_⟩
 .rw[<-l];exact run_enterLoop_outer _ _ _ _ _
 .simp only[resolve,b2];simp[go_sem]
 .have:=nF (w:=W1) a9 (#[.func (.yield (w.heap.size+1)) #[] #[]]++z.toArray);simp only[invoke];rw[<-this]
 .have b5:W1.heap[w.heap.size+1]?=ak (.loop {state := .ready,pending:=an,fn:=fnid,tmps:=a.tmps,params:=#[p],assign:=r,body:=K,defers:=w.heap.size}):=by
   rw[<-l];have:=World.alloc_heap_new (w.alloc (.deferred (ak []))) (.loop {state := .ready,pending:=an,fn:=fnid,tmps:=a.tmps,params:=#[p],assign:=r,body:=K,defers:=w.heap.size})
   rwa [World.size_alloc] at this
  have a1:W1.heap[w.heap.size]?=ak (.deferred (ak [])):=by rw[<-l];show ((w.heap.push _).push _)[w.heap.size]?=_;rw[aaS (by simp)];simp
  have sW:Sim I β H W1:=by rw[<-l];exact (W.bm.wF _).wF _
  have xW:Ext I β H w I β H W1:=by rw[<-l];exact ((Ext.refl I β H w).wF _).wF _
  have nO:∀b,w.heap.size<=b->¬Own β H b:=fun b hb h=>dp (Own.OK W.bm h);refine callsIn_of_wp f1 f3 trivial ?_ rfl;have a6:=Kh (Y:=Y (w.heap.size+1)) W a7 a8 b0 b1 hp (fnid:=fnid) (hY (w.heap.size+1)) (N':=N');have aj:=a0 _ _ a6 body f5 I β {tmps:=(#[Value.func (Fn.yield (w.heap.size+1)) #[] #[]]++z.toArray)++Array.replicate (i.ntmps - (#[Value.func (Fn.yield (w.heap.size+1)) #[] #[]]++z.toArray).size) undef,defers:=[]} W1 ⟨xW,?_,?_⟩
  .refine wpIn_mono aj ?_;rintro ex a3 D ⟨s',F,O,G,E,X,b7,hA,hB⟩;obtain ⟨m,c3⟩:=X.sL (w.heap.size+1) _ (by simp[uK];rfl);obtain ⟨a2,b8⟩:=X.sL w.heap.size (.deferred (ak [])) (by simp[uK]);have x3:Ext I β H w F O E D:=X.ext;have c2:w.heap.size+1 < D.heap.size:=(Yl.1 m).1;have js:∀o,JS (s9 S b9 R M h0) N (ak w.heap.size) F O e E {a with defers:=uY w.heap.size++a.defers} (D.putObj (w.heap.size+1) o):=fun o=>by
    refine ⟨(j.ext.trans x3).putObj (by have:=j.ext.size;simp[s9] at this ⊢;omega),⟨X.bm.bm.putObj m (by intros;simp),W.size,fun t=>(W.env t).mono x3.ef x3.n6,?_⟩,?_⟩
    .show uY w.heap.size++a.defers=uY w.heap.size;rw[W.mu];rfl
    .intro b q C;have b4:M.heap.size<=w.heap.size:=j.ext.size;simp only[s9,W0 b4,X3,abm,Yb,ZB] at C;obtain ⟨rfl,rfl⟩:=C;exact ⟨by rw[World.putObj_heap_other (by omega)];exact a2,b8⟩
   have post:∀v,rangePost (FR an) 0 P (w.heap.size+1) (Dz (s9 S b9 R M h0) N Q) {a with defers:=uY w.heap.size++a.defers} (.returned v) D:=by
    intro v;cases s' with
    | true =>
     exact ⟨an,_,run_endLoop m aK,ak w.heap.size,F,O,e,E,js _,a4 _ _ (hA rfl)⟩
    | false =>
     exact ⟨ak .ret,_,run_endLoop m aK,wpIn_ret ⟨ak w.heap.size,F,O,e,E,js _,a5 _ _ (hB rfl)⟩⟩
   have fin:bodyPost P i (rangePost (FR an) 0 P (w.heap.size+1) (Dz (s9 S b9 R M h0) N Q) {a with defers:=uY w.heap.size++a.defers}) .normal a3 D:=by have ⟨rv,h7,h8⟩:=mF X.bm f6 (vs:=[]) rfl;exact ⟨X.bm.mu,rv,h7,post rv⟩
   rcases b7 with rfl | rfl
   .exact fin
   .exact fin
  .have c0:=rc.1;refine ⟨sW,by simp[f4];omega,fun t=>?_,rfl⟩;rw[yA]
   match t with
   | 0 =>
    have U:((#[Value.func (Fn.yield (w.heap.size+1)) #[] #[]]++z.toArray)++Array.replicate (i.ntmps - (#[Value.func (Fn.yield (w.heap.size+1)) #[] #[]]++z.toArray).size) undef).getD 0 undef=Value.func (Fn.yield (w.heap.size+1)) #[] #[]:=by have G:#[Value.func (Fn.yield (w.heap.size+1)) #[] #[]]++z.toArray=(Value.func (Fn.yield (w.heap.size+1)) #[] #[]::z).toArray:=aK;rw[G,W8,YY (by simp)];simp
    rw[U];exact .c rfl
   | t+1 =>
    rcases Xe t (ae f) with L | L
    .have T:(AV.c (.func (.yield (w.heap.size+1)) #[] #[])::f).getD (t+1) .aY=f[t]:=by simp[af,L]
     have U:((#[Value.func (Fn.yield (w.heap.size+1)) #[] #[]]++z.toArray)++Array.replicate (i.ntmps - (#[Value.func (Fn.yield (w.heap.size+1)) #[] #[]]++z.toArray).size) undef).getD (t+1) undef=z[t]'(by omega):=by have G:#[Value.func (Fn.yield (w.heap.size+1)) #[] #[]]++z.toArray=(Value.func (Fn.yield (w.heap.size+1)) #[] #[]::z).toArray:=aK;rw[G,W8,YY (by simp;omega)];simp[show t < ae z by omega]
     rw[T,U];exact rc.2 t _ _ (by simp[L]) (by simp[show t < ae z by omega])
    .have T:(AV.c (.func (.yield (w.heap.size+1)) #[] #[])::f).getD (t+1) .aY = .aY:=by simp[af,L]
     rw[T];exact .aY
  .intro b o C;simp only[uK,X3,abm,Yb,ZB] at C;rcases C with ⟨rfl,rfl⟩ | ⟨rfl,rfl⟩
   .exact ⟨b5,nO _ aD⟩
   .exact ⟨a1,nO _ aD⟩
abbrev Y0:mg (Option Nat):=fun _ _ _ _ _=>False
def BD:YOk P C N Y0:=fun _ _ _ _ _ _ h=>h.elim
def FN {f:FuncId} {p:bL} {O:List gC} (hf:zD P f N p O) {args:List AV} {H:aE} (hl:ae args<=N) (j:cM p=aq) {Post:AV->aE->Prop}
  (h:∀C:Ctx (Option Nat),ROk P C N (RM P N)->WPJ P C N Y0 (RM P N) p (fun _=>ky O Post) an (jl args) H):cF P f args H Post:=by
 have ⟨g,body,B,V,E,h4,h5,J⟩:=hf.ok;refine ⟨⟨g,B,V,by simp[E]⟩,fun I β w a s M=>?_⟩;have L:=M.1;have s0:bH [] N I β (jl args) H {tmps:=a.toArray++Array.replicate (g.ntmps - a.toArray.size) undef,defers:=[]} w:=by
  refine ⟨s,by simp[h4];omega,fun t=>?_,rfl⟩;rw[yA];rcases Xe t (ae args) with l | l
  .have q:args.getD t .aY=args[t]:=by simp[af,l]
   have r:(a.toArray++Array.replicate (g.ntmps - a.toArray.size) undef).getD t undef=a[t]'(by omega):=by rw[W8,YY (by simp;omega)];simp[show t < ae a by omega]
   rw[q,r];exact M.2 t _ _ (by simp[l]) (by simp[show t < ae a by omega])
  .have q:args.getD t .aY = .aY:=by simp[af,l]
   rw[q];exact .aY
 refine (callsIn_wide (n:=0)).1 (callsIn_of_wp_marks (F:=FR an) B E trivial ?_ rfl);have aj:=WPJ.aj (C:=s9 I β H w s.gw) BD Mx j (h _ Mx) body h5 I β _ w ⟨.refl _ _ _ _,s0,fun b o hm=>by simp[s9] at hm⟩;refine wpIn_mono aj fun ex c w' hp=>?_;have ⟨s',U,a2,r,T,x,hx,a1,y,k⟩:=hp;have S:=x.ext;have fin:bodyPostM (FR an) 0 P g (fun e w'=>∃rv v G m A,e = .returned rv/\Ext I β H w m A G w'/\Sim m A G w'/\Rel m A v rv/\Post v G) .normal c w':=by
  cases s' with
  | none =>
   have ⟨rv,K,X⟩:=mF x.bm J y;have j:=x.bm.mu;show LeavesInM (FR an) 0 P g c.tmps _ c.defers .returning w';rw[j];exact ⟨rv,K,rv,_,_,_,_,rfl,S,x.bm.bm,X,k⟩
  | some D =>
   have j:=x.bm.mu;have ⟨W,nD⟩:=x.sL D (.deferred (ak [])) (by simp[s9]);have z:w.heap.size<=D:=by
    rcases Xe D w.heap.size with a0 | z
    .obtain ⟨i,_⟩:=x.sL D (.deferred an) (by simp[s9,show ¬w.heap.size<=D by omega]);rw[W] at i;cases i
    .exact z
   show LeavesInM (FR an) 0 P g c.tmps _ c.defers .returning w';rw[j];refine ⟨aK,.inl ⟨D,_,rfl,run_takeDeferred W,?_⟩⟩;have R:bH [] N U a2 r T {c with defers:=[]} (w'.putObj D (.deferred an)):=⟨x.bm.bm.putObj W (by intros;simp),x.bm.size,x.bm.env,rfl⟩;have ⟨rv,K,X⟩:=mF R J y;refine ⟨rv,K,rv,_,_,_,_,rfl,?_,R.bm,X,k⟩;exact S.putObj z
 rcases hx with rfl | rfl
 .exact fin
 .exact fin
end
section
variable {P:Program} {f:FuncId} {fn:Func} {rs:List gC} {args:List AV} {H:aE}
def qm (h:P.funcs[f]?=ak fn) (c:bL) {Post:AV->aE->Prop} (w:∀C:Ctx (Option Nat),ROk P C fn.ntmps (RM P fn.ntmps)->WPJ P C fn.ntmps Y0 (RM P fn.ntmps) c (fun _=>ky rs Post) an (jl args) H)
  (o:Bb P fn c=aq:=by kernel_rfl) (k:Br fn=rs:=by conv=>lhs;cbv) (x:Nat.ble (ae args) fn.ntmps=aq:=by rfl):cF P f args H Post:=by subst k;exact FN (sH o h).1 (aat x) (sH o h).2 w
def CZ {σ:Type} {N i j k:Nat} {h:Hn} {a b:bL} {e:Env} {C:Ctx σ} {Q:σ->bN} {s:σ} {Y:mg σ} {R:ux σ} {g:bL->bL->bL} (w:WPJ P C N Y R (g a b) Q s e H)
  (E:∀y z,Tz i fn h j y k z=g y z:=by intro y z;conv=>lhs;cbv):WPJ P C N Y R (Tz i fn h j a k b) Q s e H:=E a b ▸ w
end
section
variable {P:Program}
section
variable {σ:Type} {Y:mg σ} {s:σ} {e:Env} {H:aE} {Q:σ->Env->aE->Prop} {g x y n l:Nat} {r:List bA}
def RWJ.mJ:∀{r:List bA} {e:Env} {H:aE},(∀o,o∈r->∀e,ma o.op e=an)->RW P .any r e H (Q s)->RWJ P Y r s e H Q
 | [],e,H,_,h=>h
 | o::r,e,H,w,h=>by
  unfold RW at h;unfold RWJ;have k:=fun q f=>w q (List.mem_cons_of_mem _ f);split at h
  .rename_i z;rw[z,w o aK e];exact h.mono fun v i c=>RWJ.mJ k c
  .rename_i z;rw[z];exact RWJ.mJ k h
  .exact h.elim
def Ae (f:lk g e = .v0 aq) (i:lk x e = .c (.func (.yield l) #[] #[])) (h:Y s l [lk y e] H fun s' v k=>RWJ P Y r s' ((n,v)::e) k Q):RWJ P Y (dg n (.jz (.t x) [.t y]) g aq::r) s e H Q:=by
 have z:dD (dg n (.jz (.t x) [.t y]) g aq).g e=ak aq:=by simp[dg,dD,f]
 have w:ma (dg n (.jz (.t x) [.t y]) g aq).op e=ak (l,[lk y e]):=by simp[dg,ma,Opd.ev,i]
 unfold RWJ;rw[z,w];exact h
def yL (z:lk g e = .v0 ar) (h:RWJ P Y r s ((n,.bI [])::e) H Q):RWJ P Y (dg n o g aq::r) s e H Q:=by
 have k:dD (dg n o g aq).g e=ak ar:=by simp[dg,dD,z]
 unfold RWJ;rw[k];exact h
end
def zu (k:∀e,ma w e=an) (z:∀e,ma c e=an):∀o,o∈[dg f w g aq,d i c]->∀e,ma o.op e=an:=by
 intro o h e;simp only[X3,Yb,ZB] at h;rcases h with rfl | rfl
 .exact k e
 .exact z e
def j6 (f:cs.all b8=aq) (h:qV (fun a b=>bg (dT (ae H) 0 k [cs] a) b) e c):s5 n e (H++[ak ⟨k,0,[cs]⟩]) c (H++[an]):=by have z:=L6 (n:=n) (H:=H++[ak (⟨k,0,[cs]⟩:bC)]) (i:=ae H) (oi:=⟨k,0,[cs]⟩) bZ (by simp[f]);have w:(H++[ak (⟨k,0,[cs]⟩:bC)]).set (ae H) an=H++[an]:=aK;rw[w] at z;exact h.FB (bg.refl _) z
def jh {k:Nat} {H:aE} {cs:List AV}:bg (dT (ae H) 0 k [cs] (.ptr (ae H) 0 0 0)) (.fp cs 0):=by
 have:dT (ae H) 0 k [cs] (.ptr (ae H) 0 0 0) = .fp cs 0:=by simp[dT,oF,fX]
 rw[this];exact bg.refl _
def yx (a b:Au) (i k:Nat):Lp:=⟨i,-1,(af a.aM i ah).cQ*(ae b.aL:Int)+(k:Int),(af a.aM i ah).to*(ae b.aL:Int)+(k:Int)⟩
def yy (b:Au) (k i:Nat):Lp:=⟨-1,k,(i:Int)*(ae b.aL:Int)+(af b.aM k ah).cQ,(i:Int)*(ae b.aL:Int)+(af b.aM k ah).to⟩
def yz (a b:Au) (i k:Nat):Lp:=⟨i,k,(af a.aM i ah).cQ*(ae b.aL:Int)+(af b.aM k ah).cQ,(af a.aM i ah).to*(ae b.aL:Int)+(af b.aM k ah).to⟩
def A7 (a b:Au) (l:List Int) (i k:Nat):Bool:=l.contains (af a.aM i ah).label&&decide ((af a.aM i ah).label=(af b.aM k ah).label)
def jT (a b:Au) (l:List Int) (i k:Nat):List Lp:=if l.contains (af a.aM i ah).label then [] else (aC k).map (yx a b i)
def jU (b:Au) (l:List Int) (k i:Nat):List Lp:=if l.contains (af b.aM k ah).label then [] else (aC i).map (yy b k)
def jV (a b:Au) (l:List Int) (i k:Nat):List Lp:=((aC k).filter (A7 a b l i)).map (yz a b i)
def rL (a b:Au) (l:List Int) (i:Nat):List Lp:=jT a b l i (ae b.aL)
def pY (a b:Au) (l:List Int) (k:Nat):List Lp:=jU b l k (ae a.aL)
def nT (a b:Au) (l:List Int) (i:Nat):List Lp:=jV a b l i (ae b.aM)
def HU (a b:Au) (l:List Int) (i k:Nat):jV a b l i (k+1)=jV a b l i k++if A7 a b l i k=aq then [yz a b i k] else []:=by
 unfold jV;rw[Yr,aaO,Xu];congr 1;by_cases h:A7 a b l i k=aq
 .rw[W0 h,aaX,W0 h];rfl
 .rw[WX h,aaX,WX h];rfl
def HS (a b:Au) (l:List Int) (i k:Nat):jT a b l i (k+1)=jT a b l i k++if l.contains (af a.aM i ah).label=aq then [] else [yx a b i k]:=by
 unfold jT;split
 .rfl
 .rw[Yr,Xu];rfl
def HT (b:Au) (l:List Int) (k i:Nat):jU b l k (i+1)=jU b l k i++if l.contains (af b.aM k ah).label=aq then [] else [yy b k i]:=by
 unfold jU;split
 .rfl
 .rw[Yr,Xu];rfl
def bQ (a b:Au) (l:List Int):List Lp:=(aC (ae a.aM)).flatMap (rL a b l)++(aC (ae b.aM)).flatMap (pY a b l)++(aC (ae a.aM)).flatMap (nT a b l)
def YL (l0:Nat) (W:List Lp) (IJ:List Lp->aE->Prop) (SJ:aE->Prop):mg Bool:=fun s l args H K=>s=aq/\l=l0/\∃pre x,args=[.agg (tO x)]/\(pre++[x]) <+: W/\IJ pre H/\(∀H',IJ (pre++[x]) H'->K aq (.c (.bool aq)) H')/\(∀H',SJ H'->K ar (.c (.bool ar)) H')
def th {α:Type} {f:Nat->List α} {k n:Nat} (h:k<=n):(aC k).flatMap f <+: (aC n).flatMap f:=by obtain ⟨m,rfl⟩:=aaQ h;rw[abL,aaE];exact aaj _ _
def AZ {α:Type} {f:Nat->α} {k n:Nat} (h:k<=n):(aC k).map f <+: (aC n).map f:=by obtain ⟨m,rfl⟩:=aaQ h;rw[abL,Xu];exact aaj _ _
def Ds (h:k<=n):(aC k).filter f <+: (aC n).filter f:=by obtain ⟨m,rfl⟩:=aaQ h;rw[abL,aaO];exact aaj _ _
def kZ {α:Type} {f:Nat->List α} {k:Nat}:(aC (k+1)).flatMap f=(aC k).flatMap f++f k:=by rw[Yr,aaE];simp
def JIn (a:Au):Prop:=BH a.aM/\ae a.aL < 1000000/\∀x,x∈a.aM->(0<=x.cQ/\x.cQ < 1000000)/\(0<=x.to/\x.to < 1000000)
section
variable {C:Ctx Bool} {l0:Nat} {a b:Au} {l:List Int} {fl:Bool} {W:List Lp} {IJ:List Lp->aE->Prop} {SJ:aE->Prop}
abbrev R0:ux Bool:=fun _ _ _ _ _=>False
def ve:ROk prog C N R0:=fun _ _ _ _ _ h=>h.elim
abbrev Km (W:List Lp) (IJ:List Lp->aE->Prop) (SJ:aE->Prop):Bool->bN:=fun s x _ H=>(x = .normal\/x = .ret)/\(s=aq->IJ W H)/\(s=ar->SJ H)
def EP {i k n:Nat} (h:k<=n):jT a b l i k <+: jT a b l i n:=by
 unfold jT;split
 .exact List.prefix_refl _
 .exact AZ h
def ER {i k n:Nat} (h:i<=n):jU b l k i <+: jU b l k n:=by
 unfold jU;split
 .exact List.prefix_refl _
 .exact AZ h
def ES (h:k<=n):jV a b l i k <+: jV a b l i n:=(Ds h).map _
def Lf (U:YOk prog C 143 (YL l0 W IJ SJ)) (hn:∀pre H,IJ pre H->IJ pre (H++[an])) (V:JIn a) (E:JIn b) (hl:ae l < 1000000) {z:List Lp} (T:W=z++(aC (ae a.aM)).flatMap (nT a b l)) {H:aE} (h0:IJ z H) (er:Env) :
  WPJ prog C 143 (YL l0 W IJ SJ) R0 kI (Km W IJ SJ) aq ((0,.c (.func (.yield l0) #[] #[]))::(1,.fp (eU a b l fl) 0)::er) H:=by
 refine CZ ?_;refine Y ?_;refine iE U ve (fun m s e H=>s=aq/\∃i:Nat,i<=ae a.aM/\m=ae a.aM - i/\IJ (z++(aC i).flatMap (nT a b l)) H /\
  e=[(0,.c (.func (.yield l0) #[] #[])),(1,.fp (eU a b l fl) 0),(93,.seq 6 ar (a.aM.map fQ)),(94,.q0 (ae a.aM:Int)),(95,.q0 (i:Int))]) (n:=ae a.aM) ⟨rfl,0,aD,rfl,bk h0,rfl⟩ ?_;rintro n s _ H ⟨rfl,i,hi,a0,t,rfl⟩;by_cases B:(i:Int) < (ae a.aM:Int)
 .have e1:au .i64 ((i:Int)+1)=((i+1:Nat):Int):=by have:=V.1.1;rw[wrap_i64 aD aD];rfl
  have O:af a.aM i ah∈a.aM:=bS aD;have v:=V.2.2 _ O;have M:∀k,A7 a b l i k=(l.contains (af a.aM i ah).label&&decide ((af a.aM i ah).label=(af b.aM k ah).label)):=fun k=>rfl;have L:∀k,yz a b i k=⟨i,k,(af a.aM i ah).cQ*(ae b.aL:Int)+(af b.aM k ah).cQ,(af a.aM i ah).to*(ae b.aL:Int)+(af b.aM k ah).to⟩:=fun k=>rfl;generalize hx:af a.aM i ah=x at *;have j:IJ (z++(aC i).flatMap (nT a b l)) (H++[an]):=hn _ _ t;refine Y2 B hx ?_;refine ⟨aD,[(0,.c (.func (.yield l0) #[] #[])),(1,.fp (eU a b l fl) 0),(9,.q0 (i:Int)),(10,.fp (fQ x) 0),(93,.seq 6 ar (a.aM.map fQ)),(94,.q0 (ae a.aM:Int)),(95,.q0 (i:Int))],H++[an],?_,?_⟩
  .exact j6 (cs:=fQ x) rfl (.cons (bg.refl _) (.cons (bg.refl _) (.cons (bg.refl _) (.cons jh (.cons (bg.refl _) (.cons (bg.refl _) (.cons (bg.refl _) .nil)))))))
  refine Y ?_;refine iE U ve (fun m s e H=>s=aq/\∃k:Nat,k<=ae b.aM/\m=ae b.aM - k/\IJ (z++(aC i).flatMap (nT a b l)++jV a b l i k) H /\
   e=[(0,.c (.func (.yield l0) #[] #[])),(1,.fp (eU a b l fl) 0),(9,.q0 (i:Int)),(10,.fp (fQ x) 0),(93,.seq 6 ar (a.aM.map fQ)),(94,.q0 (ae a.aM:Int)),(95,.q0 (i:Int)),
    (102,.seq 6 ar (b.aM.map fQ)),(103,.q0 (ae b.aM:Int)),(104,.q0 (k:Int))]) (n:=ae b.aM) ⟨rfl,0,aD,rfl,by simpa[jV] using j,rfl⟩ ?_;clear j t H;rintro q s _ H ⟨rfl,k,hk,a1,t,rfl⟩;by_cases A:(k:Int) < (ae b.aM:Int)
  .have G:au .i64 ((k:Int)+1)=((k+1:Nat):Int):=by have:=E.1.1;rw[wrap_i64 aD aD];rfl
   have R:af b.aM k ah∈b.aM:=bS aD;have K:=E.2.2 _ R;have w:=HU a b l i k;rw[M k,L k] at w;generalize hy:af b.aM k ah=y at *;have j:=hn _ _ t;refine Y2 A hy ?_;refine ⟨aD,[(0,.c (.func (.yield l0) #[] #[])),(1,.fp (eU a b l fl) 0),(9,.q0 (i:Int)),(10,.fp (fQ x) 0),(11,.q0 (k:Int)),(12,.fp (fQ y) 0),(93,.seq 6 ar (a.aM.map fQ)),(94,.q0 (ae a.aM:Int)),(95,.q0 (i:Int)),
    (102,.seq 6 ar (b.aM.map fQ)),(103,.q0 (ae b.aM:Int)),(104,.q0 (k:Int))],H++[an],?_,?_⟩
   .exact j6 (cs:=fQ y) rfl (.cons (bg.refl _) (.cons (bg.refl _) (.cons (bg.refl _) (.cons (bg.refl _) (.cons (bg.refl _) (.cons jh (.cons (bg.refl _) (.cons (bg.refl _) (.cons (bg.refl _) (.cons (bg.refl _) (.cons (bg.refl _) (.cons (bg.refl _) .nil))))))))))))
   refine Y ?_;refine cX (Cg a b l fl x.label hl) ?_;have skip:(l.contains x.label&&decide (x.label=y.label))=ar->IJ (z++(aC i).flatMap (nT a b l)++jV a b l i (k+1)) (H++[an]):=fun hf=>by rw[w,hf];simpa using j
   by_cases F:l.contains x.label=aq
   .by_cases o:x.label=y.label
    .have f:(x.label=y.label)=True:=XO o;rw[F,XB o,W0 (by rfl)] at w;have p:z++(aC i).flatMap (nT a b l)++jV a b l i k++[⟨i,k,x.cQ*(ae b.aL:Int)+y.cQ,x.to*(ae b.aL:Int)+y.to⟩]=z++(aC i).flatMap (nT a b l)++jV a b l i (k+1):=by rw[w,<-XC]
     have N:z++(aC i).flatMap (nT a b l)++jV a b l i (k+1) <+: W:=by rw[T,XC];refine (Zl _).2 (aad ?_ (th (k:=i+1) aD));rw[kZ];exact (Zl _).2 (ES aD)
     refine Z2 F f ?_;refine cY (Ah a b l fl x.cQ y.cQ v.1 K.1 E.2.1) ?_;refine cY (Ah a b l fl x.to y.to v.2 K.2 E.2.1) ?_;refine Ae rfl rfl ⟨rfl,rfl,_,⟨i,k,x.cQ*(ae b.aL:Int)+y.cQ,x.to*(ae b.aL:Int)+y.to⟩,rfl,by rw[p];exact N,j,fun H' D=>RWJ.mJ (zu (fun _=>rfl) (fun _=>rfl)) ?_,fun H' D=>RWJ.mJ (zu (fun _=>rfl) (fun _=>rfl)) ?_⟩
     .rw[p] at D;refine Z1 G ?_;exact ⟨ae b.aM - (k+1),aD,k+1,aD,rfl,D,rfl⟩
     .refine Z0 ?_;exact ⟨.inr rfl,fun h=>by simp at h,fun _=>D⟩
    .have f:(x.label=y.label)=False:=Xh o;have S:=skip (by rw[Xx o];simp);refine Z2 F f ?_;refine yL rfl (RWJ.mJ (zu (fun _=>rfl) (fun _=>rfl)) ?_);refine Z1 G ?_;exact ⟨ae b.aM - (k+1),aD,k+1,aD,rfl,S,rfl⟩
   .have X:l.contains x.label=ar:=bk F;have S:=skip (by rw[X];rfl);refine Z1 X ?_;refine yL rfl (RWJ.mJ (zu (fun _=>rfl) (fun _=>rfl)) ?_);refine Z1 G ?_;exact ⟨ae b.aM - (k+1),aD,k+1,aD,rfl,S,rfl⟩
  .have J:k=ae b.aM:=aD;subst J;refine Y2 A e1 ?_;refine ⟨ae a.aM - (i+1),aD,i+1,aD,rfl,?_,rfl⟩;rw[kZ,<-XC];exact t
 .have I:i=ae a.aM:=aD;subst I;refine Y1 B ?_;exact ⟨.inl rfl,fun _=>by rw[T];exact t,fun h=>by simp at h⟩
def Le (D:YOk prog C 143 (YL l0 W IJ SJ)) (T:∀pre H,IJ pre H->IJ pre (H++[an])) (E:JIn a) (p:JIn b) (S:ae l < 1000000) {z:List Lp} (R:W=z++(aC (ae b.aM)).flatMap (pY a b l)++(aC (ae a.aM)).flatMap (nT a b l)) {H:aE} (h0:IJ z H) (er:Env) :
  WPJ prog C 143 (YL l0 W IJ SJ) R0 kG (Km W IJ SJ) aq ((0,.c (.func (.yield l0) #[] #[]))::(1,.fp (eU a b l fl) 0)::er) H:=by
 refine CZ ?_;refine Y ?_;refine iE D ve (fun m s e H=>s=aq/\∃i:Nat,i<=ae b.aM/\m=ae b.aM - i/\IJ (z++(aC i).flatMap (pY a b l)) H /\
  e=[(0,.c (.func (.yield l0) #[] #[])),(1,.fp (eU a b l fl) 0),(54,.seq 6 ar (b.aM.map fQ)),(55,.q0 (ae b.aM:Int)),(56,.q0 (i:Int))]) (n:=ae b.aM) ⟨rfl,0,aD,rfl,bk h0,rfl⟩ ?_;rintro n s _ H ⟨rfl,i,hi,a0,j,rfl⟩;by_cases K:(i:Int) < (ae b.aM:Int)
 .have V:au .i64 ((i:Int)+1)=((i+1:Nat):Int):=by have:=p.1.1;rw[wrap_i64 aD aD];rfl
  have N:af b.aM i ah∈b.aM:=bS aD;have o:=p.2.2 _ N;have J:∀k,yy b i k=⟨-1,i,(k:Int)*(ae b.aL:Int)+(af b.aM i ah).cQ,(k:Int)*(ae b.aL:Int)+(af b.aM i ah).to⟩:=fun k=>rfl;have M:=HT b l i;generalize hx:af b.aM i ah=x at *;have X:IJ (z++(aC i).flatMap (pY a b l)) (H++[an]):=T _ _ j;refine Y2 K hx ?_;refine ⟨aD,[(0,.c (.func (.yield l0) #[] #[])),(1,.fp (eU a b l fl) 0),(6,.q0 (i:Int)),(7,.fp (fQ x) 0),(54,.seq 6 ar (b.aM.map fQ)),(55,.q0 (ae b.aM:Int)),(56,.q0 (i:Int))],H++[an],?_,?_⟩
  .exact j6 (cs:=fQ x) rfl (.cons (bg.refl _) (.cons (bg.refl _) (.cons (bg.refl _) (.cons jh (.cons (bg.refl _) (.cons (bg.refl _) (.cons (bg.refl _) .nil)))))))
  refine Y ?_;refine iE D ve (fun m s e H=>s=aq/\∃k:Nat,k<=ae a.aL/\m=ae a.aL - k/\IJ (z++(aC i).flatMap (pY a b l)++jU b l i k) H /\
   e=[(0,.c (.func (.yield l0) #[] #[])),(1,.fp (eU a b l fl) 0),(6,.q0 (i:Int)),(7,.fp (fQ x) 0),(54,.seq 6 ar (b.aM.map fQ)),(55,.q0 (ae b.aM:Int)),(56,.q0 (i:Int)),
    (64,.q0 (ae a.aL:Int)),(65,.q0 (k:Int))]) (n:=ae a.aL) ⟨rfl,0,aD,rfl,by simpa[jU] using X,rfl⟩ ?_;clear X j H;rintro q s _ H ⟨rfl,k,hk,a1,j,rfl⟩;by_cases v:(k:Int) < (ae a.aL:Int)
  .have O:au .i64 ((k:Int)+1)=((k+1:Nat):Int):=by have:=E.2.1;rw[wrap_i64 aD aD];rfl
   have w:=M k;rw[J k] at w;have t:0<=(k:Int)/\(k:Int) < 1000000:=dp E.2.1;refine Y1 v ?_;refine cX (Cg a b l fl x.label S) ?_;by_cases B:l.contains x.label=aq
   .rw[W0 B,Xz] at w;refine Z1 B ?_;refine yL rfl (RWJ.mJ (zu (fun _=>rfl) (fun _=>rfl)) ?_);refine Z1 O ?_;exact ⟨ae a.aL - (k+1),aD,k+1,aD,rfl,by rw[w];exact j,rfl⟩
   .rw[WX B] at w;have F:l.contains x.label=ar:=bk B;have f:z++(aC i).flatMap (pY a b l)++jU b l i k++[⟨-1,i,(k:Int)*(ae b.aL:Int)+x.cQ,(k:Int)*(ae b.aL:Int)+x.to⟩]=z++(aC i).flatMap (pY a b l)++jU b l i (k+1):=by rw[w,<-XC]
    have L:z++(aC i).flatMap (pY a b l)++jU b l i (k+1) <+: W:=by rw[R,XC,XC];refine (Zl _).2 (aad (aad ?_ (th (k:=i+1) aD)) (aaj _ _));rw[kZ];exact (Zl _).2 (ER aD)
    refine Z1 F ?_;refine cY (Ah a b l fl k x.cQ t o.1 p.2.1) ?_;refine cY (Ah a b l fl k x.to t o.2 p.2.1) ?_;refine Ae rfl rfl ⟨rfl,rfl,_,⟨-1,i,(k:Int)*(ae b.aL:Int)+x.cQ,(k:Int)*(ae b.aL:Int)+x.to⟩,rfl,by rw[f];exact L,j,fun U A=>RWJ.mJ (zu (fun _=>rfl) (fun _=>rfl)) ?_,fun U A=>RWJ.mJ (zu (fun _=>rfl) (fun _=>rfl)) ?_⟩
    .rw[f] at A;refine Z1 O ?_;exact ⟨ae a.aL - (k+1),aD,k+1,aD,rfl,A,rfl⟩
    .refine Z0 ?_;exact ⟨.inr rfl,fun h=>by simp at h,fun _=>A⟩
  .have I:k=ae a.aL:=aD;subst I;refine Y2 v V ?_;refine ⟨ae b.aM - (i+1),aD,i+1,aD,rfl,?_,rfl⟩;rw[kZ,<-XC];exact j
 .have G:i=ae b.aM:=aD;subst G;refine Y1 K ?_;exact Lf D T E p S R j _
def Ld (B:YOk prog C 143 (YL l0 (bQ a b l) IJ SJ)) (R:∀pre H,IJ pre H->IJ pre (H++[an])) (D:JIn a) (o:JIn b) (O:ae l < 1000000) {H:aE} (V:IJ [] H) (U:Env) :
  WPJ prog C 143 (YL l0 (bQ a b l) IJ SJ) R0 gI (Km (bQ a b l) IJ SJ) aq ((0,.c (.func (.yield l0) #[] #[]))::(1,.fp (eU a b l fl) 0)::U) H:=by
 refine CZ ?_;refine Y ?_;refine iE B ve (fun m s e H=>s=aq/\∃i:Nat,i<=ae a.aM/\m=ae a.aM - i/\IJ ((aC i).flatMap (rL a b l)) H /\
  e=[(0,.c (.func (.yield l0) #[] #[])),(1,.fp (eU a b l fl) 0),(15,.seq 6 ar (a.aM.map fQ)),(16,.q0 (ae a.aM:Int)),(17,.q0 (i:Int))]) (n:=ae a.aM) ⟨rfl,0,aD,rfl,bk V,rfl⟩ ?_;rintro n s _ H ⟨rfl,i,hi,a0,f,rfl⟩;by_cases v:(i:Int) < (ae a.aM:Int)
 .have T:au .i64 ((i:Int)+1)=((i+1:Nat):Int):=by have:=D.1.1;rw[wrap_i64 aD aD];rfl
  have M:af a.aM i ah∈a.aM:=bS aD;have j:=D.2.2 _ M;have I:∀k,yx a b i k=⟨i,-1,(af a.aM i ah).cQ*(ae b.aL:Int)+(k:Int),(af a.aM i ah).to*(ae b.aL:Int)+(k:Int)⟩:=fun k=>rfl;have L:=HS a b l i;generalize hx:af a.aM i ah=x at *;have K:IJ ((aC i).flatMap (rL a b l)) (H++[an]):=R _ _ f;refine Y2 v hx ?_;refine ⟨aD,[(0,.c (.func (.yield l0) #[] #[])),(1,.fp (eU a b l fl) 0),(3,.q0 (i:Int)),(4,.fp (fQ x) 0),(15,.seq 6 ar (a.aM.map fQ)),(16,.q0 (ae a.aM:Int)),(17,.q0 (i:Int))],H++[an],?_,?_⟩
  .exact j6 (cs:=fQ x) rfl (.cons (bg.refl _) (.cons (bg.refl _) (.cons (bg.refl _) (.cons jh (.cons (bg.refl _) (.cons (bg.refl _) (.cons (bg.refl _) .nil)))))))
  refine Y ?_;refine iE B ve (fun m s e H=>s=aq/\∃k:Nat,k<=ae b.aL/\m=ae b.aL - k/\IJ ((aC i).flatMap (rL a b l)++jT a b l i k) H /\
   e=[(0,.c (.func (.yield l0) #[] #[])),(1,.fp (eU a b l fl) 0),(3,.q0 (i:Int)),(4,.fp (fQ x) 0),(15,.seq 6 ar (a.aM.map fQ)),(16,.q0 (ae a.aM:Int)),(17,.q0 (i:Int)),
    (25,.q0 (ae b.aL:Int)),(26,.q0 (k:Int))]) (n:=ae b.aL) ⟨rfl,0,aD,rfl,by simpa[jT] using K,rfl⟩ ?_;clear K f H;rintro q s _ H ⟨rfl,k,hk,a1,f,rfl⟩;by_cases t:(k:Int) < (ae b.aL:Int)
  .have N:au .i64 ((k:Int)+1)=((k+1:Nat):Int):=by have:=o.2.1;rw[wrap_i64 aD aD];rfl
   have z:=L k;rw[I k] at z;have p:0<=(k:Int)/\(k:Int) < 1000000:=dp o.2.1;refine Y1 t ?_;refine cX (Cg a b l fl x.label O) ?_;by_cases A:l.contains x.label=aq
   .rw[W0 A,Xz] at z;refine Z1 A ?_;refine yL rfl (RWJ.mJ (zu (fun _=>rfl) (fun _=>rfl)) ?_);refine Z1 N ?_;exact ⟨ae b.aL - (k+1),aD,k+1,aD,rfl,by rw[z];exact f,rfl⟩
   .rw[WX A] at z;have E:l.contains x.label=ar:=bk A;have w:(aC i).flatMap (rL a b l)++jT a b l i k++[⟨i,-1,x.cQ*(ae b.aL:Int)+(k:Int),x.to*(ae b.aL:Int)+(k:Int)⟩]=(aC i).flatMap (rL a b l)++jT a b l i (k+1):=by rw[z,<-XC]
    have J:(aC i).flatMap (rL a b l)++jT a b l i (k+1) <+: bQ a b l:=by unfold bQ;rw[XC];refine aad (aad ?_ (th (k:=i+1) aD)) (aaj _ _);rw[kZ];exact (Zl _).2 (EP aD)
    refine Z1 E ?_;refine cY (Ah a b l fl x.cQ k j.1 p o.2.1) ?_;refine cY (Ah a b l fl x.to k j.2 p o.2.1) ?_;refine Ae rfl rfl ⟨rfl,rfl,_,⟨i,-1,x.cQ*(ae b.aL:Int)+(k:Int),x.to*(ae b.aL:Int)+(k:Int)⟩,rfl,by rw[w];exact J,f,fun S X=>RWJ.mJ (zu (fun _=>rfl) (fun _=>rfl)) ?_,fun S X=>RWJ.mJ (zu (fun _=>rfl) (fun _=>rfl)) ?_⟩
    .rw[w] at X;refine Z1 N ?_;exact ⟨ae b.aL - (k+1),aD,k+1,aD,rfl,X,rfl⟩
    .refine Z0 ?_;exact ⟨.inr rfl,fun h=>by simp at h,fun _=>X⟩
  .have G:k=ae b.aL:=aD;subst G;refine Y2 t T ?_;refine ⟨ae a.aM - (i+1),aD,i+1,aD,rfl,?_,rfl⟩;rw[kZ];exact f
 .have F:i=ae a.aM:=aD;subst F;refine Y1 v ?_;exact Le B R D o O rfl f _
end
def NV (a b:Au) (l:List Int) (fl:Bool):a9 prog 51 [.agg (eU a b l fl)] (.fn 75 [] [.fp (eU a b l fl) 0]):=by refine pw func51 ?_;refine Y ?_;exact aV rfl rfl
def bY (v:AV) (xs:List (List AV)):AV->AV:=match v with
 | .sl k id ver _ _=>fX id ver k xs
 | _=>id
def jF (v:AV) (xs:List (List AV)):AV->AV
 | .agg cs => .agg (cs.map (bY v xs))
 | a=>bY v xs a
def jo (v:AV) (xs:List (List AV)):AV->AV
 | .bI cs => .bI (cs.map (jF v xs))
 | a=>jF v xs a
def Ll (H:aE):AV->aE
 | .sl _ id _ _ _=>H.set id an
 | _=>H
def fK:AV->Bool
 | .fn _ _ _=>ar
 | .agg _=>ar
 | .bI _=>ar
 | _=>aq
def oY:AV->Bool
 | .agg cs=>cs.all fK
 | a=>fK a
def yD:AV->Bool
 | .bI cs=>cs.all oY
 | a=>oY a
def Np {k id ver i n:Nat} {xs:List (List AV)} {a:AV} (h:yD a=aq):jo (.sl k id ver i n) xs a=dT id ver k xs a:=by
 have y:∀b,oY b=aq->jF (.sl k id ver i n) xs b=oF id ver k xs b:=fun b x=>by
  cases b with
  | fn=>exact absurd x (by simp[oY,fK])
  | bI=>exact absurd x (by simp[oY,fK])
  | _=>rfl
 cases a with
 | bI z =>
  show AV.bI _=AV.bI _;congr 1;exact YE fun b x=>y b (W6.1 h b x)
 | fn=>exact absurd h (by simp[yD,oY,fK])
 | _=>rfl
def ON {v:AV} {xs:List (List AV)} (hv:∀k id ver i n,v ≠ .sl k id ver i n):bY v xs=id:=by cases v<;>first | rfl | exact absurd rfl (hv _ _ _ _ _)
def Gs {v:AV} {xs:List (List AV)} (hv:∀k id ver i n,v ≠ .sl k id ver i n) (a:AV):jo v xs a=a:=by
 have h:=ON (xs:=xs) hv;have y:∀b,jF v xs b=b:=fun b=>by cases b<;>simp[jF,h]
 cases a with
 | bI x =>
  show AV.bI (x.map (jF v xs))=_;rw[show jF v xs=id from funext y,List.map_id]
 | _=>simp[jo,jF,h]
def Acc.CL {n n0 k:Nat} {H:aE} {v:AV} {xs:List (List AV)} (h:Acc n0 H k v xs) (z:xs.all (fun x=>x.all b8)=aq):WkS n H (Ll H v) (fun a b=>yD a=aq/\b=jo v xs a):=by
 cases h with
 | nil=>exact (lz n H).sub fun a b ⟨_,h⟩=>by rw[h,Gs (by intros;simp)];exact bg.refl _
 | sq=>exact (lz n H).sub fun a b ⟨_,h⟩=>by rw[h,Gs (by intros;simp)];exact bg.refl _
 | sl c y=>exact (lZ (ob:=⟨k,_,xs⟩) y z).sub fun a b ⟨w,h⟩=>by rw[h,Np w]
def Acc.Ey {n0 k:Nat} {H:aE} {v:AV} {xs:List (List AV)} (h:Acc n0 H k v xs):bg (bY v xs v) (.seq k ar xs)/\fK (bY v xs v)=aq/\fK v=aq/\aF (bY v xs v)=[]:=by
 cases h with
 | nil=>exact ⟨dX k,rfl,rfl,rfl⟩
 | sq=>exact ⟨fun _ _ _ y=>y.Kg (.full k xs),rfl,rfl,rfl⟩
 | sl z w =>
  rename_i x ver;have e:bY (.sl k x ver 0 (ae xs)) xs (.sl k x ver 0 (ae xs)) = .seq k ar xs:=by simp[bY,fX]
  rw[e];exact ⟨bg.refl _,rfl,rfl,rfl⟩
def gU {v u:AV} {xs:List (List AV)} (h:∀id,id∈aF v->id∉aF u):bY v xs u=u:=by
 cases v with
 | sl k id ver i n =>
  have x:=h id (by simp[aF]);cases u<;>first | rfl | (simp[aF] at x;simp[bY,fX,Xg x])
 | _=>rfl
def Acc.B3 {n0 k z:Nat} {H:aE} {v u:AV} {xs ys:List (List AV)} (h:Acc n0 H z u ys) (_hv:Acc n0 H k v xs) (b:∀id,id∈aF v->id∉aF u):Acc n0 (Ll H v) z u ys:=by
 cases v with
 | sl k id ver i n =>
  have a:=b id (by simp[aF]);exact h.aQ (ids:=[id]) ⟨by simp[Ll],fun j _ x w=>by simp at x;exact aW (Xg x)⟩ (fun j x y=>by simp at y;subst y;exact a x)
 | _=>exact h
def a9.borrow (h:a9 P f k (.c v)) (S:k.all bP=aq) (hw:WkS (ae H) H H2 R) (D:ae k=ae args)
  (hr:∀(j:Nat) a t,args[j]?=ak a->k[j]?=ak t->R a t):bK P f args H (.c v) H:=by
 have ⟨N,O⟩:=h;refine ⟨N,fun I β w A s z=>?_⟩;have ⟨p,a3,s2,hR,hx⟩:=hw I β w s;have y:bJ p a3 k A:=by refine ⟨D ▸ z.1,fun j t v q K=>?_⟩;have T:j < ae args:=D ▸ (W9.1 q).1;have r:=W7 T;exact hR _ _ _ (hr j _ _ r q) (z.2 j _ v r K)
 have s0:Sim p eW [] w:=⟨s2.ef,fun id m h=>by simp at h,fun id a0 m a1 B B' h=>by simp at h,fun id ver B h=>by simp[eW] at h,fun id m n h=>by simp at h⟩;have l:bJ p eW k A:=⟨y.1,fun j a v e G=>(y.2 j a v e G).bP (dY S e) eW⟩;refine (O p eW w A s0 l).mono fun en w' V=>?_;have ⟨rv,I',a4,q,x,s',W⟩:=V;have X:∀b,¬Own eW [] b:=by rintro b ⟨id,m,B,h,_⟩;simp at h
 have i:=fun b g=>(x.frame b g (X b)).1;refine ⟨rv,I,β,q,⟨.refl _,.refl _,WY _,x.size,x.os,x.tape,x.output,fun b g _=>⟨i b g,fun _=>rfl⟩,fun b g => .inl g⟩,⟨fun b o v g=>?_,fun id m h=>?_,s.inj,s.gw,s.ver⟩,by obtain ⟨K,r⟩:=W.c7;rw[K];exact .c r⟩
 .have ⟨c,E,J,F,k2⟩:=s.ef b o v g;exact ⟨c,E,J,i b (Yl.1 F).1 ▸ F,k2⟩
 .have ⟨B,L,M,C⟩:=s.obj id m h;exact ⟨B,L,M,C.aR (.refl _) (.refl _) (fun U=>i _ (C.lt U)) (fun _ _=>rfl)⟩
end
end Go.Fx
