/- A state of the product is allowed or initial exactly when its two parts are; ProductStates returns true whatever its arguments are: part 7 of 10. No condition. -/
import Derived.Test.YtkpkkhepecgeiaaGreatBf
import Derived.Test.YtkpkkhepecgeiaaGreatBd
import Derived.Test.YtkpkkhepecgeiaaGreatBe
set_option linter.all false
set_option maxRecDepth 8000
set_option maxHeartbeats 9000000
set_option autoImplicit true
set_option relaxedAutoImplicit true
namespace Go.Fx
open Go.Proofs.Tryz
open List renaming length->ae,getD->af,replicate->aA,eraseIdx->aB,range->aC
open Inhabited renaming default->ah
open Option renaming some->ak,none->an
open Bool renaming true->aq,false->ar
open Go.IntKind renaming wrap->au
open Int renaming natAbs->ay,toNat->az
section
variable {P:Program}
def mX {H:aE} {k:Nat} {v:AV} {xs:List (List AV)} (h:SlV H k v xs) (A:HG v) (B:ae xs < 4000000000) (y:List AV) (X:(∀x,x∈xs->x.all (ck (ae H))=aq)/\y.all (ck (ae H))=aq) :
  ∃a ver m,(∀K,c6 k v [y] H K=K (.sl k a ver 0 (ae xs+1)) m)/\SlL m k a ver (xs++[y])/\nN (ae H) (aF v)=[a]/\aT H m (aF v)/\(a∈aF v\/a=ae H)/\(m.drop (ae H)).all (eI (ae H))=aq/\(∀id,id∈aF v->id=a):=by
 have c:∀(e:List (List AV)),(∀x,x∈e->x.all (ck (ae H))=aq)->((H++[ak (⟨k,0,e⟩:bC)]).drop (ae H)).all (eI (ae H))=aq:=by intro e q;rw[aar];simp only[Yu,Zv,X4,eI,W6];intro x r;exact W6.1 (q x r)
 have b:∀x,x∈xs++[y]->x.all (ck (ae H))=aq:=by
  intro x q;rcases Yc.1 q with n | n
  .exact X.1 x n
  .simp at n;rw[n];exact X.2
 cases h with
 | nil =>
  refine ⟨ae H,0,H++[ak ⟨k,0,[y]⟩],fun K=>?_,⟨[],bk bZ⟩,rfl,aT.app _ _ _,.inr rfl,c _ b,by simp[aF]⟩;rw[DM];simp
 | seq =>
  rename_i f;have W:=A;subst W;refine ⟨ae H,0,H++[ak ⟨k,0,xs++[y]⟩],fun K=>?_,⟨[],bk bZ⟩,rfl,aT.app _ _ _,.inr rfl,c _ b,by simp[aF]⟩;have:hU k H (.seq k aq xs) [y]=ak (.sl k (ae H) 0 0 (ae xs+1),H++[ak ⟨k,0,xs++[y]⟩]):=by show (if k=k/\ae xs+1<=4294967296 then _ else an)=_;rw[W0 ⟨rfl,aD⟩];rfl
  simp only[c6,this];rfl
 | sl p =>
  rename_i id ver l;have i:=aU p;have g:∀o,((H.set id o).drop (ae H)).all (eI (ae H))=aq:=fun o=>by rw[Xo aK];rfl
  have t:∀o,aT H (H.set id o) [id]:=fun o=>⟨aK,fun j _ s w=>by simp at s;exact aW (Xg s)⟩;cases l with
  | nil =>
   rw[Xz] at p;refine ⟨id,ver+1,H.set id (ak ⟨k,ver+1,xs++[y]⟩),fun K=>?_,⟨[],by rw[bz i];simp⟩,rfl,t _,.inl (by simp[aF]),g _,by simp[aF]⟩;rw[qX p aK];refine propext ⟨fun h=>?_,fun h=>⟨rfl,cE,?_⟩⟩
   .simpa using h.2.2
   .simpa using h
  | cons z l =>
   refine ⟨id,ver,H.set id (ak ⟨k,ver,xs++[y]++l⟩),fun K=>?_,⟨l,by rw[bz i]⟩,rfl,t _,.inl (by simp[aF]),g _,by simp[aF]⟩;have:hU k H (.sl k id ver 0 (ae xs)) [y]=ak (.sl k id ver 0 (ae xs+1),H.set id (ak ⟨k,ver,xs++[y]++l⟩)):=by rw[Gc,p];simp only[Xr];rw[WX aK,W0 ⟨trivial,aK,trivial⟩];congr 3;simp
   simp only[c6,this];rfl
def bG.KN (h:bG H t D T) (x:aT H a (aF D.vg)):bG a t D {T with aN:=[]}:=by have bU:=fun s w y k=>h.sep s .g w y k;refine ⟨?_,h.aI.aQ x (fun y k=>by rw[h.iv] at k;simp at k),h.iv,h.aJ.aQ x (bU .b aK),h.out.aQ x (bU .o aK),h.cells.aQ x (bU .c aK),h.cl,fun i e=>(h.rws i e).aQ x (bU (.r i) aK),⟨fun z=>absurd rfl z,fun y k=>Yf (h.aN.2 y k) x.1⟩,⟨h.live.1,h.live.2.1,fun z=>by simp at z⟩,h.top,h.sep⟩;rw[x.2 t (aU h.bX) (h.top .g)];exact h.bX
def bG.Ny (h:bG H t D T) (E:¬dV t D a) (L:n=ae l) (i:ig t D .c ca) (X:a≠ca) (hm:m=ae T.cells+1)
  (N:aH K t 0=ak ⟨6,0,[[.q0 (T.n:Int),D.rv,D.vb,D.vo,.sl 1 ca cver 0 m,D.vg]]⟩) (M:SlL K 4 a ver (l.map qC)) (O:SlL K 1 ca cver ((D.aX.map fun v=>[v])++[[.sl 4 a ver 0 n]])) (A:aT H K [t,ca]) :
  bG K t {D with vc := .sl 1 ca cver 0 m,aX:=D.aX++[.sl 4 a ver 0 n]} {T with cells:=T.cells++[l]}:=by
 have p:=h.cl;have bU:∀s,s ≠ .c->∀w,w∈aF (D.v s)->w∉[t,ca]:=fun s F w k hm=>by
  simp at hm;rcases hm with rfl | rfl
  .exact h.top s k
  .exact i.ne h F k
 have C:∀j,af (D.aX++[AV.sl 4 a ver 0 n]) j .aY=if j < ae D.aX then af D.aX j .aY else if j=ae D.aX then .sl 4 a ver 0 n else .aY:=by
  intro j;simp only[af];rcases Yt j (ae D.aX) with y | y | y
  .rw[Xc y,W0 y]
  .subst y;simp
  .rw[Xv cE,WX aD,WX aD];rfl
 have J:∀j,af (T.cells++[l]) j []=if j < ae T.cells then af T.cells j [] else if j=ae T.cells then l else []:=by
  intro j;simp only[af];rcases Yt j (ae T.cells) with y | y | y
  .rw[Xc y,W0 y]
  .subst y;simp
  .rw[Xv cE,WX aD,WX aD];rfl
 have e:∀s w,w∈aF (({D with vc := .sl 1 ca cver 0 m,aX:=D.aX++[.sl 4 a ver 0 n]}:ba).v s)->(s = .c/\w=ca)\/(s = .r (ae D.aX)/\w=a)\/(s ≠ .c/\w∈aF (D.v s)):=by
  intro s w k;cases s with
  | c=>left;exact ⟨rfl,by simpa[ba.v,aF] using k⟩
  | r j =>
   right;simp only[ba.v,C] at k;split at k
   .exact .inr ⟨aK,by simpa[ba.v] using k⟩
   .split at k
    .rename_i y;left;exact ⟨by rw[y],by simpa[aF] using k⟩
    .simp[aF] at k
  | b=>exact .inr (.inr ⟨aK,k⟩)
  | o=>exact .inr (.inr ⟨aK,k⟩)
  | g=>exact .inr (.inr ⟨aK,k⟩)
 refine ⟨N,h.aI.aQ A (fun w k=>by rw[h.iv] at k;simp at k),h.iv,h.aJ.aQ A (bU .b aK),h.out.aQ A (bU .o aK),.inr ⟨ca,cver,?_,?_⟩,by simp[p],fun j y=>?_,h.aN.aQ A (bU .g aK),⟨fun j y=>?_,h.live.2⟩,fun s hm=>?_,fun s I q w k W=>?_⟩
 .simp[hm,p]
 .rw[Xu];exact O
 .simp only[Xn,XG,XQ] at y;show SlV K 4 (af (D.aX++[AV.sl 4 a ver 0 n]) j .aY) ((af (T.cells++[l]) j []).map qC);rw[C,J,p];by_cases x:j < ae T.cells
  .rw[W0 x,W0 x];exact (h.rws j x).aQ A (bU (.r j) aK)
  .rw[WX x,WX x,W0 aD,W0 aD];exact M.cr (bk L)
 .simp only[Xn,XG,XQ] at y;show ru (af (D.aX++[AV.sl 4 a ver 0 n]) j .aY) (af (T.cells++[l]) j []);rw[C,J,p];by_cases x:j < ae T.cells
  .rw[W0 x,W0 x];exact h.live.1 j x
  .rw[WX x,WX x,W0 aD,W0 aD];exact oJ
 .rcases e s t hm with ⟨rfl,z⟩ | ⟨rfl,z⟩ | ⟨_,z⟩
  .exact i.nt h z.symm
  .exact E (.inl z.symm)
  .exact h.top s z
 .rcases e s w k with ⟨rfl,z⟩ | ⟨rfl,z⟩ | ⟨G,z⟩<;>rcases e I w W with ⟨rfl,f⟩ | ⟨rfl,f⟩ | ⟨B,f⟩
  .exact q rfl
  .exact X (f ▸ z)
  .exact i.ne h B (z ▸ f)
  .exact X (z ▸ f)
  .exact q rfl
  .exact E (.inr ⟨I,z ▸ f⟩)
  .exact i.ne h G (f ▸ z)
  .exact E (.inr ⟨s,f ▸ z⟩)
  .exact h.sep s I q w z f
end
section
variable {P:Program} {N:Nat}
def bW.mono (h:bW P b i e H K) (z:∀v y,K v y->K' v y):bW P b i e H K':=by
 unfold bW at h ⊢;split at h
 .split at h
  .have ⟨Post,k,x⟩:=h;exact ⟨Post,k,fun v y f=>z _ _ (x v y f)⟩
  .have ⟨v,y,k,x⟩:=h;exact ⟨v,y,k,z _ _ x⟩
  .have ⟨v,k,x⟩:=h;exact ⟨v,k,z _ _ x⟩
  .have ⟨v,k,x⟩:=h;exact ⟨v,k,z _ _ x⟩
  .have ⟨v,a,g,w,k,x,c⟩:=h;exact ⟨v,a,g,w,k,x,z _ _ c⟩
 .split at h
  .exact z _ _ h
  .exact h
def RW.mono {y:Md}:∀{ops:List bA} {e:Env} {H:aE} {Q k:Env->aE->Prop},RW P y ops e H Q->(∀e H,Q e H->k e H)->RW P y ops e H k
 | [],e,H,Q,k,h,x=>x _ _ h
 | o::r,e,H,Q,k,h,x=>by
  unfold RW at h ⊢;split at h
  .exact h.mono fun v w z=>RW.mono z x
  .exact RW.mono h x
  .exact h
def RWC.mono:∀{ops:List bA} {i:Nat} {e:Env} {H:aE} {acc:List (Nat × List Nat × List Nat)} {Q k:Env->aE->List (Nat × List Nat × List Nat)->Prop},RWC P i ops e H acc Q->(∀e H a,Q e H a->k e H a)->RWC P i ops e H acc k
 | [],i,e,H,acc,Q,k,h,x=>x _ _ _ h
 | o::r,i,e,H,acc,Q,k,h,x=>by
  unfold RWC at h ⊢;split at h
  .exact h.mono fun v z y=>⟨y.1,RWC.mono y.2 x⟩
  .exact RWC.mono h x
  .exact h
def WP.mono:∀{c:bL} {Q y:bN} {e:Env} {H:aE},WP P N c Q e H->(∀x e H,Q x e H->y x e H)->WP P N c y e H
 | .skip,Q,y,e,H,h,k=>k _ _ _ h
 | .ki aR ops,Q,y,e,H,h,k=>RW.mono h fun e H h=>k _ _ _ h
 | .tp aR w ops,Q,y,e,H,h,k=>RW.mono h fun e H h=>k _ _ _ h
 | .pX aR w dn ops,Q,y,e,H,h,k=>RWC.mono h fun e H a h=>⟨h.1,k _ _ _ h.2⟩
 | .rI aR w dn ops,Q,y,e,H,h,k=>RWC.mono h fun e H a h=>⟨h.1,k _ _ _ h.2⟩
 | .vm aR w ops r,Q,y,e,H,h,k=>RW.mono h fun e H h=>RW.mono h fun e H h=>k _ _ _ h
 | .seq a b,Q,y,e,H,h,k=>WP.mono (c:=a) h fun x e H h=>by
  cases x with
  | normal=>exact WP.mono (c:=b) h k
  | _=>exact k _ _ _ h
 | .cond c a b,Q,y,e,H,h,k=>by have ⟨t,m,n,o⟩:=h;exact ⟨t,m,fun f=>WP.mono (n f) k,fun f=>WP.mono (o f) k⟩
 | .block id a,Q,y,e,H,h,k=>WP.mono (c:=a) h fun x e H h=>by
  cases x with
  | exit i =>
   revert h
   show (if i=id then _ else _)->if i=id then _ else _
   by_cases z:i=id
   .rw[W0 z,W0 z];exact k _ _ _
   .rw[WX z,WX z];exact k _ _ _
  | _=>exact k _ _ _ h
 | .loop aR a,Q,y,e,H,h,k=>fun p=>(h p).mono k
 | .exit id,Q,y,e,H,h,k=>k _ _ _ h
 | .wk a,Q,y,e,H,h,k=>by obtain ⟨j,g,q,h⟩:=h;exact ⟨j,g,q,WP.mono (c:=a) h k⟩
 | .label l,Q,y,e,H,h,k=>k _ _ _ h
 | .ret,Q,y,e,H,h,k=>k _ _ _ h
 | .rJ _ _ _ _,Q,y,e,H,h,k=>h.elim
 | .vZ _ _ _ _,Q,y,e,H,h,k=>h.elim
 | .bad,Q,y,e,H,h,k=>h.elim
def WP.use {c:bL} {Q y:bN} {e z:Env} {H k:aE} (h:WP P N c Q z k) (a:e=z) (w:H=k) (b:∀x e H,Q x e H->y x e H):WP P N c y e H:=by subst a w;exact h.mono b
end
section
variable {P:Program}
def Tab.lI (T:Tab):List Q:=(aA (ae T.out+2) ah).set (ae T.out+1) Q.one
def Tab.jC (T:Tab):Tab:={T with out:=T.out++[T.bF],aN:=T.lI}
def Tab.my (T:Tab) (i:Nat):List Q:=af T.cells i []++[if T.cx (af T.aJ i 0)=aq then Q.one else ah]
def Tab.gS (T:Tab) (c:Nat):List (List Q):=(aC (ae T.cells)).map fun i=>if i < c then T.my i else af T.cells i []
def Tab.ext (T:Tab):Tab:={T.jC with cells:=T.gS (ae T.cells)++[T.aN++[ah]],aJ:=T.aJ++[-1]}
def fG {T:Tab} {c:Nat}:ae (T.gS c)=ae T.cells:=by simp[Tab.gS]
def Ct {T:Tab} {c i:Nat} (h:i < ae T.cells):af (T.gS c) i []=if i < c then T.my i else af T.cells i []:=by simp[Tab.gS,af,h]
def HA {T:Tab}:T.gS 0=T.cells:=by apply ZL (by simp[Tab.gS]);intro i k h;simp[Tab.gS,af,h]
def Hz {T:Tab} {c:Nat} (z:c < ae T.cells):T.gS (c+1)=(T.gS c).set c (T.my c):=by
 unfold Tab.gS;apply ZL aK;intro i x y;simp only[aaZ,aaN,aa0];by_cases h:c=i
 .subst h;simp
 .rw[WX h];by_cases k:i < c
  .rw[W0 aD,W0 k]
  .rw[WX aD,WX k]
def SlV.OA {H:aE} {k:Nat} {v:AV} {xs:List (List AV)} (h:SlV H k v xs):Fx.ck (ae H) v=aq:=by
 cases h with
 | nil=>rfl
 | seq=>rfl
 | sl h=>simp[Fx.ck];exact aU h
def xP (n:Nat) (a:Q):(qC a).all (ck n)=aq:=by show (ck n (.q0 (zv a.top))&&(ck n (zd a.top)&&(ck n (.q0 (zv a.low))&&(ck n (zd a.low)&&aq))))=aq;rw[rW,rW];rfl
def DG (a:Q):(qC a).all cN=aq:=by show (cN (.q0 (zv a.top))&&(cN (zd a.top)&&(cN (.q0 (zv a.low))&&(cN (zd a.low)&&aq))))=aq;rw[ME,ME];rfl
structure lE (H:aE) (t:Nat) (D:ba) (a ver:Nat) (l:List Q):Prop where
 sl:SlL H 4 a ver (l.map qC)
 out:¬dV t D a
def lE.lt (h:lE H t D a ver l):a < ae H:=by obtain ⟨⟨_,h⟩,_⟩:=h;exact aU h
def lE.aQ (h:lE H t D a ver l) (k:aT H x ids) (y:a∉ids):lE x t D a ver l:=⟨h.sl.aQ k y,h.out⟩
def lE.eX (h:lE H t D a ver l) (o:bp H x t D D'):lE x t D' a ver l :=
 ⟨by obtain ⟨z,y⟩:=h.sl;exact ⟨z,by rw[o.aR a h.lt h.out];exact y⟩,fun k=>(o.new a k).elim h.out (fun w=>dp h.lt)⟩
def KU (hw:eg T) (H:c < ae T.cells) (b5:T.my c=af T.cells c []++[q])
  (p:bG g t h {T.jC with cells:=T.gS c}) (oq:bp V g t D0 h) (U:gk V g t h x (.ptr t 0 0 0)) (S:lE g t h E gv (T.aN++[ah])) (c0:h.vb=vb) (hO:aH g b 0=ak ⟨4,0,[qC q]⟩) :
  WP prog K gX (fun ex e G=>ex = .normal/\∃D,bG G t D {T.jC with cells:=T.gS (c+1)}/\bp V G t D0 D/\gk V G t D x (.ptr t 0 0 0)/\lE G t D E gv (T.aN++[ah])/\D.vb=vb /\
    e=[(1,.ptr x 0 0 0),(4,.q0 (w:Int)),(7,.q0 T.bF),(8,.sl 4 E gv 0 (ae T.aN+1)),(127,vb),(128,.q0 (ae T.cells:Int)),(129,.q0 (c:Int))])
   ((1,.ptr x 0 0 0)::(4,.q0 (w:Int))::(7,.q0 T.bF)::(8,.sl 4 E gv 0 (ae T.aN+1))::(9,.q0 (c:Int))::(11,.ptr b 0 0 0)::(127,vb)::(128,.q0 (ae T.cells:Int))::(129,.q0 (c:Int))::er) g:=by
 refine uz ?_;have c5:=hw.wl;have b8:=Hz H;have b3:∀K,bq g b 0 K=K ⟨4,0,[qC q]⟩:=aP hO;have ⟨k,cver,m,c1,b6⟩:=p.cells.live (fun h0=>by have F:=ZW ae h0;simp only[W4,XQ] at F;have:=p.cl;rw[fG] at this;omega);have W:=p.cl;rw[fG] at W;rw[W4,W] at m;have B:k∈aF (h.v .c):=by simp only[ba.v,m];simp[aF]
 have hT:∀K,bq g t 0 K=K ⟨6,0,[[.q0 (T.n:Int),h.rv,h.vb,h.vo,.sl 1 k cver 0 (ae T.cells),h.vg]]⟩:=aP (by rw[<-m];exact p.bX);have hX:=U.eT;have A:c < ae (T.gS c):=by rw[fG];exact H
 have L:af (T.gS c) c []=af T.cells c []:=by rw[Ct H,WX (by omega)]
 have rws:=p.rws c A;have lv:=(p.live.1 c A).1;simp only[L] at rws;have b4:(h.aX.map fun v=>[v])[c]?=ak [af h.aX c .aY]:=by simp[af,show c < ae h.aX by omega]
 have ⟨p3,r1,r2⟩:=p.cells.cr.read b4;rw[m] at r1;have J:=hw.row c H;have ⟨a,ver,G,a1,a2,a3,a4,R,a6,a7⟩:=mX rws lv (by rw[W4,J];omega) (qC q) ⟨fun y hy=>by obtain ⟨b,_,rfl⟩:=Xf.1 hy;exact xP _ b,xP _ q⟩;rw[W4] at a1;have a9:=rws.cell;generalize X:af h.aX c .aY=rv at *;have own:ig t h (.r c) a:=by
  rcases R with f | f
  .left;simp only[ba.v,X];exact f
  .right;intro b7;have:=p.lt b7;omega
 have act:a≠k:=by rintro rfl;exact own.ne p (s' := .c) aK B
 have a0:a≠t:=own.nt p;have ax:a≠x:=by
  rintro rfl;rcases R with f | f
  .exact U.out (.inr ⟨.r c,by simp only[ba.v,X];exact f⟩)
  .have:=U.lt;omega
 have ag:E≠a:=by
  rintro rfl;rcases R with f | f
  .exact S.out (.inr ⟨.r c,by simp only[ba.v,X];exact f⟩)
  .have:=S.lt;omega
 have c2:E≠k:=fun he=>S.out (.inr ⟨.c,he ▸ B⟩);have a8:(a=x)=False:=Xh ax;have Gg:(a=t)=False:=Xh a0;have ka:aT g G [a]:=a4.mono (fun C z=>by simp;exact a7 C z);have I:SlL G 1 k cver (h.aX.map fun v=>[v]):=(show SlL g 1 k cver _ from ⟨c1,b6⟩).aQ ka (bk (Xg act));have ⟨p6,u1,_,_,uw⟩:=I.rw (i:=c) (n:=ae T.cells) cE cE (by intro y hy;obtain ⟨b,_,rfl⟩:=Xf.1 hy;rfl);have ⟨O,w1,w2,w3,w4⟩:=uw (.sl 4 a ver 0 (ae (af T.cells c [])+1)) rfl rfl;have c3:True:=trivial;have b1:List.drop (ae G) O=[]:=Xo aD;have kk:aT g O [a,k]:=⟨by rw[w3];exact ka.1,fun C f F w=>by simp at F;rw[w4 C F.2,ka.2 C f (by simpa using F.1)]⟩;have b9:SlL O 4 a ver (((af T.cells c [])++[q]).map qC):=by obtain ⟨tl,hq⟩:=a2;exact ⟨tl,by rw[w4 a act,hq];simp⟩
 have N:=p.JG (r:=c) (a:=a) (ver:=ver) (n:=ae (af T.cells c [])+1) (l:=af T.cells c []++[q]) (ca:=k) (cver:=cver) A own aK (by rw[W];exact m) b9 w2 kk;have M:dV t h a\/ae g<=a:=by
  rcases R with f | f
  .exact .inl (.inr ⟨.r c,by simp only[ba.v,X];exact f⟩)
  .right;omega
 have o:bp g O t h {h with aX:=h.aX.set c (.sl 4 a ver 0 (ae (af T.cells c [])+1))}:=bp.put kk (by rintro C z;simp at z;rcases z with rfl | rfl;exact M;exact .inl (.inr ⟨.c,B⟩))
  (lL (s0 := .r c) (a:=a) (fun s hs=>by
   cases s with
   | r j=>(have:j≠c:=by simpa using hs);(simp only[ba.v];exact dd this)
   | _=>rfl) (fun C z=>by simp only[ba.v] at z;rw[dS (by omega)] at z;simpa[aF] using z) M);have c4:((AV.agg (qC q)).cells.all cN&&(AV.agg (qC q)).cells.length==4)=aq:=by show ((qC q).all cN&&_)=aq;rw[DG];rfl
 have b0:p6=p3:=by have:=(u1 .i64 (·=p3)).symm.trans (r1 .i64 (·=p3));simpa using this
 subst b0;have b2:((4==4&&aq)=aq)=True:=aS;simp only[go_sem,↓reduceIte,WY,Xb,fL,aaV,Zm,aaf,X6,hT,hX,r1,r2,b3,a1,a3,a6,w1,b1,a8,Gg,b2];refine ⟨_,?_,oq.trans o,U.eX o,S.eX o,c0⟩;rw[b8,b5];exact N
def DN:qS k a (.sl k (ae H) 0 0 1) (H++[ak ⟨k,0,[y]⟩]) K=c6 k a [y] (H++[ak ⟨k,0,[y]⟩]) K:=by
 have:ik k (H++[ak ⟨k,0,[y]⟩]) (.sl k (ae H) 0 0 1)=ak [y]:=by simp only[ik,bZ,Xr];simp
 simp only[qS,this,Xr,c6]
def SlN.gr {H:aE} {k:Nat} {v:AV} {xs:List (List AV)} (h:SlN H k v xs):HG v:=by rcases h with ⟨rfl,_⟩ | ⟨_,_,rfl,_⟩<;>exact trivial
def KT (hw:eg T)
  (f2:eg T.ext) (hi:w < ae T.ext.cells) (hp:(af (af T.ext.cells w []) (ae T.ext.out - 1+1) ah).top≠0) (hd:kx n (T.ext.cu w (ae T.ext.out - 1)) T3 r) (hf:uq T3 T' res)
  (h:bG H t D T.jC) (ho:bp R H t D0 D) (J:gk R H t D x (.ptr t 0 0 0)) (U:lE H t D A F (T.aN++[ah])) (e5:A≠x) (e4:dV t D0 A\/ae R<=A) :
  WP prog K j8 (ky [.t 2,.t 3] (r8 R t D0 T' res)) [(1,.ptr x 0 0 0),(4,.q0 (w:Int)),(7,.q0 T.bF),(8,.sl 4 A F 0 (ae T.aN+1))] H:=by
 refine uz ?_;have h4:=hw.wl;have h0:=hw.ml;have c1:=hw.bl;have e6:=hw.nl;have e7:=hw.rl;have hT:∀K,bq H t 0 K=K ⟨6,0,[[.q0 (T.n:Int),D.rv,D.vb,D.vo,D.vc,D.vg]]⟩:=aP h.bX;have hX:=J.eT;have d6:∀K,fM D.vb K=K (.q0 (ae T.cells:Int)):=fun K=>by rw[h.aJ.cr.jn,W4];show K (.q0 (ae T.aJ:Int))=_;rw[c1]
 refine Z ?_;refine bE (fun m e B=>∃c i,c<=ae T.cells/\m=ae T.cells - c/\bG B t i {T.jC with cells:=T.gS c}/\bp R B t D0 i/\gk R B t i x (.ptr t 0 0 0)/\lE B t i A F (T.aN++[ah])/\i.vb=D.vb /\
  e=[(1,.ptr x 0 0 0),(4,.q0 (w:Int)),(7,.q0 T.bF),(8,.sl 4 A F 0 (ae T.aN+1)),(127,D.vb),(128,.q0 (ae T.cells:Int)),(129,.q0 (c:Int))]) (n:=ae T.cells)
  ⟨0,D,XE _,rfl,by rw[HA];exact h,ho,J,U,rfl,rfl⟩ ?_;clear h ho J U hT hX d6;rintro m _ B ⟨c,i,hc,rfl,h,ho,J,U,c7,rfl⟩;have h6:=J.lt;have f0:=aU h.bX;have c8:x≠t:=fun he=>J.out (.inl he);have g9:=U.lt;by_cases c2:(c:Int) < (ae T.cells:Int)
 .have e0:c < ae T.cells:=aD;have e1:=ws c;obtain ⟨p,p1,p2⟩:=h.aJ.cr.read (eR (show c < ae T.aJ by omega));rw[c7] at p1;have f7:∀(ag:Bool) (n:Nat) (K:AV->Prop),LdP ag n p B K=gn ag [.q0 (af T.aJ c 0)] 0 n K:=p2;have c3:T.my c=af T.cells c []++[if T.cx (af T.aJ c 0)=aq then Q.one else ah]:=rfl;have go:∀(cq:Q) (er:Env),T.my c=af T.cells c []++[cq]->WP prog K gX (fun ex e G=>ex = .normal/\∃k,bG G t k {T.jC with cells:=T.gS (c+1)}/\bp R G t D0 k/\gk R G t k x (.ptr t 0 0 0)/\lE G t k A F (T.aN++[ah])/\k.vb=D.vb /\
    e=[(1,.ptr x 0 0 0),(4,.q0 (w:Int)),(7,.q0 T.bF),(8,.sl 4 A F 0 (ae T.aN+1)),(127,D.vb),(128,.q0 (ae T.cells:Int)),(129,.q0 (c:Int))])
    ((1,.ptr x 0 0 0)::(4,.q0 (w:Int))::(7,.q0 T.bF)::(8,.sl 4 A F 0 (ae T.aN+1))::(9,.q0 (c:Int))::(11,.ptr (ae B) 0 0 0)::(127,D.vb)::(128,.q0 (ae T.cells:Int))::(129,.q0 (c:Int))::er) (B++[ak ⟨4,0,[qC cq]⟩]):=fun cq er e3=>by have kq:=aT.app B [ak (⟨4,0,[qC cq]⟩:bC)] [];exact KU hw e0 e3 (h.aQ kq aK) (ho.trans (bp.aQ kq)) (J.aQ kq aK) (U.aQ kq aK) c7 bZ
  have hz:(B++[ak (⟨4,0,[[.q0 0,.nil,.q0 0,.nil]]⟩:bC)])=B++[ak ⟨4,0,[qC ah]⟩]:=by rw[tY]
  have k0:=aT.app B [ak (⟨4,0,[qC ah]⟩:bC)] [];have t0:=h.aQ k0 aK;have d8:=(J.aQ k0 aK).eT;generalize hv:af T.aJ c 0=v at *;refine Z5 c2 p1 f7 hz d8 ?_;refine dK (oQ t0 e6 e7) ?_;have e9:({T.jC with cells:=T.gS c}:Tab).cx v=T.cx v:=rfl;rw[e9];cases c5:T.cx v with
  | true =>
   refine Z ?_;refine aG (lR 1 aS) rfl (aZ _) ?_;refine Z ?_;have g0:=go Q.one [] (by rw[c3,c5,W0 rfl]);rw[show qC Q.one=[.q0 (zv 1),zd 1,.q0 (zv 0),zd 0] from rfl] at g0;refine WP.use g0 rfl rfl ?_;rintro _ e G ⟨rfl,k,g1,g2,g3,g4,g5,rfl⟩;refine Z ?_;exact ⟨ae T.cells - (c+1),aD,c+1,k,aD,rfl,g1,g2,g3,g4,g5,rfl⟩
  | false =>
   refine Z ?_;refine WP.use (go ah [(137,.v0 ar)] (by rw[c3,c5,WX (by decide)])) rfl rfl ?_;rintro _ e G ⟨rfl,k,g1,g2,g3,g4,g5,rfl⟩;refine Z ?_;exact ⟨ae T.cells - (c+1),aD,c+1,k,aD,rfl,g1,g2,g3,g4,g5,rfl⟩
 .have e2:c=ae T.cells:=aD;subst e2;have hT:∀K,bq B t 0 K=K ⟨6,0,[[.q0 (T.n:Int),i.rv,i.vb,i.vo,i.vc,i.vg]]⟩:=aP h.bX;have hX:=J.eT;have gb:=h.aJ.gr;have cb:=h.aJ.cr.cell;have ⟨a,ver,G,a1,a2,a3,a4,S,a6,a7⟩:=mX h.aJ.cr gb (by rw[W4];show ae T.aJ < _;omega) (ec (-1)) ⟨fun y hy=>by obtain ⟨b,_,rfl⟩:=Xf.1 hy;rfl,rfl⟩;have b7:∀K,c6 1 i.vb [[.q0 (-1)]] B K=K (.sl 1 a ver 0 (ae T.cells+1)) G:=fun K=>by have:=a1 K;rw[W4] at this;rw[show ae T.cells=ae T.aJ from c1.symm];exact this
  have own:ig t i .b a:=by
   rcases S with z | z
   .exact .inl z
   .right;intro N;have:=h.lt N;omega
  have E:a≠t:=own.nt h;have ax:a≠x:=by
   rintro rfl;rcases S with z | z
   .exact J.out (.inr ⟨.b,z⟩)
   .omega
  have V:A≠a:=by
   rintro rfl;rcases S with z | z
   .exact U.out (.inr ⟨.b,z⟩)
   .omega
  have a0:(a=x)=False:=Xh ax;have ka:aT B G [a]:=a4.mono (fun q f=>by simp;exact a7 q f);have tG:aH G t 0=ak ⟨6,0,[[.q0 (T.n:Int),i.rv,i.vb,i.vo,i.vc,i.vg]]⟩:=by rw[ka.2 t f0 (by simpa using Xg E)];exact h.bX
  have a9:∀K,bq G t 0 K=K ⟨6,0,[[.q0 (T.n:Int),i.rv,i.vb,i.vo,i.vc,i.vg]]⟩:=aP tG;obtain ⟨W,M⟩:∃W,W=G.set t (ak (⟨6,0,[[.q0 (T.n:Int),i.rv,.sl 1 a ver 0 (ae T.cells+1),i.vo,i.vc,i.vg]]⟩:bC)):=⟨_,rfl⟩;have d3:aH W t 0=ak ⟨6,0,[[.q0 (T.n:Int),i.rv,.sl 1 a ver 0 (ae T.cells+1),i.vo,i.vc,i.vg]]⟩:=by rw[M,bz (aU tG)]
  have d0:ae W=ae G:=by rw[M,Xa]
  have b6:∀q,q≠t->∀w,aH W q w=aH G q w:=fun q z w=>by rw[M,aW (Xg z)]
  have b8:List.drop (ae G) W=[]:=Xo aD;have kk:aT B W [t,a]:=⟨by rw[d0];exact ka.1,fun q z L w=>by simp at L;rw[b6 q L.1,ka.2 q z (by simpa using L.2)]⟩;have c4:SlL W 1 a ver ((T.aJ++[-1]).map ec):=by obtain ⟨tl,hq⟩:=a2;exact ⟨tl,by rw[b6 a E,hq,Xu];rfl⟩
  have X:=h.EW (a:=a) (ver:=ver) (n:=ae T.cells+1) (l:=T.aJ++[-1]) own cE d3 c4 kk;have O:dV t i a\/ae B<=a:=by
   rcases S with z | z
   .exact .inl (.inr ⟨.b,z⟩)
   .right;omega
  have C:bp B W t i {i with vb := .sl 1 a ver 0 (ae T.cells+1)}:=bp.put kk (by rintro q f;simp at f;rcases f with rfl | rfl;exact .inl (.inl rfl);exact O)
   (lL (s0 := .b) (a:=a) (fun s U=>by cases s<;>first | rfl | exact absurd rfl U) (fun q f=>by simpa[ba.v,aF] using f) O);obtain ⟨k,b2⟩:∃k:ba,k={i with vb := .sl 1 a ver 0 (ae T.cells+1)}:=⟨_,rfl⟩;have d1:k.rv=i.rv:=by rw[b2]
  rw[<-b2] at X C;have x2:=J.eX C;have s2:=U.eX C;have o2:=ho.trans C;have d9:=x2.eT;simp only[go_sem,↓reduceIte,Nat.reduceLeDiff,Xb,fL,Zm,aaf,X6,c2,hT,hX,b7,a3,a6,a9,b8,a0,<-M];clear M b2 hT hX a1 b7 a2 a3 a4 S a6 a7 a9 tG d3 d0 b6 b8 kk c4 ka own O E ax a0 V h J U ho C gb cb d1;have h5:({T.jC with cells:=T.gS (ae T.cells),aJ:=T.aJ++[-1]}:Tab).cells.length=ae T.cells:=fG;have g6:=aU X.bX;have d7:∀K,bq W t 0 K=K ⟨6,0,[[.q0 (T.n:Int),k.rv,k.vb,k.vo,k.vc,k.vg]]⟩:=aP X.bX;have b9:=s2.lt;have f9:=x2.lt;have gc:=X.cells.gr;have cc:=X.cells.cr.cell;have b4:=X.cl;rw[fG] at b4;obtain ⟨G3,b3⟩:∃G3,G3=W++[ak (⟨1,0,[[.sl 4 A F 0 (ae T.aN+1)]]⟩:bC)]:=⟨_,rfl⟩;have k3:aT W G3 []:=by rw[b3];exact aT.app _ _ _
  have l3:ae G3=ae W+1:=by rw[b3];simp
  have t3:=X.aQ k3 aK;have s3:=s2.aQ k3 aK;have x3:=x2.aQ k3 aK;have g8:=x3.eT;have ⟨a,ver,G4,a1,a2,a3,a4,S,a6,a7⟩:=mX t3.cells.cr gc (by rw[W4,b4];omega) [.sl 4 A F 0 (ae T.aN+1)] ⟨fun y hy=>by obtain ⟨b,hb,rfl⟩:=Xf.1 hy;obtain ⟨j,hj,rfl⟩:=Yz.1 hb;have b5:j < ae T.cells:=aD;have:=(t3.rws j (by rw[fG];exact b5)).OA;rw[show af k.aX j .aY=k.aX[j] by simp[af,hj]] at this;simp[this],by simp[ck];omega⟩;rw[W4,b4] at a1;have own:ig t k .c a:=by
   rcases S with z | z
   .exact .inl z
   .right;intro N;have:=X.lt N;omega
  have E:a≠t:=own.nt X;have ax:a≠x:=by
   rintro rfl;rcases S with z | z
   .exact x2.out (.inr ⟨.c,z⟩)
   .omega
  have V:A≠a:=by
   rintro rfl;rcases S with z | z
   .exact s2.out (.inr ⟨.c,z⟩)
   .omega
  have d5:A≠t:=fun he=>s2.out (.inl he);have a0:(a=x)=False:=Xh ax;have f6:(ae W=x)=False:=Xh aD;have f5:(ae W=t)=False:=Xh aD;have ka:aT G3 G4 [a]:=a4.mono (fun q f=>by simp;exact a7 q f);have tG:aH G4 t 0=ak ⟨6,0,[[.q0 (T.n:Int),k.rv,k.vb,k.vo,k.vc,k.vg]]⟩:=by rw[ka.2 t (by omega) (by simpa using Xg E)];exact t3.bX
  have a9:∀K,bq G4 t 0 K=K ⟨6,0,[[.q0 (T.n:Int),k.rv,k.vb,k.vo,k.vc,k.vg]]⟩:=aP tG;obtain ⟨I,a8⟩:∃I,I=G4.set t (ak (⟨6,0,[[.q0 (T.n:Int),k.rv,k.vb,k.vo,.sl 1 a ver 0 (ae T.cells+1),k.vg]]⟩:bC)):=⟨_,rfl⟩;have f8:aH I t 0=ak ⟨6,0,[[.q0 (T.n:Int),k.rv,k.vb,k.vo,.sl 1 a ver 0 (ae T.cells+1),k.vg]]⟩:=by rw[a8,bz (aU tG)]
  have f4:ae I=ae G4:=by rw[a8,Xa]
  have d2:∀q,q≠t->∀w,aH I q w=aH G4 q w:=fun q z w=>by rw[a8,aW (Xg z)]
  have d4:List.drop (ae G4) I=[]:=Xo aD;have g7:(List.drop (ae W) (W++[ak (⟨1,0,[[.sl 4 A F 0 (ae T.aN+1)]]⟩:bC)])).all (eI (ae W))=aq:=by rw[aar];simp[eI,ck];exact b9
  have f3:aT G3 I [t,a]:=⟨by rw[f4];exact ka.1,fun q z L w=>by simp at L;rw[d2 q L.1,ka.2 q z (by simpa using L.2)]⟩;have kk:aT W I [t,a]:=(k3.mono aK).trans f3;have f1:SlL I 1 a ver ((k.aX.map fun v=>[v])++[[.sl 4 A F 0 (ae T.aN+1)]]):=by obtain ⟨tl,hq⟩:=a2;exact ⟨tl,by rw[d2 a E,hq]⟩
  have e8:SlL I 4 A F ((T.aN++[ah]).map qC):=s2.sl.aQ kk (by simp;exact ⟨d5,V⟩);have b1:=X.Ny (a:=A) (ver:=F) (n:=ae T.aN+1) (ca:=a) (cver:=ver) (m:=ae T.cells+1) (l:=T.aN++[ah]) s2.out aK own V (by rw[fG]) f8 e8 f1 kk;have O:dV t k a\/ae W<=a:=by
   rcases S with z | z
   .exact .inl (.inr ⟨.c,z⟩)
   .right;omega
  simp only[go_sem,↓reduceIte,Xb,d9,d7,DN];rw[<-b3];refine ⟨by simp[b9],?_⟩;simp only[go_sem,↓reduceIte,Nat.reduceLeDiff,Xb,fL,Zm,aaf,X6,a1,a3,a6,a9,<-a8,d4,a0,f6,f5];obtain ⟨D3,c0⟩:∃D3:ba,D3={k with vc := .sl 1 a ver 0 (ae T.cells+1),aX:=k.aX++[.sl 4 A F 0 (ae T.aN+1)]}:=⟨_,rfl⟩;have c9:∀q,dV t D3 q->dV t k q\/q=a\/q=A:=by
   rintro q (rfl | ⟨s,f⟩)
   .exact .inl (.inl rfl)
   .rw[c0] at f;cases s with
    | c=>right;left;simpa[ba.v,aF] using f
    | r j =>
     simp only[ba.v,af] at f;rcases Xe j (ae k.aX) with hj | hj
     .rw[Xc hj] at f;exact .inl (.inr ⟨.r j,f⟩)
     .rcases Xe (ae k.aX) j with b5 | b5
      .rw[Xv (by simp;omega)] at f;simp[aF] at f
      .have:j=ae k.aX:=aD;subst this;right;right;simpa[aF] using f
    | b=>exact .inl (.inr ⟨.b,f⟩)
    | o=>exact .inl (.inr ⟨.o,f⟩)
    | g=>exact .inl (.inr ⟨.g,f⟩)
  have b0:dV t D0 a\/ae R<=a:=by
   rcases O with z | z
   .exact o2.new a z
   .exact .inr (XX o2.len z)
  rw[<-c0] at b1;have o5:bp R I t D0 D3:=⟨XX o2.len kk.1,fun q z L w=>by
   rw[kk.2 q (Yf z o2.len) (by
    simp;refine ⟨fun he=>L (.inl he),fun he=>?_⟩;subst he;rcases b0 with h3 | h3
    .exact L h3
    .omega),o2.aR q z L],fun q f=>by
   rcases c9 q f with z | rfl | rfl
   .exact o2.new q z
   .exact b0
   .exact e4⟩;have x5:gk R I t D3 x (.ptr t 0 0 0):=⟨by
   rw[kk.2 x f9 (by simp;exact ⟨c8,Xg ax⟩)];exact x2.ob,x2.new,fun N=>by
   rcases c9 x N with z | z | z
   .exact x2.out z
   .exact ax z.symm
   .exact e5 z.symm⟩;exact M7 (T1:=T.ext) f2 hi (by simp[Tab.ext,Tab.jC]) hp hd hf b1 o5 x5
def M6 (V:eg T)
  (f3:eg T.ext) (hi:w < ae T.ext.cells) (hp:(af (af T.ext.cells w []) (ae T.ext.out - 1+1) ah).top≠0) (hd:kx n (T.ext.cu w (ae T.ext.out - 1)) T3 r) (hf:uq T3 T' res)
  (h:bG H t D T) (ho:bp H0 H t D0 D) (hx:gk H0 H t D x (.ptr t 0 0 0)) :
  WP prog K kB (ky [.t 2,.t 3] (r8 H0 t D0 T' res)) ((1,.ptr x 0 0 0)::(4,.q0 (w:Int))::er) H:=by
 refine uz ?_;have h3:=V.wl;have g7:=V.ml;have g4:=V.bl;have g8:=V.nl;have g9:=V.rl;have g6:=V.gl;have h4:=hx.lt;have h0:=aU h.bX;have g0:x≠t:=fun M=>hx.out (.inl M);have hT:∀K,bq H t 0 K=K ⟨6,0,[[.q0 (T.n:Int),D.rv,D.vb,D.vo,D.vc,D.vg]]⟩:=aP h.bX;have hX:=hx.eT;have d9:∀K,fM D.rv K=K (.q0 (ae T.aI:Int)):=fun K=>by rw[h.aI.jn,W4]
 have e1:au .i64 ((T.n:Int)+(ae T.aI:Int))=T.bF:=by rw[wrap_i64 aD aD];rfl
 have c1:=h.aN.cr aD;have ⟨q,gv,E,a1,a2,a3,a4,a5,a6,a7⟩:=mX c1 h.live.2.1 (by rw[W4];omega) (qC ah) ⟨fun y hy=>by obtain ⟨b,_,rfl⟩:=Xf.1 hy;exact xP _ b,xP _ _⟩;rw[W4] at a1;rw[tY] at a1;have g5:((AV.agg [.q0 0,.nil,.q0 0,.nil]).cells.all cN&&(AV.agg [.q0 0,.nil,.q0 0,.nil]).cells.length==4)=aq:=aS;refine Z5 hT hX d9 e1 a1 ?_;refine ⟨aS,?_⟩;have f0:aT H E (aF D.vg):=a4;have I:=h.KN f0;have L:ig t D .g q:=by
  rcases a5 with c | c
  .exact .inl c
  .right;intro B;have:=h.lt B;omega
 have b8:∀s,s ≠ .g->q∉aF (D.v s):=fun s U=>L.ne h U;have O:q≠t:=L.nt h;have gx:q≠x:=by
  rintro rfl;rcases a5 with c | c
  .exact hx.out (.inr ⟨.g,c⟩)
  .omega
 have k1:aT H E [q]:=a4.mono (fun f k=>by simp;exact a7 f k);have b0:dV t D q\/ae H<=q:=by
  rcases a5 with c | c
  .exact .inl (.inr ⟨.g,c⟩)
  .right;omega
 have o1:bp H E t D D:=bp.put k1 (by rintro f k;simp at k;subst k;exact b0) (fun f k => .inl k);have x1:=hx.eX o1;have e7:=x1.eT;have e0:∀K,bq E t 0 K=K ⟨6,0,[[.q0 (T.n:Int),D.rv,D.vb,D.vo,D.vc,D.vg]]⟩:=aP I.bX;have c3:=aU I.bX;have d4:q < ae E:=by obtain ⟨tl,hq⟩:=a2;exact aU hq
 have h6:=x1.lt;have d5:=I.out.gr;have g1:=I.out.cr.cell;have ⟨a,ver,J,b1,b2,b3,b4,b5,b6,b7⟩:=mX I.out.cr d5 (by rw[W4];show ae T.out < _;omega) (ec T.bF) ⟨fun y hy=>by obtain ⟨b,_,rfl⟩:=Xf.1 hy;rfl,rfl⟩;have d1:∀K,c6 1 D.vo [[.q0 T.bF]] E K=K (.sl 1 a ver 0 (ae T.out+1)) J:=fun K=>by have:=b1 K;rw[W4] at this;exact this
 have own:ig t D .o a:=by
  rcases b5 with c | c
  .exact .inl c
  .right;intro B;have:=I.lt B;omega
 have a9:a≠t:=own.nt I;have ax:a≠x:=by
  rintro rfl;rcases b5 with c | c
  .exact x1.out (.inr ⟨.o,c⟩)
  .omega
 have a8:q≠a:=by
  rintro rfl;rcases b5 with c | c
  .exact b8 .o aK c
  .omega
 have d0:(a=x)=False:=Xh ax;have ka:aT E J [a]:=b4.mono (fun f k=>by simp;exact b7 f k);have tG:aH J t 0=ak ⟨6,0,[[.q0 (T.n:Int),D.rv,D.vb,D.vo,D.vc,D.vg]]⟩:=by rw[ka.2 t c3 (by simpa using Xg a9)];exact I.bX
 have e6:∀K,bq J t 0 K=K ⟨6,0,[[.q0 (T.n:Int),D.rv,D.vb,D.vo,D.vc,D.vg]]⟩:=aP tG;obtain ⟨e,F⟩:∃e,e=J.set t (ak (⟨6,0,[[.q0 (T.n:Int),D.rv,D.vb,.sl 1 a ver 0 (ae T.out+1),D.vc,D.vg]]⟩:bC)):=⟨_,rfl⟩;have f7:aH e t 0=ak ⟨6,0,[[.q0 (T.n:Int),D.rv,D.vb,.sl 1 a ver 0 (ae T.out+1),D.vc,D.vg]]⟩:=by rw[F,bz (aU tG)]
 have f4:ae e=ae J:=by rw[F,Xa]
 have c7:∀f,f≠t->∀w,aH e f w=aH J f w:=fun f c w=>by rw[F,aW (Xg c)]
 have d2:List.drop (ae J) e=[]:=Xo aD;have kk:aT E e [t,a]:=⟨by rw[f4];exact ka.1,fun f c h2 w=>by simp at h2;rw[c7 f h2.1,ka.2 f c (by simpa using h2.2)]⟩;have f1:SlL e 1 a ver ((T.out++[T.bF]).map ec):=by obtain ⟨tl,hq⟩:=b2;exact ⟨tl,by rw[c7 a a9,hq,Xu];rfl⟩
 have j:=I.EX (a:=a) (ver:=ver) (n:=ae T.out+1) (l:=T.out++[T.bF]) own aK f7 f1 kk;have c5:dV t D a\/ae E<=a:=by
  rcases b5 with c | c
  .exact .inl (.inr ⟨.o,c⟩)
  .right;omega
 have o3:bp E e t D {D with vo := .sl 1 a ver 0 (ae T.out+1)}:=bp.put kk (by rintro f k;simp at k;rcases k with rfl | rfl;exact .inl (.inl rfl);exact c5)
  (lL (s0 := .o) (a:=a) (fun s U=>by cases s<;>first | rfl | exact absurd rfl U) (fun f k=>by simpa[ba.v,aF] using k) c5);have d6:SlL e 4 q gv ((T.aN++[ah]).map qC):=by rw[Xu];exact SlL.aQ a2 kk (by simp;exact ⟨O,a8⟩)
 obtain ⟨z,R⟩:∃z:ba,z={D with vo := .sl 1 a ver 0 (ae T.out+1)}:=⟨_,rfl⟩;have v3:z.rv=D.rv/\z.vb=D.vb/\z.vo = .sl 1 a ver 0 (ae T.out+1)/\z.vc=D.vc/\z.vg=D.vg:=by rw[R];exact ⟨rfl,rfl,rfl,rfl,rfl⟩
 have ⟨v1,v2,v4,v5,v6⟩:=v3;have b9:∀s,s ≠ .g->q∉aF (z.v s):=fun s U N=>by
  by_cases M:s = .o
  .subst M;simp only[ba.v,v4,aF,ZR] at N;exact a8 N
  .have:z.v s=D.v s:=by rw[R];cases s<;>first | rfl | exact absurd rfl M
   rw[this] at N;exact b8 s U N
 rw[<-R] at j o3;have x3:=x1.eX o3;have e8:=x3.eT;have h7:=x3.lt;have g3:q < ae e:=Yf d4 kk.1;have e3:∀K,bq e t 0 K=K ⟨6,0,[[.q0 (T.n:Int),z.rv,z.vb,.sl 1 a ver 0 (ae T.out+1),z.vc,z.vg]]⟩:=aP (by rw[<-v4];exact j.bX);simp only[go_sem,↓reduceIte,Nat.reduceLeDiff,Xb,fL,Zm,aaf,X6,e7,e0,d1,b3,b6,e6,<-F,d2,d0];have c4:=aU j.bX;have e2:au .i64 (((ae T.out+1:Nat):Int)+1)=((ae T.out+2:Nat):Int):=by rw[wrap_i64 aD aD];rfl
 obtain ⟨W,A⟩:∃W,W=e++[ak (⟨4,0,aA (ae T.out+2) [.q0 0,.nil,.q0 0,.nil]⟩:bC)]:=⟨_,rfl⟩;have k4:aT e W []:=by rw[A];exact aT.app _ _ _
 have l4:ae W=ae e+1:=by rw[A];simp
 have f8:aH W t 0=ak ⟨6,0,[[.q0 (T.n:Int),z.rv,z.vb,.sl 1 a ver 0 (ae T.out+1),z.vc,z.vg]]⟩:=by rw[k4.2 t c4 aK,<-v4];exact j.bX
 have e4:∀K,bq W t 0 K=K ⟨6,0,[[.q0 (T.n:Int),z.rv,z.vb,.sl 1 a ver 0 (ae T.out+1),z.vc,z.vg]]⟩:=aP f8;have g2:(List.drop (ae e) W).all (eI (ae e))=aq:=by rw[A,aar];simp[eI,ck]
 obtain ⟨X,G⟩:∃X,X=W.set t (ak (⟨6,0,[[.q0 (T.n:Int),z.rv,z.vb,.sl 1 a ver 0 (ae T.out+1),z.vc,.sl 4 (ae e) 0 0 (ae T.out+2)]]⟩:bC)):=⟨_,rfl⟩;have f9:aH X t 0=ak ⟨6,0,[[.q0 (T.n:Int),z.rv,z.vb,.sl 1 a ver 0 (ae T.out+1),z.vc,.sl 4 (ae e) 0 0 (ae T.out+2)]]⟩:=by rw[G,bz aD]
 have h5:ae X=ae W:=by rw[G,Xa]
 have c8:∀f,f≠t->∀w,aH X f w=aH W f w:=fun f c w=>by rw[G,aW (Xg c)]
 have d3:List.drop (ae W) X=[]:=Xo aD;have f5:(ae e=x)=False:=Xh aD;have a0:aT e X [t,ae e]:=⟨aD,fun f c h2 w=>by simp at h2;rw[c8 f h2.1,k4.2 f c aK]⟩;have c2:SlL X 4 (ae e) 0 ((aA (ae T.out+2) (ah:Q)).map qC):=⟨[],by rw[c8 _ aD,A,bZ,ZS,tY,Xz]⟩;have C:=j.GG (a:=ae e) (ver:=0) (n:=ae T.out+2) (l:=aA (ae T.out+2) ah) (.inr (fun B=>dp (j.lt B))) aK (by rw[v4];exact f9) c2 a0;have o5:bp e X t z {z with vg := .sl 4 (ae e) 0 0 (ae T.out+2)}:=bp.put a0 (by rintro f k;simp at k;rcases k with rfl | rfl;exact .inl (.inl rfl);exact .inr (WY _))
  (lL (s0 := .g) (a:=ae e) (fun s U=>by cases s<;>first | rfl | exact absurd rfl U) (fun f k=>by simpa[ba.v,aF] using k) (.inr (WY _)));obtain ⟨m,S⟩:∃m:ba,m={z with vg := .sl 4 (ae e) 0 0 (ae T.out+2)}:=⟨_,rfl⟩;have w5:m.rv=z.rv/\m.vb=z.vb/\m.vo = .sl 1 a ver 0 (ae T.out+1)/\m.vc=z.vc/\m.vg = .sl 4 (ae e) 0 0 (ae T.out+2):=by rw[S];exact ⟨rfl,rfl,v4,rfl,rfl⟩
 have ⟨w1,w2,w3,w4,w6⟩:=w5;have d7:SlL X 4 q gv ((T.aN++[ah]).map qC):=d6.aQ a0 (by simp;exact ⟨O,aD⟩);have c0:¬dV t m q:=by
  rintro (c | ⟨s,N⟩)
  .exact O c
  .by_cases M:s = .g
   .subst M;simp only[ba.v,w6,aF,ZR] at N;omega
   .have:m.v s=z.v s:=by rw[S];cases s<;>first | rfl | exact absurd rfl M
    rw[this] at N;exact b9 s M N
 rw[<-S] at C o5;have x5:=x3.eX o5;have e9:=x5.eT;have e5:∀K,bq X t 0 K=K ⟨6,0,[[.q0 (T.n:Int),m.rv,m.vb,m.vo,m.vc,.sl 4 (ae e) 0 0 (ae T.out+2)]]⟩:=aP (by rw[<-w6];exact C.bX);have d8:∀K,fM m.vo K=K (.q0 ((ae T.out+1:Nat):Int)):=fun K=>by rw[w3];rfl
 have ⟨p,p1,_,_,pw⟩:=c2.rw (i:=ae T.out+1) (n:=ae T.out+2) aK aK (by intro y hy;obtain ⟨b,_,rfl⟩:=Xf.1 hy;rfl);have ⟨G6,q1,q2,q3,q4⟩:=pw (.agg (qC Q.one)) rfl (mK Q.one);have f6:∀K,StP 4 p (.agg [.q0 (zv 1),zd 1,.q0 (zv 0),zd 0]) X K=K G6:=q1;have k6:aT X G6 [ae e]:=aT.write q3 q4;have f2:SlL G6 4 (ae e) 0 (T.lI.map qC):=by unfold Tab.lI;rw[Yp];exact q2
 have c9:=C.GK (a:=ae e) (ver:=0) (n:=ae T.out+2) (l:=T.lI) w6 (by simp[Tab.lI]) f2 k6;have o6:bp X G6 t m m:=bp.put k6 (by rintro f k;simp at k;subst k;exact .inl (.inr ⟨.g,by simp only[ba.v,w6];simp[aF]⟩)) (fun f k => .inl k);refine Z5 aaV Zm e8 e3 e2 ?_;refine ⟨aD,by simp[ck],?_⟩;rw[<-A];simp only[go_sem,↓reduceIte,WY,Xb,fL,Zm,aaf,X6,e4,<-G,d3,f5,e9,e5,d8];refine aG (lR 1 aS) rfl (aZ _) ?_;refine Y2 p1 f6 ?_;exact KT V f3 hi hp hd hf c9 ((((ho.trans o1).trans o3).trans o5).trans o6) (x5.eX o6) ⟨d7.aQ k6 cE,c0⟩ gx (by
  rcases b0 with c | c
  .exact ho.new q c
  .exact .inr (XX ho.len c))
def Tab.c0 (T:Tab) (i:Nat):Q:=af (af T.cells i []) 0 ah
def ji (T:Tab) (b:Int) (i:Nat):Int :=
 if T.cx (af T.aJ i 0)=aq/\(T.c0 i).top < 0/\(b < 0\/((T.c0 i).sub (T.c0 (az b))).top < 0) then i else b
def Tab.cz (T:Tab) (c:Nat):Int:=(aC c).foldl (ji T) (-1)
def Tab.yQ (T:Tab):Int:=T.cz (ae T.cells)
def p8 (T:Tab) (c:Nat):T.cz (c+1)=ji T (T.cz c) c:=by unfold Tab.cz;rw[Yr,Zo];rfl
def uo (T:Tab) (c:Nat):-1<=T.cz c/\T.cz c < c:=by
 induction c with
 | zero=>simp[Tab.cz]
 | succ c h=>rw[p8];unfold ji;split<;>omega
inductive ur (T:Tab):Tab->Option (List Q)->Prop
 | KW:T.yQ < 0->ur T T none
 | go {n w:Nat} {T3 T':Tab} {r:Int} {res:Option (List Q)}:T.yQ=(w:Int)->eg T.ext->w < T.ext.cells.length->((T.ext.cells.getD w []).getD (T.ext.out.length - 1+1) default).top≠0 ->
   kx n (T.ext.cu w (T.ext.out.length - 1)) T3 r->uq T3 T' res->ur T T' res
def zo (w:eg T) (hr:ur T T' res) (h:bG H t D T) :
  cF prog 129 [.ptr t 0 0 0] H (r8 H t D T' res):=by
 refine qc func129 s6 ?_;refine uz ?_;have b1:=w.wl;have a8:=w.ml;have N:=w.bl;have a1:=w.nl;have a2:=w.rl;obtain ⟨a,q⟩:∃a,a=H++[ak (⟨1,0,[[.ptr t 0 0 0]]⟩:bC)]:=⟨_,rfl⟩;have k1:aT H a []:=by rw[q];exact aT.app _ _ _
 have l:=h.aQ k1 aK;have o1:bp H a t D D:=bp.aQ k1;have x1:gk H a t D (ae H) (.ptr t 0 0 0):=⟨by rw[q];exact bZ,WY _,fun V=>dp (h.lt V)⟩;have M:∀K,bq a t 0 K=K ⟨6,0,[[.q0 (T.n:Int),D.rv,D.vb,D.vo,D.vc,D.vg]]⟩:=aP l.bX;have I:=x1.eT;have L:∀K,fM D.vb K=K (.q0 (ae T.cells:Int)):=fun K=>by rw[h.aJ.cr.jn,W4,N]
 simp only[go_sem,↓reduceIte,Xb,<-q,M,I,L];refine bE (fun m e Hc=>∃c,c<=ae T.cells/\m=ae T.cells - c/\a=Hc/\e=[(1,.ptr (ae H) 0 0 0),(4,.q0 (T.cz c)),(23,D.vb),(24,.q0 (ae T.cells:Int)),(25,.q0 (c:Int))]) (n:=ae T.cells)
  ⟨0,XE _,rfl,rfl,rfl⟩ ?_;rintro m _ _ ⟨c,hc,rfl,rfl,rfl⟩;by_cases r:(c:Int) < (ae T.cells:Int)
 .have x:c < ae T.cells:=aD;have e1:=ws c;obtain ⟨p,p1,p2⟩:=l.aJ.cr.read (eR (show c < ae T.aJ by omega));have k:=p8 T c;have ⟨a9,b0⟩:=uo T c;have next:∀y:Int,y=T.cz (c+1)->∃m,m < ae T.cells - c/\∃b,b<=ae T.cells/\m=ae T.cells - b/\a=a /\
    ([(1,.ptr (ae H) 0 0 0),(4,.q0 y),(23,D.vb),(24,.q0 (ae T.cells:Int)),(25,.q0 ((c+1:Nat):Int))]:Env)=[(1,.ptr (ae H) 0 0 0),(4,.q0 (T.cz b)),(23,D.vb),(24,.q0 (ae T.cells:Int)),(25,.q0 (b:Int))] :=
   fun y hy=>⟨ae T.cells - (c+1),aD,c+1,x,rfl,rfl,by rw[hy]⟩
  have R:(D.aX.map fun v=>[v])[c]?=ak [af D.aX c .aY]:=by simp[af,show c < ae D.aX by rw[h.cl];exact x]
  have ⟨p3,q1,q2⟩:=l.cells.cr.read R;have a7:=w.row c x;have ⟨p5,s1,s2⟩:=(l.rws c x).read (i:=0) (fH aD);have F:∀(t:IntKind) (K:AV->Prop),kz 4 (af D.aX c .aY) (.c (.int t 0)) K=K p5:=s1;have a4:=w.kQ c x _ (cV (show 0 < ae (af T.cells c []) by omega));have g:T.c0 c=af (af T.cells c []) 0 ah:=rfl;generalize hv:af T.aJ c 0=v at *;generalize hx:af (af T.cells c []) 0 ah=y at *;refine Y4 r p1 p2 I ?_;refine hZ (oQ l a1 a2) ?_;cases C:T.cx v with
  | false =>
   refine Z ?_;simpa only[go_sem] using next _ (by rw[k];unfold ji;rw[hv,C];simp)
  | true =>
   refine Z6 M I q1 q2 F s2 ?_;refine aG (fJ y) (by simp[aZ]) rfl ?_;by_cases W:y.top < 0
   .have A:(y.top.sign < 0)=True:=by rw[qP];exact XO W
    by_cases B:T.cz c < 0
    .refine Z ?_;simpa only[go_sem] using next _ (by rw[k];unfold ji;rw[hv,C,g,W0 ⟨rfl,W,.inl B⟩])
    .obtain ⟨j,s⟩:∃j:Nat,T.cz c=(j:Int):=⟨az (T.cz c),aD⟩;have f:j < ae T.cells:=aD;rw[s] at B k;have S:(D.aX.map fun v=>[v])[j]?=ak [af D.aX j .aY]:=by simp[af,show j < ae D.aX by rw[h.cl];exact f]
     have ⟨p6,u1,u2⟩:=l.cells.cr.read S;have a3:=w.row j f;have ⟨p7,w1,w2⟩:=(l.rws j f).read (i:=0) (fH aD);have a6:∀(t:IntKind) (K:AV->Prop),kz 4 (af D.aX j .aY) (.c (.int t 0)) K=K p7:=w1;have a5:=w.kQ j f _ (cV (show 0 < ae (af T.cells j []) by omega));have E:T.c0 j=af (af T.cells j []) 0 ah:=rfl;generalize hz:af (af T.cells j []) 0 ah=z at *;rw[s];have o:((j:Int) < 0)=False:=Xh aD;simp only[go_sem,↓reduceIte,WY,Xb,A,o,M,I,q1,q2,F,s2,u1,u2,a6,w2];refine aG (Jv y z (a4.mono aS) (a5.mono aS)) (by simp[aZ]) rfl ?_;by_cases G:(y.sub z).top < 0
     .have J:((y.sub z).top.sign < 0)=True:=by rw[qP];exact XO G
      refine Z ?_;simpa only[go_sem] using next _ (by rw[k];unfold ji;rw[hv,C,g,Xd,E,W0 ⟨rfl,W,.inr G⟩])
     .have J:((y.sub z).top.sign < 0)=False:=by rw[qP];exact Xh G
      refine Z ?_;simpa only[go_sem,s] using next _ (by rw[k];unfold ji;rw[hv,C,g,Xd,E,WX (fun U=>U.2.2.elim B G)])
   .have A:(y.top.sign < 0)=False:=by rw[qP];exact Xh W
    refine Z ?_;simpa only[go_sem] using next _ (by rw[k];unfold ji;rw[hv,C,g,WX (fun U=>W U.2.1)])
 .have O:c=ae T.cells:=aD;subst O;by_cases B:T.cz (ae T.cells) < 0
  .refine Y2 r B ?_;cases hr with
   | KW _=>exact ⟨D,o1,rfl,l⟩
   | go X _ _ _ _ _=>have:T.cz (ae T.cells)=_:=X;omega
  .obtain ⟨j,s⟩:∃j:Nat,T.cz (ae T.cells)=(j:Int):=⟨az (T.cz (ae T.cells)),aD⟩;have o:((j:Int) < 0)=False:=Xh aD;rw[s];refine Y2 r o ?_;cases hr with
   | KW X=>have:T.cz (ae T.cells) < 0:=X;omega
   | go X g2 g3 g4 g5 g6 =>
    have:T.cz (ae T.cells)=_:=X;rw[s] at this;have a0:=Int.ofNat.inj this;subst a0;exact M6 w g2 g3 g4 g5 g6 l o1 x1
def bG.Ky (h:bG H t D T) (O:ae T.aJ < 4000000) (z:Int):∃a ver G c,(∀K,c6 1 D.vb [[.q0 z]] H K=K (.sl 1 a ver 0 (ae T.aJ+1)) G) /\
  (∀K,bq G t 0 K=K ⟨6,0,[[.q0 (T.n:Int),D.rv,D.vb,D.vo,D.vc,D.vg]]⟩)/\c=G.set t (ak ⟨6,0,[[.q0 (T.n:Int),D.rv,.sl 1 a ver 0 (ae T.aJ+1),D.vo,D.vc,D.vg]]⟩) /\
  bG c t {D with vb := .sl 1 a ver 0 (ae T.aJ+1)} {T with aJ:=T.aJ++[z]}/\bp H c t D {D with vb := .sl 1 a ver 0 (ae T.aJ+1)}:=by
 have ⟨a,ver,G,A,B,M,C,r,N,E⟩:=mX h.aJ.cr h.aJ.gr (by rw[W4];omega) (ec z) ⟨fun y J=>by obtain ⟨b,_,rfl⟩:=Xf.1 J;rfl,rfl⟩;have o:=aU h.bX;have own:ig t D .b a:=by
  rcases r with e | e
  .exact .inl e
  .right;intro m;have:=h.lt m;omega
 have g:=own.nt h;have p:aT H G [a]:=C.mono (fun x k=>by simp;exact E x k);have W:aH G t 0=ak ⟨6,0,[[.q0 (T.n:Int),D.rv,D.vb,D.vo,D.vc,D.vg]]⟩:=by rw[p.2 t o (by simpa using Xg g)];exact h.bX
 obtain ⟨c,f⟩:∃c,c=G.set t (ak (⟨6,0,[[.q0 (T.n:Int),D.rv,.sl 1 a ver 0 (ae T.aJ+1),D.vo,D.vc,D.vg]]⟩:bC)):=⟨_,rfl⟩;have q:ae c=ae G:=by rw[f,Xa]
 have j:∀x,x≠t->∀w,aH c x w=aH G x w:=fun x e w=>by rw[f,aW (Xg e)]
 have X:aT H c [t,a]:=⟨q ▸ p.1,fun x e l w=>by simp at l;rw[j x l.1,p.2 x e (by simpa using l.2)]⟩;have i:dV t D a\/ae H<=a:=by
  rcases r with e | e
  .exact .inl (.inr ⟨.b,e⟩)
  .right;omega
 refine ⟨a,ver,G,c,fun K=>by have:=A K;rw[W4] at this;exact this,aP W,f,h.EW own aK (by rw[f,bz (aU W)]) ?_ X,bp.put X (by rintro x k;simp at k;rcases k with rfl | rfl;exact .inl (.inl rfl);exact i)
  (lL (s0 := .b) (a:=a) (fun s I=>by cases s<;>first | rfl | exact absurd rfl I) (fun x k=>by simpa[ba.v,aF] using k) i)⟩;have ⟨L,F⟩:=B;exact ⟨L,by rw[j a g,F,Xu];rfl⟩
def bG.Oe (h:bG H t D T) (R:ae T.out < 4000000) (z:Int):∃a ver G c,(∀K,c6 1 D.vo [[.q0 z]] H K=K (.sl 1 a ver 0 (ae T.out+1)) G) /\
  (∀K,bq G t 0 K=K ⟨6,0,[[.q0 (T.n:Int),D.rv,D.vb,D.vo,D.vc,D.vg]]⟩)/\c=G.set t (ak ⟨6,0,[[.q0 (T.n:Int),D.rv,D.vb,.sl 1 a ver 0 (ae T.out+1),D.vc,D.vg]]⟩) /\
  bG c t {D with vo := .sl 1 a ver 0 (ae T.out+1)} {T with out:=T.out++[z]}/\bp H c t D {D with vo := .sl 1 a ver 0 (ae T.out+1)}:=by
 have ⟨a,ver,G,B,C,N,E,X,O,F⟩:=mX h.out.cr h.out.gr (by rw[W4];omega) (ec z) ⟨fun y L=>by obtain ⟨b,_,rfl⟩:=Xf.1 L;rfl,rfl⟩;have p:=aU h.bX;have own:ig t D .o a:=by
  rcases X with e | e
  .exact .inl e
  .right;intro m;have:=h.lt m;omega
 have g:=own.nt h;have q:aT H G [a]:=E.mono (fun x k=>by simp;exact F x k);have A:aH G t 0=ak ⟨6,0,[[.q0 (T.n:Int),D.rv,D.vb,D.vo,D.vc,D.vg]]⟩:=by rw[q.2 t p (by simpa using Xg g)];exact h.bX
 obtain ⟨c,f⟩:∃c,c=G.set t (ak (⟨6,0,[[.q0 (T.n:Int),D.rv,D.vb,.sl 1 a ver 0 (ae T.out+1),D.vc,D.vg]]⟩:bC)):=⟨_,rfl⟩;have r:ae c=ae G:=by rw[f,Xa]
 have j:∀x,x≠t->∀w,aH c x w=aH G x w:=fun x e w=>by rw[f,aW (Xg e)]
 have W:aT H c [t,a]:=⟨r ▸ q.1,fun x e l w=>by simp at l;rw[j x l.1,q.2 x e (by simpa using l.2)]⟩;have i:dV t D a\/ae H<=a:=by
  rcases X with e | e
  .exact .inl (.inr ⟨.o,e⟩)
  .right;omega
 refine ⟨a,ver,G,c,fun K=>by have:=B K;rw[W4] at this;exact this,aP A,f,h.EX own aK (by rw[f,bz (aU A)]) ?_ W,bp.put W (by rintro x k;simp at k;rcases k with rfl | rfl;exact .inl (.inl rfl);exact i)
  (lL (s0 := .o) (a:=a) (fun s J=>by cases s<;>first | rfl | exact absurd rfl J) (fun x k=>by simpa[ba.v,aF] using k) i)⟩;have ⟨M,I⟩:=C;exact ⟨M,by rw[j a g,I,Xu];rfl⟩
def bG.PS (h:bG H t D T) (q:∀id,id∈aF vr->¬dV t D id/\id≠ca) (e:ig t D .c ca) (hm:m=ae T.cells+1)
  (J:aH p t 0=ak ⟨6,0,[[.q0 (T.n:Int),D.rv,D.vb,D.vo,.sl 1 ca cver 0 m,D.vg]]⟩) (I:SlV p 4 vr (l.map qC)) (G:ru vr l) (L:SlL p 1 ca cver ((D.aX.map fun v=>[v])++[[vr]])) (X:aT H p [t,ca]) :
  bG p t {D with vc := .sl 1 ca cver 0 m,aX:=D.aX++[vr]} {T with cells:=T.cells++[l]}:=by
 have f:=h.cl;have bU:∀s,s ≠ .c->∀id,id∈aF (D.v s)->id∉[t,ca]:=fun s B id k hm=>by
  simp at hm;rcases hm with rfl | rfl
  .exact h.top s k
  .exact e.ne h B k
 have A:∀j,af (D.aX++[vr]) j .aY=if j < ae D.aX then af D.aX j .aY else if j=ae D.aX then vr else .aY:=by
  intro j;simp only[af];rcases Yt j (ae D.aX) with y | y | y
  .rw[Xc y,W0 y]
  .subst y;simp
  .rw[Xv cE,WX aD,WX aD];rfl
 have F:∀j,af (T.cells++[l]) j []=if j < ae T.cells then af T.cells j [] else if j=ae T.cells then l else []:=by
  intro j;simp only[af];rcases Yt j (ae T.cells) with y | y | y
  .rw[Xc y,W0 y]
  .subst y;simp
  .rw[Xv cE,WX aD,WX aD];rfl
 have w:∀s id,id∈aF (({D with vc := .sl 1 ca cver 0 m,aX:=D.aX++[vr]}:ba).v s)->(s = .c/\id=ca)\/(s = .r (ae D.aX)/\id∈aF vr)\/(s ≠ .c/\id∈aF (D.v s)):=by
  intro s id k;cases s with
  | c=>left;exact ⟨rfl,by simpa[ba.v,aF] using k⟩
  | r j =>
   right;simp only[ba.v,A] at k;split at k
   .exact .inr ⟨aK,by simpa[ba.v] using k⟩
   .split at k
    .rename_i y;left;exact ⟨by rw[y],k⟩
    .simp[aF] at k
  | b=>exact .inr (.inr ⟨aK,k⟩)
  | o=>exact .inr (.inr ⟨aK,k⟩)
  | g=>exact .inr (.inr ⟨aK,k⟩)
 refine ⟨J,h.aI.aQ X (fun id k=>by rw[h.iv] at k;simp at k),h.iv,h.aJ.aQ X (bU .b aK),h.out.aQ X (bU .o aK),.inr ⟨ca,cver,?_,?_⟩,by simp[f],fun j y=>?_,h.aN.aQ X (bU .g aK),⟨fun j y=>?_,h.live.2⟩,fun s hm=>?_,fun s E i id k K=>?_⟩
 .simp[hm,f]
 .rw[Xu];exact L
 .simp only[Xn,XG,XQ] at y;show SlV p 4 (af (D.aX++[vr]) j .aY) ((af (T.cells++[l]) j []).map qC);rw[A,F,f];by_cases x:j < ae T.cells
  .rw[W0 x,W0 x];exact (h.rws j x).aQ X (bU (.r j) aK)
  .rw[WX x,WX x,W0 aD,W0 aD];exact I
 .simp only[Xn,XG,XQ] at y;show ru (af (D.aX++[vr]) j .aY) (af (T.cells++[l]) j []);rw[A,F,f];by_cases x:j < ae T.cells
  .rw[W0 x,W0 x];exact h.live.1 j x
  .rw[WX x,WX x,W0 aD,W0 aD];exact G
 .rcases w s t hm with ⟨rfl,z⟩ | ⟨rfl,z⟩ | ⟨_,z⟩
  .exact e.nt h z.symm
  .exact (q _ z).1 (.inl rfl)
  .exact h.top s z
 .rcases w s id k with ⟨rfl,z⟩ | ⟨rfl,z⟩ | ⟨C,z⟩<;>rcases w E id K with ⟨rfl,a⟩ | ⟨rfl,a⟩ | ⟨W,a⟩
  .exact i rfl
  .exact (q _ a).2 z
  .exact e.ne h W (z ▸ a)
  .exact (q _ z).2 a
  .exact i rfl
  .exact (q _ z).1 (.inr ⟨E,a⟩)
  .exact e.ne h C (a ▸ z)
  .exact (q _ a).1 (.inr ⟨s,z⟩)
  .exact h.sep s E i id z a
def bV.line (r:bV):List Q:=r.add::r.dh
def fO (n:Nat) (aI:List bV) (aN:List Q) (k c:Nat):Tab :=
 {n:=n,aI:=aI,aJ:=(aC c).map fun (i:Nat)=>(n:Int)+(i:Int),out:=(aC k).map fun (i:Nat)=>(i:Int),cells:=(aI.take c).map bV.line,aN:=aN}
def bO (n:Nat) (aI:List bV) (aN:bV):Tab:=fO n aI aN.line n (ae aI)
def DR (w:ae l < 1000000):∃v k,(∀K,qS 4 (.seq 4 aq [qC a]) (.seq 4 f (l.map qC)) H K=K v k)/\SlV k 4 v ((a::l).map qC)/\ru v (a::l)/\aT H k []/\(∀id,id∈aF v->id=ae H)/\(k.drop (ae H)).all (eI (ae H))=aq/\bh v=aq/\v.cells=[v]/\eC v=aq/\ck (ae k) v=aq:=by
 cases l with
 | nil =>
  refine ⟨.seq 4 aq [qC a],H,fun K=>?_,.seq,⟨by simp[HG],fun h=>by simp at h⟩,aT.refl _ _,by simp[aF],aK,rfl,rfl,rfl,rfl⟩;rw[DO];show (4=4/\K (.seq 4 aq [qC a]) H)=_;simp
 | cons b r =>
  have x:hU 4 H (.seq 4 aq [qC a]) ((b::r).map qC)=ak (.sl 4 (ae H) 0 0 (ae r+2),H++[ak ⟨4,0,(a::b::r).map qC⟩]):=by show (if 4=4/\1+(ae (r.map qC)+1)<=4294967296 then _ else an)=_;simp only[W4,XG] at w ⊢;rw[W0 ⟨trivial,aD⟩];simp only[aap,abm];refine ⟨?_,aK⟩;congr 1;simp;omega
  refine ⟨.sl 4 (ae H) 0 0 (ae r+2),H++[ak ⟨4,0,(a::b::r).map qC⟩],fun K=>?_,?_,oJ,aT.app _ _ _,by simp[aF],?_,rfl,rfl,rfl,by simp[ck]⟩
  .rw[DO];simp only[c6,x];simp[bD]
  .have:SlL (H++[ak ⟨4,0,(a::b::r).map qC⟩]) 4 (ae H) 0 ((a::b::r).map qC):=⟨[],by rw[Xz];exact bZ⟩;exact this.cr aK
  .rw[aar];simp only[Yu,Zv,X4,eI,W6];intro y c;obtain ⟨q,_,rfl⟩:=Xf.1 c;intro z e;exact W6.1 (xP _ q) z e
def Nw {H:aE} {n:Nat} {rv:AV} {aI:List bV} {aN:bV} (hn:n < 1000000) (g8:ae aI < 1000000) (hr:SlV H 6 rv (aI.map bT)) (e8:aF rv=[]) (e3:ae aN.dh < 1000000) (e7:∀r,r∈aI->ae r.dh < 1000000) :
  cF prog 126 [.q0 (n:Int),rv,.agg (bT aN)] H fun v H'=>∃t D,v = .ptr t 0 0 0/\bG H' t D (bO n aI aN)/\aT H H' []/\∀id,dV t D id->ae H<=id:=by
 refine qc func126 DX ?_;refine uz ?_;have e0:((bT aN).all cN)=aq:=by show (aq&&((qC aN.add++[AV.v0 aN.eq]).all cN))=aq;rw[Ze,DG];rfl
 have ⟨vg,H1,g1,g2,g3,g4,g5,g6,g7⟩:=DR (H:=H) (f:=aN.fl) (a:=aN.add) e3;have c7:∀(r:bV) (K:AV->Prop),gn ar (bT r) 0 1 K=K (.seq 4 r.fl (r.dh.map qC)):=fun r K=>rfl;have c8:∀(r:bV) (K:AV->Prop),gn aq (bT r) 1 4 K=K (qA r.add):=fun r K=>by simp[gn,fm,bT,bD]
 refine Z6 e0 c7 c8 g1 g7 hr.cell ?_;refine ⟨aS,?_⟩;obtain ⟨H2,R⟩:∃H2,H2=H1++[ak (⟨6,0,[[.q0 (n:Int),rv,.nil,.nil,.nil,vg]]⟩:bC)]:=⟨_,rfl⟩;rw[<-R];have a9:aT H1 H2 []:=by rw[R];exact aT.app _ _ _
 have AQ:ae H2=ae H1+1:=by rw[R];simp
 obtain ⟨D0,a7⟩:∃D0:ba,D0=⟨rv,.nil,.nil,.nil,vg,[]⟩:=⟨_,rfl⟩;have d0:∀id,id∈aF vg->id < ae H1:=fun id z=>g2.pC id z;have t0:bG H2 (ae H1) D0 (fO n aI aN.line 0 0):=by
  subst a7;refine ⟨by rw[R];exact bZ,(hr.aQ (g4.trans a9) aK),e8,.inl ⟨rfl,rfl⟩,.inl ⟨rfl,rfl⟩,.inl ⟨rfl,rfl⟩,rfl,fun i hi=>by simp[fO] at hi,.of (g2.aQ a9 aK),⟨fun i hi=>by simp[fO] at hi,g3⟩,fun s=>?_,fun s s' e9 id z=>?_⟩
  .cases s with
   | g=>exact fun hm=>dp (d0 _ hm)
   | _=>simp[ba.v,aF]
  .cases s with
   | g=>cases s' with
    | g=>exact absurd rfl e9
    | _=>simp[ba.v,aF]
   | _=>simp[ba.v,aF] at z
 have a8:∀id,dV (ae H1) D0 id->ae H<=id:=by
  subst a7;rintro id (rfl | ⟨s,hs⟩)
  .exact g4.1
  .cases s with
   | g=>rw[g5 id hs];exact WY _
   | _=>simp[ba.v,aF] at hs
 obtain ⟨t,ht⟩:∃t,t=ae H1:=⟨_,rfl⟩;rw[<-ht] at t0 a8 ⊢;refine bE (fun m e X=>∃k D,k<=n/\m=n - k/\bG X t D (fO n aI aN.line k 0)/\bp H2 X t D0 D/\D.rv=rv/\e=[(0,.q0 (n:Int)),(1,rv),(7,.ptr t 0 0 0),(21,.q0 (n:Int)),(22,.q0 (k:Int))]) (n:=n)
  ⟨0,D0,XE _,rfl,t0,bp.refl _ _ _,by rw[a7],rfl⟩ ?_;rintro m _ X ⟨k,D,hk,rfl,h,ho,I,rfl⟩;have hT:∀K,bq X t 0 K=K ⟨6,0,[[.q0 (n:Int),D.rv,D.vb,D.vo,D.vc,D.vg]]⟩:=aP h.bX;by_cases F:(k:Int) < (n:Int)
 .have e1:au .i64 ((k:Int)+1)=((k+1:Nat):Int):=by rw[wrap_i64 aD aD];rfl
  have ⟨a,ver,G,L,a1,a2,a3,C,a5⟩:=h.Oe (by simp[fO];omega) (k:Int);have jD:(fO n aI aN.line k 0).out.length=k:=by simp[fO]
  rw[jD] at a1 a3 C a5;have a0:∀K,bq G t 0 K=K ⟨6,0,[[.q0 (n:Int),D.rv,D.vb,D.vo,D.vc,D.vg]]⟩:=a2;have a6:L=G.set t (ak ⟨6,0,[[.q0 (n:Int),D.rv,D.vb,.sl 1 a ver 0 (k+1),D.vc,D.vg]]⟩):=a3;simp only[go_sem,↓reduceIte,Nat.reduceLeDiff,Xb,F,hT,a1,a0,<-a6,e1];refine ⟨n - (k+1),aD,k+1,_,aD,rfl,?_,ho.trans a5,I,rfl⟩;have:fO n aI aN.line (k+1) 0={fO n aI aN.line k 0 with out:=(fO n aI aN.line k 0).out++[(k:Int)]}:=by simp[fO,Yr]
  rw[this];exact C
 .have e5:k=n:=aD;subst e5;have d3:∀K,fM rv K=K (.q0 (ae aI:Int)):=fun K=>by rw[hr.jn,W4]
  refine Y2 F d3 ?_;refine bE (fun m e X=>∃c D,c<=ae aI/\m=ae aI - c/\bG X t D (fO k aI aN.line k c)/\bp H2 X t D0 D/\D.rv=rv/\e=[(0,.q0 (k:Int)),(7,.ptr t 0 0 0),(36,rv),(37,.q0 (ae aI:Int)),(38,.q0 (c:Int))]) (n:=ae aI)
   ⟨0,D,XE _,rfl,h,ho,I,rfl⟩ ?_;clear h ho hT F I;rintro m _ X ⟨c,D,hc,rfl,h,ho,I,rfl⟩;by_cases F:(c:Int) < (ae aI:Int)
  .have S:c < ae aI:=aD;have e1:au .i64 ((c:Int)+1)=((c+1:Nat):Int):=by rw[wrap_i64 aD aD];rfl
   have e2:au .i64 ((k:Int)+(c:Int))=(k:Int)+(c:Int):=wrap_i64 aD aD;have T:=h.aI;rw[I] at T;have T:SlV X 6 rv (aI.map bT):=T;have ⟨p,p1,p2⟩:=T.read (i:=c) (x:=bT (af aI c ah)) (by simp[S]);have hx:(af aI c ah)∈aI:=cV S;have d9:=e7 _ hx;have e6:(aI.take (c+1)).map bV.line=(aI.take c).map bV.line++[(af aI c ah).line]:=by rw[XW S,Xu];simp[S]
   generalize af aI c ah=r at *;obtain ⟨H3,J⟩:∃H3,H3=X++[ak (⟨6,0,[bT r]⟩:bC)]:=⟨_,rfl⟩;have k3:aT X H3 []:=by rw[J];exact aT.app _ _ _
   have h3:=h.aQ k3 aK;have o3:=ho.trans (bp.aQ k3);have b3:aH H3 (ae X) 0=ak ⟨6,0,[bT r]⟩:=by rw[J];exact bZ
   have l3:ae X < ae H3:=by rw[J];simp
   have d5:∀K,bq H3 t 0 K=K ⟨6,0,[[.q0 (k:Int),D.rv,D.vb,D.vo,D.vc,D.vg]]⟩:=aP h3.bX;have ⟨a,ver,G,L,a1,a2,a3,C,a5⟩:=h3.Ky (by simp[fO];omega) ((k:Int)+(c:Int));have jD:(fO k aI aN.line k c).aJ.length=c:=by simp[fO]
   rw[jD] at a1 a3 C a5;have a0:∀K,bq G t 0 K=K ⟨6,0,[[.q0 (k:Int),D.rv,D.vb,D.vo,D.vc,D.vg]]⟩:=a2;have a6:L=G.set t (ak ⟨6,0,[[.q0 (k:Int),D.rv,.sl 1 a ver 0 (c+1),D.vo,D.vc,D.vg]]⟩):=a3;have b8:¬dV t D (ae X):=fun A=>dp (h.lt A);obtain ⟨q,c0⟩:∃q:ba,q={D with vb := .sl 1 a ver 0 (c+1)}:=⟨_,rfl⟩;have c2:q.rv=rv:=by rw[c0];exact I
   rw[<-c0] at C a5;have b2:aH L (ae X) 0=ak ⟨6,0,[bT r]⟩:=by rw[a5.aR _ l3 b8];exact b3
   have d2:∀K,bq L (ae X) 0 K=K ⟨6,0,[bT r]⟩:=aP b2;have d4:∀K,bq L t 0 K=K ⟨6,0,[[.q0 (k:Int),q.rv,q.vb,q.vo,q.vc,q.vg]]⟩:=aP C.bX;have ⟨vr,G3,r1,r2,r3,r4,r5,r6,r7⟩:=DR (H:=L) (f:=r.fl) (a:=r.add) d9;have f0:∀K,StP 6 (.ptr (ae X) 0 0 0) (.agg (bT r)) (X++[ak ⟨6,0,[[.nil,.q0 0,.nil,.q0 0,.nil,.v0 ar]]⟩]) K=K H3:=fun K=>by
    have f2:(bT r).all bh=aq:=by show (aq&&((qC r.add++[AV.v0 r.eq]).all bh))=aq;rw[Ze,mK];rfl
    rw[Cb,aP bZ,O6];show ElP _ 0 (StX (ae X) 0 0 0 6 (bT r) 6 _ _ K)=_;rw[py (x:=[.nil,.q0 0,.nil,.q0 0,.nil,.v0 ar]) rfl,O7];refine propext ⟨fun h=>?_,fun h=>⟨⟨rfl,aS,f2⟩,?_⟩⟩
    .have:=h.2;rw[E9] at this;rw[J];exact this
    .rw[E9];rw[J] at h;exact h
   have f6:∀K,gn aq (bT r) 0 6 K=K (.agg (bT r)):=fun K=>by simp[gn,fm,bT,bD,qC]
   simp only[go_sem,↓reduceIte,Nat.reduceLeDiff,Xb,F,p1,p2,f6,f0,d5,e2,a1,a0,<-a6,d4,d2,c7,c8,r1,r6,r7];refine ⟨aS,?_⟩;obtain ⟨V,N⟩:∃V,V=G3++[ak (⟨1,0,[[vr]]⟩:bC)]:=⟨_,rfl⟩;have b0:aT G3 V []:=by rw[N];exact aT.app _ _ _
   have c3:=r4.trans b0;have g9:ae V=ae G3+1:=by rw[N];simp
   have t4:=C.aQ c3 aK;have E:=C.cl;have c1:(fO k aI aN.line k c).cells.length=c:=by simp[fO];omega
   have E:ae q.aX=c:=E.trans c1;have cc:=C.cells.cr.cell;have f7:∀id,id∈aF vr->id < ae G3:=fun id z=>r2.pC id z;have ⟨ca,cver,G5,b1,b2,b3,b4,b5,b6,b7⟩:=mX t4.cells.cr t4.cells.gr (by rw[W4,E];omega) [vr] ⟨fun y hy=>by obtain ⟨b,hb,rfl⟩:=Xf.1 hy;obtain ⟨j,hj,rfl⟩:=Yz.1 hb;have:=(t4.rws j (by show j < (fO k aI aN.line k c).cells.length;omega)).OA;rw[show af q.aX j .aY=q.aX[j] by simp[af,hj]] at this;simp[this],by simp[(r2.aQ b0 aK).OA]⟩;rw[W4,E] at b1;have own:ig t q .c ca:=by
    rcases b5 with W | W
    .exact .inl W
    .right;intro A;have:=t4.lt A;omega
   have b9:ca≠t:=own.nt t4;have ka:aT V G5 [ca]:=b4.mono (fun id z=>by simp;exact b7 id z);have tG:aH G5 t 0=ak ⟨6,0,[[.q0 (k:Int),q.rv,q.vb,q.vo,q.vc,q.vg]]⟩:=by rw[ka.2 t (aU t4.bX) (by simpa using Xg b9)];exact t4.bX
   have d6:∀K,bq G5 t 0 K=K ⟨6,0,[[.q0 (k:Int),q.rv,q.vb,q.vo,q.vc,q.vg]]⟩:=aP tG;obtain ⟨M,O⟩:∃M,M=G5.set t (ak (⟨6,0,[[.q0 (k:Int),q.rv,q.vb,q.vo,.sl 1 ca cver 0 (c+1),q.vg]]⟩:bC)):=⟨_,rfl⟩;have f8:aH M t 0=ak ⟨6,0,[[.q0 (k:Int),q.rv,q.vb,q.vo,.sl 1 ca cver 0 (c+1),q.vg]]⟩:=by rw[O,bz (aU tG)]
   have f3:ae M=ae G5:=by rw[O,Xa]
   have c5:∀id,id≠t->∀w,aH M id w=aH G5 id w:=fun id W w=>by rw[O,aW (Xg W)]
   have d1:List.drop (ae G5) M=[]:=Xo aD;have c4:aT V M [t,ca]:=⟨by rw[f3];exact ka.1,fun id W h2 w=>by simp at h2;rw[c5 id h2.1,ka.2 id W (by simpa using h2.2)]⟩;have kk:aT L M [t,ca]:=(c3.mono aK).trans c4;have f1:SlL M 1 ca cver ((q.aX.map fun v=>[v])++[[vr]]):=by obtain ⟨tl,hq⟩:=b2;exact ⟨tl,by rw[c5 ca b9,hq]⟩
   have inc:dV t q ca\/ae L<=ca:=by
    rcases b5 with W | W
    .exact .inl (.inr ⟨.c,W⟩)
    .right;have:=r4.1;omega
   have B:∀id,id∈aF vr->¬dV t q id/\id≠ca:=fun id z=>by
    have W:=r5 id z;refine ⟨fun A=>dp (C.lt A),fun he=>?_⟩;rcases b5 with h2 | h2
    .have:=C.lt (.inr ⟨.c,h2⟩);omega
    .have:=f7 id z;omega
   have f9:SlV M 4 vr (r.line.map qC):=r2.aQ ((b0.mono aK).trans c4) (fun id z hm=>by
    simp at hm;rcases hm with rfl | rfl
    .exact (B _ z).1 (.inl rfl)
    .exact (B _ z).2 rfl);have c9:=C.PS (vr:=vr) (ca:=ca) (cver:=cver) (m:=c+1) (l:=r.line) B own (by show c+1=(fO k aI aN.line k c).cells.length+1;rw[c1]) f8 f9 r3 f1 kk;have d7:∀K,qS 1 q.vc (.sl 1 (ae G3) 0 0 1) V K=c6 1 q.vc [[vr]] V K:=fun K=>by rw[N,DN]
   have f4:(ae L=t)=False:=Xh (dp (aU C.bX));have f5:(ae G3=t)=False:=Xh (UQ (aU C.bX) r4.1);simp only[go_sem,↓reduceIte,Nat.reduceLeDiff,Xb,fL,Zm,aaf,X6,<-N,d7,b1,b3,b6,d6,<-O,d1,f4,f5,e1];refine ⟨ae aI - (c+1),aD,c+1,{q with vc := .sl 1 ca cver 0 (c+1),aX:=q.aX++[vr]},aD,rfl,?_,(o3.trans a5).trans (bp.put kk (by rintro id z;simp at z;rcases z with rfl | rfl;exact .inl (.inl rfl);exact inc) ?_),c2,rfl⟩
   .have:fO k aI aN.line k (c+1)={fO k aI aN.line k c with aJ:=(fO k aI aN.line k c).aJ++[(k:Int)+(c:Int)],cells:=(fO k aI aN.line k c).cells++[r.line]}:=by simp only[fO,Yr,Xu,e6];rfl
    rw[this];exact c9
   .rintro id (rfl | ⟨s,z⟩)
    .exact .inl (.inl rfl)
    .cases s with
     | c=>(have:id=ca:=by simpa[ba.v,aF] using z);(subst this;exact inc)
     | r j =>
      simp only[ba.v,af] at z;rcases Xe j (ae q.aX) with hj | hj
      .rw[Xc hj] at z;exact .inl (.inr ⟨.r j,z⟩)
      .rcases Xe (ae q.aX) j with e4 | e4
       .rw[Xv cE] at z;simp[aF] at z
       .have:j=ae q.aX:=aD;subst this;right;have h5:id∈aF vr:=bk z;rw[r5 id h5];exact WY _
     | b=>exact .inl (.inr ⟨.b,z⟩)
     | o=>exact .inl (.inr ⟨.o,z⟩)
     | g=>exact .inl (.inr ⟨.g,z⟩)
  .have d8:c=ae aI:=aD;subst d8;refine Y1 F ?_;have g0:=g4.1;have U:=g4.trans a9;have hs:fO k aI aN.line k (ae aI)=bO k aI aN:=rfl;refine ⟨t,D,rfl,h,⟨XX U.1 ho.len,fun id W _ w=>?_⟩,fun id z=>?_⟩
   .rw[ho.aR id (Yf W U.1) (fun A=>by have:=a8 id A;omega),U.2 id W aK]
   .rcases ho.new id z with W | W
    .exact a8 id W
    .exact XX U.1 W
structure pR where
 kind:Int
 value:Q
 pd:AV
 nS:AV
 mult:AV
def pZ (l:List Q):AV := .seq 4 ar (l.map qC)
def pR.cells (o:pR):List AV:=[.c (.int .i64 o.kind),.c (.int .i64 (zv o.value.top)),zd o.value.top,.c (.int .i64 (zv o.value.low)),zd o.value.low,o.pd,o.nS,o.mult]
def pW (o:pR):AV := .agg o.cells
def rF:List AV:=[.c (.int .i64 0),.c (.int .i64 0),.nil,.c (.int .i64 0),.nil,.nil,.nil,.nil]
def Tab.gN (T:Tab) (k:Nat):Bool:=decide (af T.out k 0 < (T.n:Int)) && !decide ((af T.aN (k+1) ah).top=0)
inductive Hb (T:Tab):pR->Prop
 | nS {M k:Nat} {T':Tab}:kx M T T' (k:Int)->k < T'.out.length->0<=T'.out.getD k 0->Hb T ⟨1,default,pZ T'.pd,pZ (T'.nS k Q.one),.nil⟩
 | pT {M:Nat} {T':Tab}:kx M T T' (-1)->Hb T ⟨2,T'.aN.getD 0 default,pZ T'.pd,.nil,pZ (T'.mult T'.aN)⟩
inductive Hd (T:Tab):pR->Prop
 | loose {k:Nat}:k < T.out.length->T.gN k=true->(∀j,j < k->T.gN j=false)->0<=T.out.getD k 0->Hd T ⟨1,default,pZ T.pd,pZ (T.nS k ⟨-(T.aN.getD (k+1) default).top.sign,0⟩),.nil⟩
 | tight {o:pR}:(∀j,j < T.out.length->T.gN j=false)->Hb T o->Hd T o
inductive sZ (n:Nat) (aI:List bV) (aN:bV):pR->Prop
 | eqs {N:Nat} {T1:Tab} {m:List Q}:Eqs N (bO n aI aN) 0 T1 (some m)->sZ n aI aN ⟨0,default,.nil,.nil,pZ m⟩
 | mh {N:Nat} {T1 T2:Tab} {m:List Q}:Eqs N (bO n aI aN) 0 T1 none->(∀c,eg (T1.cU c))->ur T1.qo T2 (some m)->sZ n aI aN ⟨0,default,.nil,.nil,pZ m⟩
 | fin {N:Nat} {T1 T2:Tab} {o:pR}:Eqs N (bO n aI aN) 0 T1 none->(∀c,eg (T1.cU c))->ur T1.qo T2 none->eg T2->Hd T2 o->sZ n aI aN o
structure sX (H:aE) (t:Nat) (D:ba):Prop where
 ob:aH H 0 0=some ⟨8,0,[rF]⟩
 out:¬dV t D 0
def sX.eX (h:sX H t D) (o:bp H G t D D'):sX G t D' :=
 ⟨by rw[o.aR 0 (aU h.ob) h.out];exact h.ob,fun k=>(o.new 0 k).elim h.out (fun x=>dp (aU h.ob))⟩
def sX.eT (h:sX H t D) (K:bC->Prop):bq H 0 0 K=K ⟨8,0,[rF]⟩:=aP h.ob K
def sX.set (h:sX H t D) (xs:List (List AV)) (K:bC->Prop):bq (H.set 0 (ak ⟨8,0,xs⟩)) 0 0 K=K ⟨8,0,xs⟩:=aP (bz (aU h.ob)) K
def EF (p:AV):Prop:=ck 0 p=aq
def rC:EF .nil:=rfl
def mS (l:List Q):EF (pZ l):=rfl
def lQ (h:EF p) (x:EF q) (hm:EF m):jR 0 (pW ⟨k,v,p,q,m⟩)=aq:=by show (ck 0 (.q0 k)&&(ck 0 (.q0 (zv v.top))&&(ck 0 (zd v.top)&&(ck 0 (.q0 (zv v.low))&&(ck 0 (zd v.low)&&(ck 0 p&&(ck 0 q&&(ck 0 m&&aq))))))))=aq;rw[rW,rW,h,x,hm];rfl
def qL (k:Int) (p q m:AV):pW ⟨k,ah,p,q,m⟩ = .agg [.q0 k,.q0 0,.nil,.q0 0,.nil,p,q,m]:=by show AV.agg [.q0 k,.q0 (zv 0),zd 0,.q0 (zv 0),zd 0,p,q,m]=_;rw[jv xT,lA xT]
def Q.tS:QOk 1 Q.one:=⟨aS,Ea 1 aS,m8 1⟩
def O5 (x:Int):QOk 1 ⟨-x.sign,0⟩:=⟨Yn 0,by show ay (-x.sign) < 4294967296 ^ 1;rcases aac x with h | h | h<;>rw[h]<;>decide,m8 1⟩
def OP {H:aE} {t:Nat} {D:ba} {T:Tab} {o:pR} {n:Env} (z:Hb T o) (h:bG H t D T) (l:sX H t D) :
  WP prog 111 n9 (pQ [.cell 6 aq 8] 0 (pW o) []) ((6,.ptr 0 0 0 0)::(7,.ptr t 0 0 0)::n) H:=by
 refine uz ?_;refine Z ?_;cases z with
 | nS z X q =>
  rename_i M k j;refine dZ (uL z h) ?_;rintro _ m ⟨rfl,g,y,e⟩;have w:=l.eX e;have x:=z.same.2.2;have W:(0<=(k:Int))=True:=XO aD;have a:=w.eT;have b:=w.set;refine Z ?_;refine dK (Aa y x) ?_;refine Z ?_;refine aG (lR 1 aS) rfl (aZ _) ?_;refine Y ?_;refine dK (cF.HE (JH y x X Q.tS q)) ?_;simp only[go_sem,↓reduceIte,Nat.reduceLeDiff,WY,Xb,a,b,rF];exact aV (qL 1 _ _ _).symm (by rw[<-qL];exact lQ (mS _) (mS _) rC)
 | pT z =>
  rename_i M j;refine dZ (uL z h) ?_;rintro _ m ⟨rfl,g,y,e⟩;have w:=l.eX e;have x:=z.same.2.2;have a:=w.eT;have b:=w.set;have r:=aP y.bX;have s:=x.gl;have A:=x.wl;have ⟨p,B,C⟩:=(y.aN.cr aD).read (i:=0) (fH aD);have f:∀(t:IntKind) (K:AV->Prop),kz 4 g.vg (.c (.int t 0)) K=K p:=B;generalize hv:af j.aN 0 ah=v at *;simp only[go_sem,↓reduceIte,WY,Xb,r,f,C,Int.reduceLE,Int.reduceNeg];refine hZ (Aa y x) ?_;refine Z ?_;refine hZ (cF.HE (B5 y x.nl x.rl aD (y.aN.cr aD) aD)) ?_;simp only[go_sem,↓reduceIte,Nat.reduceLeDiff,WY,Xb,a,b,rF];exact iZ (lQ (mS _) rC (mS _))
def OO (s:Hd T o) (l:eg T) (h:bG H t D T) (X:sX H t D) :
  WP prog 111 n7 (pQ [.cell 6 aq 8] 0 (pW o) []) ((6,.ptr 0 0 0 0)::(7,.ptr t 0 0 0)::er) H:=by
 refine uz ?_;have a0:=l.wl;have U:=l.nl;have R:=l.gl;have hT:=aP h.bX;have M:∀K,fM D.vo K=K (.q0 (ae T.out:Int)):=fun K=>by rw[h.out.cr.jn,W4]
 have L:=X.eT;have N:=X.set;refine Z ?_;refine bE (fun m e G=>∃c,c<=ae T.out/\m=ae T.out - c/\H=G/\(∀j,j < c->T.gN j=ar)/\e=[(6,.ptr 0 0 0 0),(7,.ptr t 0 0 0),(42,D.vo),(43,.q0 (ae T.out:Int)),(44,.q0 (c:Int))]) (n:=ae T.out)
  ⟨0,XE _,rfl,rfl,fun j E=>aD,rfl⟩ ?_;rintro m _ _ ⟨c,hc,rfl,rfl,z,rfl⟩;by_cases S:(c:Int) < (ae T.out:Int)
 .have y:c < ae T.out:=by omega
  have I:=ws c;have ⟨p,p1,p2⟩:=h.out.cr.read (eR y);obtain ⟨p3,q1,q2⟩:=(h.aN.cr (by omega)).read (i:=c+1) (fH (show c+1 < ae T.aN by omega));have x:T.gN c=(decide (af T.out c 0 < (T.n:Int)) && !decide ((af T.aN (c+1) ah).top=0)):=rfl;generalize hv:af T.out c 0=v at *;generalize O:af T.aN (c+1) ah=g at *;by_cases C:v < (T.n:Int)
  .refine Z ?_;refine aG (fJ g) (by simp[aZ]) rfl ?_;by_cases r:g.top=0
   .have b:(g.top.sign=0)=True:=by rw[ll];exact XO r
    refine Z2 b I ?_;exact ⟨ae T.out - (c+1),aD,c+1,y,rfl,fun j E=>by
     by_cases a:j=c
     .subst a;rw[x,r];simp
     .exact z j aD,rfl⟩
   .have b:(g.top.sign=0)=False:=by rw[ll];exact Xh r
    refine Z ?_;have w:T.gN c=aq:=by rw[x];simp[C,r]
    have V:-1<=g.top.sign/\g.top.sign<=1:=by rcases aac g.top with h | h | h<;>rw[h]<;>decide
    have e2:au .i64 (0 - g.top.sign) = -g.top.sign:=by rw[wrap_i64 (by omega) (by omega)];omega
    cases s with
    | tight J _=>rw[J c y] at w;simp at w
    | loose B q k3 F =>
     rename_i k;have A:k=c:=by
      rcases Yt k c with f | f | f
      .rw[z k f] at q;simp at q
      .exact f
      .rw[k3 c f] at w;simp at w
     subst A;rw[O];refine hZ (Aa h l) ?_;refine Z ?_;refine aG (fJ g) (by simp[aZ]) rfl ?_;refine Z ?_;refine aG (lR (-g.top.sign) aD) rfl (aZ _) ?_;refine Z ?_;refine hZ (cF.HE (JH h l B (O5 g.top) (by rw[hv] at F;rw[hv];exact F))) ?_;simp only[go_sem,↓reduceIte,Nat.reduceLeDiff,WY,Xb,L,N,rF];exact aV (qL 1 _ _ _).symm (by rw[<-qL];exact lQ (mS _) (mS _) rC)
  .refine Z ?_;exact ⟨ae T.out - (c+1),aD,c+1,y,rfl,fun j E=>by
    by_cases a:j=c
    .subst a;rw[x];simp[C]
    .exact z j aD,rfl⟩
 .have W:c=ae T.out:=aD;subst W;refine Z ?_;cases s with
  | loose B q _ _=>rw[z _ B] at q;simp at q
  | tight _ s=>exact OP s h X
end
def Q.val (a:Q):Rat:=Rat.divInt a.top a.lo
structure QV (a:Q):Prop where
 low:0<=a.low
 red:Int.gcd a.top a.lo=1
def QV.lo (h:QV a):0 < a.lo:=by have:=h.low;unfold Q.lo;split<;>omega
def Jj {a:Q} (h:0<=a.low):0 < a.lo:=by unfold Q.lo;split<;>omega
def Cp (a b:Int):Rat.divInt a b=(a:Rat) / (b:Rat):=by exact Rat.divInt_eq_div a b
def gB (a:Q):a.val=(a.top:Rat) / (a.lo:Rat):=Cp _ _
def qD {a b:Int} (l:b≠0):QV (Q.ratio a b)/\(Q.ratio a b).val=(a:Rat) / (b:Rat)/\0 < (Q.ratio a b).low:=by
 have r:Int.gcd a b≠0:=fun h=>l (Int.gcd_eq_zero_iff.1 h).2;have ⟨y,j⟩:=Int.gcd_dvd_left a b;have ⟨k,z⟩:=Int.gcd_dvd_right a b;generalize m:(Int.gcd a b)=g at *;have c:(g:Int)≠0:=aD;have n:a.tdiv g=y:=by rw[j];exact abv _ c
 have o:b.tdiv g=k:=by rw[z];exact abv _ c
 have w:k≠0:=fun h=>l (by rw[z,h];simp);have e:Int.gcd y k=1:=by
  have i:Int.gcd (g*y) (g*k)=g*Int.gcd y k:=by rw[Int.gcd_mul_left];simp
  rw[<-j,<-z,m] at i;exact Nat.eq_of_mul_eq_mul_left aD (by omega:g*Int.gcd y k=g*1)
 have hv:(a:Rat) / (b:Rat)=(y:Rat) / (k:Rat):=by
  have i:(a:Rat)=((g:Int):Rat)*(y:Rat):=by rw[j,X8]
  have p:(b:Rat)=((g:Int):Rat)*(k:Rat):=by rw[z,X8]
  have s:((g:Int):Rat)≠0:=by
   intro h;apply c
   exact_mod_cast h
  have q:(k:Rat)≠0:=by
   intro h;apply w
   exact_mod_cast h
  rw[i,p];grind
 unfold Q.ratio;rw[m,n,o];split
 .rename_i f;have x:(⟨-y,-k⟩:Q).lo = -k:=by unfold Q.lo;simp only;rw[WX aD]
  refine ⟨⟨by show 0 <= -k;omega,by rw[x];simpa using e⟩,?_,by show 0 < -k;omega⟩;rw[gB,x,hv];have q:(k:Rat)≠0:=by
   intro h;apply w
   exact_mod_cast h
  simp only[aaG]
  grind
 .rename_i f;have x:(⟨y,k⟩:Q).lo=k:=by unfold Q.lo;simp only;rw[WX w]
  refine ⟨⟨by show 0<=k;omega,by rw[x];exact e⟩,?_,by show 0 < k;omega⟩;rw[gB,x,hv]
def AT {a:Q} (k:0<=a.low) (h:a.low<=1):a.lo=1:=by unfold Q.lo;split<;>omega
def zW (h:QV a):QV a.neg/\a.neg.val = -a.val:=by have k:a.neg.lo=a.lo:=rfl;refine ⟨⟨h.low,by rw[k];show Int.gcd (-a.top) a.lo=1;simpa using h.red⟩,?_⟩;rw[gB,gB,k];show ((-a.top:Int):Rat) / _=_;rw[aaG];grind
def oU (n:Int):QV ⟨n,0⟩/\(⟨n,0⟩:Q).val=(n:Rat):=by
 refine ⟨⟨Yn 0,by show Int.gcd n 1=1;simp⟩,?_⟩;rw[gB];show (n:Rat) / ((1:Int):Rat)=n
 grind
def zG {a b:Q} (y:QV a) (z:QV b):QV (a.add b)/\(a.add b).val=a.val+b.val:=by
 have e:=y.lo;have f:=z.lo;unfold Q.add;split
 .rename_i h;have ⟨k,x⟩:=oU (a.top+b.top);refine ⟨k,?_⟩;rw[x,gB,gB,AT y.low h.1,AT z.low h.2,Rat.intCast_add];grind
 .have ⟨k,x,_⟩:=qD (a:=a.top*b.lo+b.top*a.lo) (b:=a.lo*b.lo) (aah aD aD);refine ⟨k,?_⟩;have w:(a.lo:Rat)≠0:=by (intro h;have:a.lo=0:=by exact_mod_cast h);(omega)
  have c:(b.lo:Rat)≠0:=by (intro h;have:b.lo=0:=by exact_mod_cast h);(omega)
  rw[x,gB,gB,Rat.intCast_add,X8,X8,X8]
  grind
def EE {a b:Q} (y:QV a) (z:QV b):QV (a.mul b)/\(a.mul b).val=a.val*b.val:=by
 have e:=y.lo;have f:=z.lo;unfold Q.mul;split
 .rename_i h;have ⟨k,x⟩:=oU (a.top*b.top);refine ⟨k,?_⟩;rw[x,gB,gB,AT y.low h.1,AT z.low h.2,X8];grind
 .have ⟨k,x,_⟩:=qD (a:=a.top*b.top) (b:=a.lo*b.lo) (aah aD aD);refine ⟨k,?_⟩;have w:(a.lo:Rat)≠0:=by (intro h;have:a.lo=0:=by exact_mod_cast h);(omega)
  have c:(b.lo:Rat)≠0:=by (intro h;have:b.lo=0:=by exact_mod_cast h);(omega)
  rw[x,gB,gB,X8,X8]
  grind
def ju {a:Q} (k:0<=a.low):(a.top=0)=(a.val=0):=by
 have y:=Jj k;have x:(a.lo:Rat)≠0:=by (intro h;have:a.lo=0:=by exact_mod_cast h);(omega)
 rw[gB];refine propext ⟨fun h=>by rw[h];grind,fun h=>?_⟩;have:(a.top:Rat)=0:=by grind
 exact_mod_cast this
def zM (z:QV a) (w:QV b) (k:b.top≠0):QV (a.div b)/\(a.div b).val=a.val / b.val:=by
 have g:=z.lo;have i:=w.lo;unfold Q.div;have ⟨x,y,_⟩:=qD (a:=a.top*b.lo) (b:=a.lo*b.top) (aah aD k);refine ⟨x,?_⟩;have c:(a.lo:Rat)≠0:=by (intro h;have:a.lo=0:=by exact_mod_cast h);(omega)
 have e:(b.lo:Rat)≠0:=by (intro h;have:b.lo=0:=by exact_mod_cast h);(omega)
 have f:(b.top:Rat)≠0:=by intro h;exact k (by exact_mod_cast h)
 rw[y,gB,gB,X8,X8]
 grind
def vG (z:QV a) (w:QV b):QV (a.sub b)/\(a.sub b).val=a.val - b.val:=by have ⟨h,k⟩:=zW w;have ⟨x,y⟩:=zG z h;exact ⟨x,by show (a.add b.neg).val=_;rw[y,k];grind⟩
def np {a:Q} (b:0<=a.low):(a.top < 0)=(a.val < 0):=by
 have c:=Jj b;have k:(0:Rat) < (a.lo:Rat):=by exact_mod_cast c
 rw[gB];have x:(a.top:Rat) < 0↔a.top < 0:=by
  constructor
  .intro h;exact_mod_cast h
  .intro h;exact_mod_cast h
 refine propext ⟨fun h=>?_,fun h=>?_⟩
 .have y:=x.2 h;rw[Rat.div_def];have z:(0:Rat) < (a.lo:Rat)⁻¹:=Rat.inv_pos.2 k;have:=(abO z).2 y;simpa using this
 .apply x.1;rw[Rat.div_def] at h;have:=(abO k).2 h;have w:(a.top:Rat)*(a.lo:Rat)⁻¹*(a.lo:Rat)=a.top:=by grind
  rw[w] at this;simpa using this
def QV.le (w:QV a) {n d:Int} (j:0 < d) (h:a.val=(n:Rat) / (d:Rat)):ay a.top<=ay n/\ay a.lo<=ay d:=by
 have f:=w.lo;have g:(a.lo:Rat)≠0:=by (intro h;have:a.lo=0:=by exact_mod_cast h);(omega)
 have i:(d:Rat)≠0:=by (intro h;have:d=0:=by exact_mod_cast h);(omega)
 rw[gB] at h;have b:(a.top:Rat)*d=n*a.lo:=by grind
 have y:a.top*d=n*a.lo:=by exact_mod_cast b
 have z:a.lo ∣ d:=by
  have:a.lo ∣ a.top*d:=⟨n,y ▸ Yg _ _⟩;rw[<-abK,aaP] at this;rw[<-abK];refine Nat.Coprime.dvd_of_dvd_mul_left (m:=ay a.top) ?_ this;show Nat.gcd _ _=1;rw[abU];have:=w.red
  rwa [Int.gcd_eq_natAbs_gcd_natAbs] at this
 have ⟨k,x⟩:=z;have c:0 < k:=by
  rcases Int.lt_trichotomy k 0 with h | h | h
  .have:=Int.mul_neg_of_pos_of_neg f h;omega
  .rw[h] at x;simp at x;omega
  .exact h
 have e:n=a.top*k:=by
  rw[x] at y;have:(a.top*k)*a.lo=n*a.lo:=by rw[<-y];grind
  exact (Int.eq_of_mul_eq_mul_right aD this).symm
 constructor
 .rw[e,aaP];exact abx _ aD
 .rw[x,aaP];exact abx _ aD
def iH:(ah:Q).val=0:=by have:=(oU 0).2;exact this.trans (by exact_mod_cast rfl)
def lG:QV ah:=(oU 0).1
def tT:Q.one.val=1/\QV Q.one:=⟨((oU 1).2).trans (by exact_mod_cast rfl),(oU 1).1⟩
def Tab.cell (T:Tab) (i c:Nat):Q:=af (af T.cells i []) c ah
def Tab.dic (T:Tab):Dic where
 m:=ae T.cells
 w:=ae T.out
 bu:=fun i=>af T.aJ i 0
 out:=fun k=>af T.out k 0
 a:=fun i c=>(T.cell i c).val
 g:=fun c=>(af T.aN c ah).val
structure eL (T:Tab):Prop where
 bl:T.aJ.length=T.cells.length
 row:∀i,i < T.cells.length->(T.cells.getD i []).length=T.out.length+1
 gl:T.aN.length=T.out.length+1
 kQ:∀i,i < T.cells.length->∀x,x∈T.cells.getD i []->QV x
 vY:∀x,x∈T.aN->QV x
def jI {l:List Q} (h:∀x,x∈l->QV x) (c:Nat):QV (af l c ah):=by
 rcases Xe c (ae l) with y | y
 .exact h _ (cV y)
 .rw[show af l c ah=ah by simp[af,y]];exact lG
def eL.cell (h:eL T) (i c:Nat):QV (T.cell i c):=by
 unfold Tab.cell;rcases Xe i (ae T.cells) with x | x
 .exact jI (h.kQ i x) c
 .rw[show af T.cells i []=[] by simp[af,x]];exact lG
def ET (h:∀x,x∈row->QV x) (g:(af row (k+1) ah).top≠0) (f:c≠k+1):QV (nQ row k c)/\(nQ row k c).val = -((af row c ah).val / (af row (k+1) ah).val):=by
 unfold nQ;rw[WX f];have y:=jI h c;have j:=jI h (k+1);split
 .rename_i e;refine ⟨lG,?_⟩;rw[iH,(ju y.low).mp e];grind
 .have ⟨z,w⟩:=zM y j g;have ⟨a,b⟩:=zW z;exact ⟨a,by rw[b,w]⟩
def Bf (h:∀x,x∈row->QV x) (a:(af row (k+1) ah).top≠0) (l:k+1 < ae row) :
  (∀x,x∈cR row k->QV x)/\∀c,(af (cR row k) c ah).val=if c=k+1 then 1 / (af row (k+1) ah).val else -((af row c ah).val / (af row (k+1) ah).val):=by
 have o:=jI h (k+1);have ⟨m,n⟩:=tT;have ⟨e,f⟩:=zM n o a;constructor
 .intro x b;unfold cR at b;rcases Yq b with w | w
  .obtain ⟨c,_,rfl⟩:=Xf.1 w;by_cases y:c=k+1
   .subst y;unfold nQ;rw[W0 rfl];exact lG
   .exact (ET h a y).1
  .rw[w];exact e
 .intro c;by_cases y:c=k+1
  .subst y;rw[W0 rfl];have:af (cR row k) (k+1) ah=Q.one.div (af row (k+1) ah):=by unfold cR;simp[af,l]
   rw[this,f,m]
  .rw[WX y];rcases Xe c (ae row) with z | z
   .have:af (cR row k) c ah=nQ row k c:=by unfold cR;rw[dd y];simp[af,z]
    rw[this];exact (ET h a y).2
   .have g:af (cR row k) c ah=ah:=by unfold cR;simp[af,z]
    have j:af row c ah=ah:=by simp[af,z]
    rw[g,j,iH];grind
def jW:ae (cR row k)=ae row:=by simp[cR]
def vu (j:∀x,x∈l->QV x) (o:∀x,x∈fresh->QV x) (h:ae fresh=ae l) (G:k+1 < ae l) :
  (∀x,x∈di l fresh k->QV x)/\∀c,(af (di l fresh k) c ah).val=(if c=k+1 then 0 else (af l c ah).val)+(af l (k+1) ah).val*(af fresh c ah).val:=by
 have q:=jI j (k+1);unfold di;split
 .rename_i B;have b:=(ju q.low).mp B;refine ⟨j,fun c=>?_⟩;by_cases y:c=k+1
  .subst y;rw[W0 rfl,b];grind
  .rw[WX y,b];grind
 .generalize D:af l (k+1) ah=f at *;have key:∀a x:Q,QV a->QV x->QV (jf f a x)/\(jf f a x).val=a.val+f.val*x.val:=by
   intro a x r t;unfold jf;split
   .rename_i w;refine ⟨r,?_⟩;rw[(ju t.low).mp w];grind
   .have ⟨E,F⟩:=EE q t;have ⟨v,H⟩:=zG r E;exact ⟨v,by rw[H,F]⟩
  have A:∀c,c < ae l->af (l.set (k+1) ah) c ah=if c=k+1 then ah else af l c ah:=by
   intro c y;by_cases z:c=k+1
   .subst z;simp[af,y]
   .rw[WX z];simp[af,XS (Xg z)]
  have mw:∀c,c < ae l->af (List.zipWith (jf f) (l.set (k+1) ah) fresh) c ah=jf f (af (l.set (k+1) ah) c ah) (af fresh c ah):=by intro c y;have w:c < ae (l.set (k+1) ah):=bk y;have C:c < ae fresh:=aD;simp[af,List.getElem?_zipWith,C,y]
  have s:∀c,QV (af (l.set (k+1) ah) c ah):=fun c=>jI (fun x n=>by
   rcases Yq n with w | w
   .exact j x w
   .rw[w];exact lG) c;constructor
  .intro x n;obtain ⟨c,y,rfl⟩:=Yz.1 n;have g:c < ae l:=by simp at y;omega
   have:=mw c g;have e:∀m:List Q,∀p:c < ae m,af m c ah=m[c]:=fun m p=>by simp[af,p]
   rw[e _ y] at this;rw[this];exact (key _ _ (s c) (jI o c)).1
  .intro c;rcases Xe c (ae l) with y | y
   .rw[mw c y,(key _ _ (s c) (jI o c)).2,A c y];by_cases z:c=k+1
    .rw[W0 z,W0 z,iH]
    .rw[WX z,WX z]
   .have K:af (List.zipWith (jf f) (l.set (k+1) ah) fresh) c ah=ah:=by simp only[af];rw[Xv cE];rfl
    have X:af fresh c ah=ah:=by simp[af,show ae fresh<=c by omega]
    have W:af l c ah=ah:=by simp[af,y]
    rw[K,X,W,iH,WX aD];grind
def cS {T:Tab} {i k:Nat}:(T.cu i k).cells.length=ae T.cells:=wP
def xJ {T:Tab} {i k r:Nat} (h:r < ae T.cells):(T.cu i k).cells.getD r []=if r=i then cR (af T.cells i []) k else di (af T.cells r []) (cR (af T.cells i []) k) k:=by
 show af (eG _ _ _ _ _) r []=_;rw[wO h];split
 .rfl
 .rfl
section
variable {T:Tab} {i k:Nat}
def eL.cu (h:eL T) (a:i < ae T.cells) (c:k < ae T.out) (b:(T.cell i (k+1)).top≠0):eL (T.cu i k):=by
 have y:=h.row i a;have ⟨w,_⟩:=Bf (h.kQ i a) b aD;refine ⟨?_,fun r x=>?_,?_,fun r x=>?_,?_⟩
 .rw[cS];simp[Tab.cu,h.bl]
 .rw[cS] at x;have z:=h.row r x;rw[xJ x,iu];split
  .rw[jW,y]
  .rw[vq (by rw[jW];omega),z]
 .rw[iu];show ae (di _ _ _)=_;rw[vq (by rw[jW,y,h.gl]),h.gl]
 .rw[cS] at x;have z:=h.row r x;rw[xJ x];split
  .exact w
  .exact (vu (h.kQ r x) w (by rw[jW];omega) aD).1
 .exact (vu h.vY w (by rw[jW,y,h.gl]) (by rw[h.gl];omega)).1
def jL (h:eL T) (a:i < ae T.cells) (l:k < ae T.out) (m:(T.cell i (k+1)).top≠0):(T.cu i k).dic=T.dic.b9 i k:=by
 have b:=h.row i a;have ⟨e,j⟩:=Bf (h.kQ i a) m aD;have w:∀c,(af (cR (af T.cells i []) k) c ah).val=T.dic.fresh i k c:=fun c=>by rw[j];rfl
 unfold Tab.dic Dic.b9;simp only[Dic.mk.injEq];refine ⟨cS,iu T i k,?_,?_,?_,?_⟩
 .funext r;show af (T.aJ.set i (af T.out k 0)) r 0=dQ _ _ _ r;unfold dQ;by_cases x:r=i
  .rw[W0 x,x];exact dS (h.bl ▸ a)
  .rw[WX x];exact dd x
 .funext q;show af (T.out.set k (af T.aJ i 0)) q 0=dQ _ _ _ q;unfold dQ;by_cases z:q=k
  .rw[W0 z,z];exact dS l
  .rw[WX z];exact dd z
 .funext r c;rcases Xe r (ae T.cells) with x | x
  .have n:=h.row r x;unfold Tab.cell;rw[xJ x];by_cases y:r=i
   .rw[W0 y,W0 y];exact w c
   .rw[WX y,WX y,(vu (h.kQ r x) e (by rw[jW];omega) aD).2 c,w];rfl
  .have f:∀c,(T.cu i k).cell r c=ah:=fun c=>by unfold Tab.cell;rw[show (T.cu i k).cells.getD r []=[] by simp only[af];rw[Xv (by rw[cS];exact x)];rfl];rfl
   have g:∀c,T.cell r c=ah:=fun c=>by unfold Tab.cell;rw[show af T.cells r []=[] by simp[af,x]];rfl
   rw[WX aD,f,iH];unfold Dic.di;simp only[g,iH];split<;>grind
 .funext c;show (af (di T.aN (cR (af T.cells i []) k) k) c ah).val=_;rw[(vu h.vY e (by rw[jW,b,h.gl]) (by rw[h.gl];omega)).2 c,w];rfl
end
def Tab.fr (T:Tab) (v:Int):Prop:=v < (T.n:Int)
def Tab.eQ (T:Tab) (v:Int):Prop:=T.fj v=aq
def Tab.dP (T:Tab) (v:Int):Prop:=T.cx v=aq
def xX (T:Tab) (v:Int) (h:T.fr v):¬T.dP v:=by unfold Tab.fr at h;unfold Tab.dP Tab.cx;simp;omega
def Fh (T:Tab) (v:Int) (h:T.fr v):¬T.eQ v:=by unfold Tab.fr at h;unfold Tab.eQ Tab.fj;simp;omega
def Fg (T:Tab) (v:Int) (h:T.eQ v):¬T.dP v:=by unfold Tab.eQ at h;unfold Tab.dP Tab.cx;simp[h]
def GN (T:Tab) (v:Int):T.fr v\/T.eQ v\/T.dP v:=by
 by_cases h:T.fr v
 .exact .inl h
 .by_cases k:T.eQ v
  .exact .inr (.inl k)
  .right;right;unfold Tab.fr at h;unfold Tab.eQ at k;unfold Tab.dP Tab.cx;simp[k];omega
structure yk (n:Nat) (aI:List bV) (M:Int):Prop where
 n1:n < 900000
 r1:aI.length < 900000
 m1:1<=M
 g1:grow M (n+1) < 4294967296 ^ 100000
def Jm {q:Q} {d M:Int} (k:QV q) (x:d≠0) (f:-M<=d) (g:d<=M) (w:M < 4294967296 ^ 100000) (h:Num M d q.val):QOk 100000 q:=by
 have ⟨n,i,j,y⟩:=h;have key:ay q.top<=az M/\ay q.lo<=az M:=by
  rcases Int.lt_or_gt_of_ne x with z | z
  .have e:q.val=((-n:Int):Rat) / ((-d:Int):Rat):=by
    rw[y,aaG,aaG];have:=Ic x
    grind
   have ⟨a,b⟩:=k.le aD e;omega
  .have ⟨a,b⟩:=k.le aD y;omega
 have c:=J0 (n:=100000) (by omega) w;refine ⟨k.low,abk key.1 c,?_⟩;show ay q.low < _;have:ay q.low<=ay q.lo:=by unfold Q.lo;split<;>omega
 omega
def qR {n:Nat} {aI:List bV} {M:Int} {z:Dic} {T:Tab} (S:yk n aI M) (hv:eL T) (r:Und z T.dic) (p:z.Dis) (o:CD M z) (t:T.n=n) (q:T.aI=aI) (hm:ae T.cells<=ae aI+1) (s:ae T.out<=n+1):eg T:=by
 have ⟨E,a,b,f,j,m⟩:=r.bound p o S.m1;have g:=Int.lt_of_le_of_lt (CA S.m1 s) S.g1;have v:=S.n1;have H:=S.r1;refine ⟨aD,by rw[q];omega,hv.bl,aD,aD,hv.row,hv.gl,fun i w x y=>?_,fun x y=>?_⟩
 .obtain ⟨c,h,rfl⟩:=Yz.1 y;have k:=hv.row i w;have:=j i w c (by show c<=ae T.out;omega);refine Jm (hv.kQ i w _ y) a b f g ?_;have e:T.cell i c=(af T.cells i [])[c]:=by unfold Tab.cell;generalize af T.cells i []=l at *;simp[af,h]
  rw[<-e];exact this
 .obtain ⟨c,h,rfl⟩:=Yz.1 y;have k:=hv.gl;have:=m c (by show c<=ae T.out;omega);refine Jm (hv.vY _ y) a b f g ?_;have e:af T.aN c ah=T.aN[c]:=by simp[af,h]
  rw[<-e];exact this
section
variable {T:Tab}
def oL (hv:eL T) (i c:Nat):((T.cell i c).top < 0)=((T.cell i c).val < 0):=np (hv.cell i c).low
def lB (hv:eL T) (i c:Nat):((T.cell i c).top=0)=((T.cell i c).val=0):=ju (hv.cell i c).low
def uU (hv:eL T) (c:Nat):((af T.aN c ah).top < 0)=((af T.aN c ah).val < 0):=np (jI hv.vY c).low
def I8 (hv:eL T) (c:Nat):((af T.aN c ah).top=0)=((af T.aN c ah).val=0):=ju (jI hv.vY c).low
def zk (T:Tab) (c:Nat):(T.dL c < 0->∀q,q < c->T.cx (af T.out q 0)=aq->¬(af T.aN (q+1) ah).top < 0) /\
  (0<=T.dL c->T.cx (af T.out (az (T.dL c)) 0)=aq/\(af T.aN (az (T.dL c)+1) ah).top < 0/\∀q,q < c->T.cx (af T.out q 0)=aq->(af T.aN (q+1) ah).top < 0->af T.out (az (T.dL c)) 0<=af T.out q 0):=by
 induction c with
 | zero=>exact ⟨fun _ q i=>aD,fun h=>by simp[Tab.dL] at h⟩
 | succ c m =>
  have ⟨w,y⟩:=m;rw[te];unfold lH;split
  .rename_i h;have ⟨j,l,a⟩:=h;refine ⟨fun f=>aD,fun _=>⟨bk j,bk l,fun q i x z=>?_⟩⟩;rw[Xd];by_cases k:q=c
   .rw[k];exact Yn _
   .rcases a with a | a
    .exact absurd z (w a q aD x)
    .rcases Za (T.dL c) 0 with b | b
     .exact absurd z (w b q aD x)
     .exact abu (Int.le_of_lt a) ((y b).2.2 q aD x z)
  .rename_i h;refine ⟨fun f q i x=>?_,fun g=>⟨(y g).1,(y g).2.1,fun q i x z=>?_⟩⟩
   .by_cases k:q=c
    .subst k;exact fun z=>h ⟨x,z,.inl f⟩
    .exact w f q aD x
   .by_cases k:q=c
    .subst k;exact aaC.1 fun e=>h ⟨x,z,.inr e⟩
    .exact (y g).2.2 q aD x z
def mU (hv:eL T) (w:(T.cell i (k+1)).top≠0):QV (T.quot k i)/\(T.quot k i).val=(T.cell i 0).val / -(T.cell i (k+1)).val:=by have ⟨y,z⟩:=zW (hv.cell i (k+1));have ⟨h,x⟩:=zM (hv.cell i 0) y (by show -_≠0;omega);exact ⟨h,z ▸ x⟩
def AU (hv:eL T) (k c:Nat):((T.df k c).1 < 0->∀p,p < c->T.cx (af T.aJ p 0)=aq->¬(T.cell p (k+1)).top < 0) /\
  (0<=(T.df k c).1->∀p,p < c->T.cx (af T.aJ p 0)=aq->(T.cell p (k+1)).top < 0->(T.quot k (T.df k c).1.toNat).val<=(T.quot k p).val /\
   ((T.quot k (T.df k c).1.toNat).val=(T.quot k p).val->T.aJ.getD (T.df k c).1.toNat 0<=af T.aJ p 0)):=by
 induction c with
 | zero=>exact ⟨fun _ p n=>aD,fun h=>by simp[Tab.df] at h⟩
 | succ c W =>
  have ⟨f,b⟩:=W;have ⟨A,B,l⟩:=qy T k c;rw[uX];unfold jE;split
  .rename_i h;have ⟨C,D⟩:=h;have qc:=mU hv (k:=k) (i:=c) (by show (af (af T.cells c []) (k+1) ah).top≠0;omega);split
   .rename_i y;refine ⟨fun e=>by (have:((c:Nat):Int) < 0:=e);(omega),fun _ p n z w=>?_⟩;show (T.quot k (az ((c:Nat):Int))).val<=_/\(_->af T.aJ (az ((c:Nat):Int)) 0<=_);rw[Xd];by_cases x:p=c
    .rw[x];exact ⟨aao,fun _=>Yn _⟩
    .rcases Za (T.df k c).1 0 with m | m
     .exact absurd w (f m p aD z)
     .have ⟨o,t,v⟩:=l m;have ⟨E,X⟩:=b m p aD z w;have s:=mU hv (k:=k) (i:=(T.df k c).1.toNat) (by show (af (af T.cells _ []) (k+1) ah).top≠0;omega);have ⟨g,j⟩:=vG qc.1 s.1;rw[o] at y;rcases y with y | y | ⟨y,H⟩
      .omega
      .have:(T.quot k c).val - (T.quot k (T.df k c).1.toNat).val < 0:=j ▸ (np g.low).mp y;exact ⟨by grind,fun q=>by grind⟩
      .have:(T.quot k c).val - (T.quot k (T.df k c).1.toNat).val=0:=j ▸ (ju g.low).mp y;exact ⟨by grind,fun q=>abu (Int.le_of_lt H) (X (by grind))⟩
   .rename_i y;have a:=aaC.1 fun e=>y (.inl e);have ⟨o,t,v⟩:=l a;refine ⟨fun e=>aD,fun _ p n z w=>?_⟩;by_cases x:p=c
    .subst x;have s:=mU hv (k:=k) (i:=(T.df k p).1.toNat) (by show (af (af T.cells _ []) (k+1) ah).top≠0;omega);have ⟨g,j⟩:=vG qc.1 s.1;rw[o] at y;have n1:=fun K=>y (.inr (.inl K));rw[np g.low,j] at n1;refine ⟨by grind,fun q=>aaC.1 fun r=>y (.inr (.inr ⟨?_,r⟩))⟩;rw[ju g.low,j,q];grind
    .exact b a p aD z w
  .rename_i h;refine ⟨fun e p n z=>?_,fun a p n z w=>?_⟩
   .by_cases x:p=c
    .subst x;exact fun w=>h ⟨z,w⟩
    .exact f e p aD z
   .by_cases x:p=c
    .subst x;exact absurd ⟨z,w⟩ h
    .exact b a p aD z w
def uM (hv:eL T) {o:Tab} (h:T.iO = .inl o):∃i k,o=T.cu i k/\i < ae T.cells/\k < ae T.out/\(T.cell i (k+1)).top≠0/\lC T.dP T.dic i k:=by
 unfold Tab.iO at h;split at h
 .simp at h
 .rename_i v;split at h
  .simp at h
  .rename_i X;cases h;have ⟨G,I⟩:=nI T (ae T.out);have ⟨_,K⟩:=zk T (ae T.out);have ⟨r,s,t⟩:=K (by unfold Tab.mw at v;omega);have ⟨B,C,D⟩:=qy T (az T.mw) (ae T.cells);have ⟨_,E⟩:=AU hv (az T.mw) (ae T.cells);have y:0<=(T.df (az T.mw) (ae T.cells)).1:=by unfold Tab.lv at X;omega
   have ⟨F,m,n⟩:=D y;have c:=E y;obtain ⟨k,g⟩:∃k,k=az T.mw:=⟨_,rfl⟩;obtain ⟨i,e⟩:∃i,i=az (T.lv k):=⟨_,rfl⟩;have f:(T.df k (ae T.cells)).1.toNat=i:=by rw[e];rfl
   have j:az (T.dL (ae T.out))=k:=by rw[g];rfl
   rw[j] at r s t;rw[<-g] at m n c y C B ⊢;rw[f] at m n c;rw[<-e];have a:k < ae T.out:=by unfold Tab.mw at g v;omega
   have w:i < ae T.cells:=by unfold Tab.lv at e;omega
   have H:(T.cell i (k+1)).top < 0:=m;refine ⟨i,k,rfl,w,a,aD,w,a,r,?_,fun q A b z=>?_,n,?_,fun p l b z=>?_,fun p l b z W=>?_⟩
   .exact (uU hv _).mp s
   .exact t q A b ((uU hv _).mpr z)
   .exact (oL hv _ _).mp H
   .have x:=(oL hv _ _).mpr z;have:=(c p l b x).1;rw[(mU hv aD).2,(mU hv aD).2] at this;exact this
   .have x:=(oL hv _ _).mpr z;refine (c p l b x).2 ?_;rw[(mU hv aD).2,(mU hv aD).2];exact W
inductive G0 (T:Tab):Int->Prop
 | pT:(∀k,k < T.dic.w->T.dP (T.dic.out k)->0<=T.dic.g (k+1))->G0 T (-1)
 | nS {k:Nat}:k < T.dic.w->T.dP (T.dic.out k)->T.dic.g (k+1) < 0->(∀i,i < T.dic.m->T.dP (T.dic.bu i)->0<=T.dic.a i (k+1))->G0 T (k:Int)
def IS (hv:eL T) {r:Int} (h:T.iO = .inr r):G0 T r:=by
 unfold Tab.iO at h;have ⟨n,o⟩:=nI T (ae T.out);have ⟨f,g⟩:=zk T (ae T.out);split at h
 .rename_i y;cases h;exact .pT fun k x a=>aai.1 fun z=>f y k x a ((uU hv _).mpr z)
 .rename_i y;split at h
  .rename_i j;cases h;have ⟨b,c,_⟩:=g (by unfold Tab.mw at y;omega);have ⟨m,_⟩:=AU hv (az T.mw) (ae T.cells);have e:=m j;obtain ⟨k,x⟩:∃k:Nat,T.mw=(k:Int):=⟨az T.mw,aD⟩;have w:T.dL (ae T.out)=(k:Int):=x;rw[w,Xd] at b c;rw[x,Xd] at e;rw[x];exact .nS (by show k < ae T.out;omega) b ((uU hv _).mp c) fun i l a=>aai.1 fun z=>e i l a ((oL hv _ _).mpr z)
  .simp at h
structure qU (D0:Dic) (n:Nat) (aI:List bV) (W m:Nat) (T:Tab):Prop where
 v:eL T
 pre:Pre D0 T.dic T.fr T.eQ T.dP
 mh:T.dic.jk T.dP
 tn:T.n=n
 tr:T.aI=aI
 tw:T.out.length=W
 tm:T.cells.length=m
def qU.cu (h:qU w n aI W m T) (x:i < ae T.cells) (y:k < ae T.out) (z:(T.cell i (k+1)).top≠0) (b:lC T.dP T.dic i k):qU w n aI W m (T.cu i k):=by
 have e:=jL h.v x y z;have c:T.dic.a i (k+1)≠0:=by have:=b.uI;grind
 refine ⟨h.v.cu x y z,?_,?_,h.tn,h.tr,by rw[iu,h.tw],by rw[cS,h.tm]⟩
 .rw[e];exact h.pre.b9 x y c b.si b.sk
 .rw[e];exact b.mh h.mh
def Gh {f:Dic} {n W m:Nat} {aI:List bV} {M:Int} (S:yk n aI M) (q:f.Dis) (I:CD M f) (G:W<=n+1) (hm:m<=ae aI+1) {lo:Int} {V:Nat} (w:∀v,f.Var v->lo<=v/\v < lo+V) (h:qU f n aI W m T):∃N g r,kx N T g r/\qU f n aI W m g/\G0 g r:=by
 have e:∀{T},qU f n aI W m T->eg T:=fun {T} h=>qR S h.v h.pre.fit.eM q I h.tn h.tr (by rw[h.tm];exact hm) (by rw[h.tw];exact G);obtain ⟨N,b,B⟩:=LF (α:=Tab) (next:=fun T=>match T.iO with | .inl g=>ak g | .inr _=>an) (dic:=Tab.dic) (sd:=T.dP) (lo:=lo) (V:=V) (fun X=>qU f n aI W m X/\X.n=T.n/\X.aI=T.aI)
  (fun a b j z=>by
   have ⟨j,l,o⟩:=j;have A:a.iO = .inl b:=by
    cases q:a.iO with
    | inl x=>rw[q] at z;simp at z;rw[z]
    | inr x=>rw[q] at z;simp at z
   obtain ⟨i,k,rfl,s,t,H,p⟩:=uM j.v A;have K:a.dP=T.dP:=by funext v;unfold Tab.dP Tab.cx Tab.fj;rw[l,o]
   exact ⟨⟨j.cu s t H p,l,o⟩,i,k,K ▸ p,jL j.v s t H⟩) ⟨h,rfl,rfl⟩ h.pre.fit.eM.bU h.mh (fun v hv=>w v (h.pre.fit.eM.var v hv));clear w
 induction B with
 | stop z =>
  rename_i a;cases y:a.iO with
  | inl x=>rw[y] at z;simp at z
  | inr r=>exact ⟨0,a,r,.stop (e h) y,h,IS h.v y⟩
 | go z B J =>
  rename_i N a b c;cases y:a.iO with
  | inr x=>rw[y] at z;simp at z
  | inl x =>
   rw[y] at z;simp at z;subst z;obtain ⟨i,k,rfl,s,t,H,p⟩:=uM h.v y;have ⟨C,g,r,D,E,F⟩:=J (h.cu s t H p);exact ⟨C+1,g,r,.go (e h) y D,E,F⟩
def kx.aR {P:Tab->Prop} {N:Nat} {y:Tab} {r:Int} (h:kx N T y r) (hv:eL T) (z:P T) (b:∀(X:Tab) (i k:Nat),eL X->X.n=T.n->X.aI=T.aI->P X->i < ae X.cells->k < ae X.out->(X.cell i (k+1)).top≠0->lC X.dP X.dic i k->P (X.cu i k)):P y:=by
 induction h with
 | stop=>exact z
 | go g e _ f =>
  obtain ⟨i,k,rfl,w,a,x,c⟩:=uM hv e;exact f (hv.cu w a x) (b _ i k hv rfl rfl z w a x c) fun X i k v n r=>b X i k v n r
end
def CE (h:∀i j,i < ae l->j < ae l->af l i 0=af l j 0->i=j) (y:k < ae l):cg l (af l k 0)=k:=by
 induction l generalizing k with
 | nil=>simp at y
 | cons a r f =>
  unfold cg;cases k with
  | zero=>simp
  | succ k =>
   have z:k < ae r:=bk y;have e:af (a::r) (k+1) 0=af r k 0:=aK;rw[e];have w:af r k 0≠a:=fun x=>by have:=h (k+1) 0 y aK (by rw[e,x];simp);omega
   rw[WX w,f (fun i j b c x=>by have:=h (i+1) (j+1) (bk b) (bk c) (bk x);omega) z,WX aD];omega
section
variable {T:Tab} {n:Nat} {aI:List bV} {D0:Dic}
def Gz (h:T.dic.Dis):∀i j,i < ae T.out->j < ae T.out->af T.out i 0=af T.out j 0->i=j:=h.oo
structure nq (D0:Dic) (n:Nat) (aI:List bV) (T:Tab):Prop where
 v:eL T
 fit:Fit D0 T.dic T.eQ
 tn:T.n=n
 tr:T.aI=aI
 tw:T.out.length=n
 tm:T.cells.length<=aI.length
 CY:∀k,k < T.out.length->T.fr (T.out.getD k 0)\/T.eQ (T.out.getD k 0)\/T.dP (T.out.getD k 0)
def nq.w (h:nq D0 n aI T) (S:yk n aI M) (x:D0.Dis) (k:CD M D0):eg T:=qR S h.v h.fit.eM x k h.tn h.tr (by have:=h.tm;omega) (by rw[h.tw];omega)
def nq.cu (h:nq D0 n aI T) (x:i < ae T.cells) (y:k < ae T.out) (z:(T.cell i (k+1)).top≠0):nq D0 n aI (T.cu i k):=by have e:=jL h.v x y z;have ne:=fun w=>z ((lB h.v _ _).mpr w);refine ⟨h.v.cu x y z,by rw[e];exact h.fit.b9 x y ne,h.tn,h.tr,by rw[iu,h.tw],by rw[cS];exact h.tm,fun q _=>GN (T.cu i k) _⟩
def fk {α:Type} {l:List α} {i:Nat} (h:i < ae l):ae (aB l i)=ae l - 1:=Xt h
def iq {α:Type} {l:List α} {i j:Nat} {d:α}:af (aB l i) j d=af l (sk i j) d:=by rw[getD_erase];unfold sk;split<;>rfl
def M3 (hv:eL T) (h:i < ae T.cells):(T.del i).dic=T.dic.del i:=by
 unfold Tab.dic Dic.del;simp only[Dic.mk.injEq];refine ⟨fk h,rfl,?_,rfl,?_,rfl⟩
 .funext r;exact iq
 .funext r c;show ((T.del i).cell r c).val=(T.cell (sk i r) c).val;have:(T.del i).cell r c=T.cell (sk i r) c:=by unfold Tab.cell;rw[show (T.del i).cells=aB T.cells i from rfl,iq]
  rw[this]
def eL.del {i:Nat} (hv:eL T) (k:i < ae T.cells):eL (T.del i):=by
 have x:(T.del i).cells.length=ae T.cells - 1:=fk k;have h:∀r,(T.del i).cells.getD r []=af T.cells (sk i r) []:=fun r=>iq;refine ⟨?_,fun r y=>?_,hv.gl,fun r y=>?_,hv.vY⟩
 .rw[x];show ae (aB T.aJ i)=_;rw[fk (by rw[hv.bl];exact k),hv.bl]
 .rw[h];exact hv.row _ (eJ aD)
 .rw[h];exact hv.kQ _ (eJ aD)
def Ax {M:Int} (S:yk n aI M) (t:D0.Dis) (s:CD M D0) {sd:Int->Prop}:∀(d i:Nat) {T:Tab},d=ae T.cells - i->i<=ae T.cells->nq D0 n aI T->(∀r,r < i->¬T.eQ (af T.aJ r 0))->(∀k,k < ae T.out->T.fr (af T.out k 0)\/T.eQ (af T.out k 0)) ->
  ∃N z res,Eqs N T i z res/\match res with
   | some _=>¬∃x,Pts D0 T.eQ sd x
   | none=>nq D0 n aI z/\(∀r,r < ae z.cells->¬z.eQ (af z.aJ r 0))
 | 0,i,T,I,hi,h,p,K=>⟨0,T,an,.done (h.w S t s) (by omega),h,fun r W=>p r (by omega)⟩
 | d+1,i,T,I,hi,h,p,K=>by
  have C:=h.w S t s;have y:i < ae T.cells:=aD;by_cases e:T.fj (af T.aJ i 0)=aq
  .have ⟨g1,g2⟩:=uQ T.out (T.gy i);have H:=Gz h.fit.eM.bU;have test:∀k,k < ae T.out->T.gy i (af T.out k 0)=(decide (af T.out k 0 < (T.n:Int)) && !decide ((T.cell i (k+1)).top=0)):=fun k f=>by unfold Tab.gy;rw[CE H f,show az ((k:Int)+1)=k+1 by omega];rfl
   by_cases c:0<=T.qn i
   .have ⟨E,_⟩:=AH (l:=T.out) (g:=T.gy i) c;obtain ⟨k,f⟩:∃k:Nat,T.qn i=(k:Int):=⟨az (T.qn i),aD⟩;have R:eA T.out (T.gy i)=(k:Int):=f;rw[R,Xd] at E;have m:k < ae T.out:=aD;rw[test k m] at E;simp at E;have ⟨t1,t2⟩:=E;have G:=h.cu y m t2;have a0:=h.v.bl;have ⟨N,z,res,A,B⟩:=Ax S t s (sd:=sd) d (i+1) (T:=T.cu i k) (by rw[cS];omega) (by rw[cS];omega) G (fun r W=>by
     show ¬T.eQ (af (T.aJ.set i (af T.out k 0)) r 0);by_cases b:r=i
     .subst b;rw[dS (by omega)];exact Fh T _ (by unfold Tab.fr;simpa using t1)
     .rw[dd b];exact p r aD) (fun q V=>by
     rw[iu] at V;show T.fr (af (T.out.set k (af T.aJ i 0)) q 0)\/T.eQ (af (T.out.set k (af T.aJ i 0)) q 0);by_cases X:q=k
     .subst X;rw[dS m];exact .inr e
     .rw[dd X];exact K q V);exact ⟨N+1,z,res,.Hy C y e f t2 A,B⟩
   .have an:∀k,k < ae T.out->T.dic.a i (k+1)=0\/T.eQ (T.dic.out k):=fun k f=>by
     rcases K k f with F | F
     .left;have L:T.gy i (af T.out k 0)=ar:=by
       cases hx:T.gy i (af T.out k 0) with
       | false=>rfl
       | true =>
        exfalso;have:0<=eA T.out (T.gy i):=aaC.1 fun o=>by
         have:∀l:List Int,∀g:Int->Bool,eA l g < 0->∀j,j < ae l->g (af l j 0)=ar:=by
          intro l g
          induction l with
          | nil=>intro _ j P;simp at P
          | cons a r ih =>
           intro o j P;unfold eA at o;split at o
           .simp at o
           .rename_i O;split at o
            .rename_i h3;cases j with
             | zero=>simpa using O
             | succ j=>simpa using ih h3 j (bk P)
            .omega
         rw[this T.out (T.gy i) o k f] at hx;simp at hx
        exact c this
      rw[test k f] at L;have U:af T.out k 0 < (T.n:Int):=F;rw[XB U,Yh] at L;have:(T.cell i (k+1)).top=0:=bk L;exact (lB h.v _ _).mp this
     .exact .inr F
    by_cases D:(T.cell i 0).top=0
    .have G:nq D0 n aI (T.del i):=⟨h.v.del y,by rw[M3 h.v y];exact h.fit.del y e ((lB h.v _ _).mp D) an,h.tn,h.tr,h.tw,by show ae (aB T.cells i)<=_;rw[fk y];have:=h.tm;omega,h.CY⟩;have hl:(T.del i).cells.length=ae T.cells - 1:=fk y;have ⟨N,z,res,A,B⟩:=Ax S t s (sd:=sd) d i (T:=T.del i) aD aD G (fun r W=>by
      show ¬T.eQ (af (aB T.aJ i) r 0);rw[iq];have:sk i r=r:=by unfold sk;rw[W0 W]
      rw[this];exact p r W) K;exact ⟨N+1,z,res,.drop C y e aD D A,B⟩
    .exact ⟨0,T,ak _,.bad C y e aD D,h.fit.none y e (fun h0=>D ((lB h.v _ _).mpr h0)) an⟩
  .have J:T.fj (af T.aJ i 0)=ar:=bk e;have ⟨N,z,res,A,B⟩:=Ax S t s (sd:=sd) d (i+1) (T:=T) aD aD h (fun r W=>by
    by_cases b:r=i
    .subst b;exact e
    .exact p r aD) K;exact ⟨N+1,z,res,.skip C y J A,B⟩
end
def zT (h:0<=cg l x):af l (az (cg l x)) 0=x:=by
 induction l with
 | nil=>simp[cg] at h
 | cons a r y =>
  unfold cg at h ⊢;split
  .rename_i k;simp[k]
  .grind
def BU (h:cg l x < 0):∀j,j < ae l->af l j 0≠x:=by
 induction l with
 | nil=>intro j k;simp at k
 | cons a r y =>
  unfold cg at h;split at h
  .simp at h
  .grind
def KV (h:eA l g < 0):∀j,j < ae l->g (af l j 0)=ar:=by
 induction l with
 | nil=>intro j k;simp at k
 | cons a r x =>
  intro j k;unfold eA at h;split at h
  .simp at h
  .grind
section
variable {T:Tab} {n:Nat} {aI:List bV} {D0:Dic}
def Ej (T:Tab) (k c:Nat):(T.dB k c < 0->∀i,i < c->T.cx (af T.aJ i 0)=aq->(T.cell i (k+1)).top=0) /\
  (0<=T.dB k c->T.dB k c < c/\T.cx (af T.aJ (az (T.dB k c)) 0)=aq/\(T.cell (az (T.dB k c)) (k+1)).top≠0):=by
 induction c with
 | zero=>exact ⟨fun _ i e=>aD,fun h=>by simp[Tab.dB] at h⟩
 | succ c f =>
  have ⟨w,g⟩:=f;rw[rk];split
  .grind
  .rename_i h;split
   .rename_i x;exact ⟨fun a=>aD,fun _=>⟨aD,bk x.1,by simpa[Tab.cell] using x.2⟩⟩
   .rename_i x;refine ⟨fun a i e b=>?_,fun j=>aD⟩;by_cases y:i=c
    .subst y;exact Zh fun z=>x ⟨b,z⟩
    .exact w a i aD b
def zR (h:nq D0 n aI T) (B:∀r,r < ae T.cells->¬T.eQ (af T.aJ r 0)):∀c,nq D0 n aI (T.cU c)/\(∀r,r < (T.cU c).cells.length->¬(T.cU c).eQ ((T.cU c).aJ.getD r 0)) /\
  ∀q,q < c->q < (T.cU c).out.length->(T.cU c).fr ((T.cU c).out.getD q 0)->∀i,i < (T.cU c).cells.length->(T.cU c).dP ((T.cU c).aJ.getD i 0)->(T.cU c).dic.a i (q+1)=0
 | 0=>⟨h,B,fun q W=>aD⟩
 | c+1=>by
  have ⟨g,K,p⟩:=zR h B c;rw[pV];generalize T.cU c=X at *;unfold Tab.k7;split
  .rename_i G;refine ⟨g,K,fun q W k l=>?_⟩;by_cases y:q=c
   .subst y;have:af X.out q 0 < (X.n:Int):=l;omega
   .exact p q aD k l
  .rename_i G;have ⟨D,E⟩:=Ej X c (ae X.cells);split
   .rename_i C;refine ⟨g,K,fun q W k l i s t=>?_⟩;by_cases y:q=c
    .subst y;exact (lB g.v _ _).mp (D C i s t)
    .exact p q aD k l i s t
   .rename_i C;have ⟨M,H,o⟩:=E aD;obtain ⟨i,s⟩:∃i:Nat,X.dB c (ae X.cells)=(i:Int):=⟨az (X.dB c (ae X.cells)),aD⟩;rw[s,Xd] at H o ⊢;have b:i < ae X.cells:=aD;have m:=g.v.row i b;have j:c < ae X.out:=by
     rcases Xe c (ae X.out) with A | A
     .exact A
     .exfalso;apply o;have:X.cell i (c+1)=ah:=by unfold Tab.cell;simp only[af] at m ⊢;rw[Xv aD];rfl
      rw[this];rfl
    have F:=g.v.bl;have e:=jL g.v b j o;have I:=g.cu b j o;refine ⟨I,fun r z=>?_,fun q W k l r z t=>?_⟩
    .rw[cS] at z;show ¬X.eQ (af (X.aJ.set i (af X.out c 0)) r 0);by_cases w:r=i
     .subst w;rw[dS aD];exact Fh X _ (by unfold Tab.fr;omega)
     .rw[dd w];exact K r z
    .rw[cS] at z;rw[iu] at k;have x:X.fr (af (X.out.set c (af X.aJ i 0)) q 0):=l;have f:X.dP (af (X.aJ.set i (af X.out c 0)) r 0):=t;have w:r≠i:=by rintro rfl;rw[dS aD] at f;exact xX X _ (by unfold Tab.fr;omega) f
     rw[dd w] at f;have y:q≠c:=by rintro rfl;rw[dS j] at x;exact xX X _ x H
     rw[dd y] at x;have J:=p q aD k x r z f;have L:=p q aD k x i b H;rw[e];show (if r=i then _ else X.dic.di i c (X.dic.a r) (q+1))=0;rw[WX w];unfold Dic.di Dic.fresh;rw[WX aD,WX aD,J,L];grind
def IZ (h:nq D0 n aI T) (a:∀r,r < ae T.cells->¬T.eQ (af T.aJ r 0)):nq D0 n aI T.qo/\Pre D0 T.qo.dic T.qo.fr T.qo.eQ T.qo.dP:=by have ⟨x,z,w⟩:=zR h a (ae T.out);have f:=xn T (ae T.out);exact ⟨x,x.fit,z,x.CY,fun k y b i c e=>w k (by (have:k < (T.cU (ae T.out)).out.length:=y);(omega)) y b i c e,xX _,Fh _,Fg _⟩
def Dv (hv:eL T) (c:Nat):(T.cz c < 0->∀r,r < c->T.cx (af T.aJ r 0)=aq->¬(T.cell r 0).top < 0) /\
  (0<=T.cz c->T.cx (af T.aJ (az (T.cz c)) 0)=aq/\(T.cell (az (T.cz c)) 0).top < 0/\∀r,r < c->T.cx (af T.aJ r 0)=aq->(T.cell r 0).top < 0->(T.cell (az (T.cz c)) 0).val<=(T.cell r 0).val):=by
 induction c with
 | zero=>exact ⟨fun _ q H=>aD,fun h=>by simp[Tab.cz] at h⟩
 | succ c t =>
  have ⟨f,x⟩:=t;rw[p8];unfold ji;have k:∀i,T.c0 i=T.cell i 0:=fun _=>rfl;split
  .rename_i h;have ⟨m,o,a⟩:=h;refine ⟨fun s=>aD,fun _=>⟨bk m,by simpa[k] using o,fun r l z w=>?_⟩⟩;rw[Xd];by_cases y:r=c
   .rw[y];exact aao
   .rcases Za (T.cz c) 0 with b | b
    .exact absurd w (f b r aD z)
    .have v:=(x b).2.2 r aD z w;rcases a with a | a
     .omega
     .have ⟨g,j⟩:=vG (hv.cell c 0) (hv.cell (az (T.cz c)) 0);rw[k,k,np g.low,j] at a
      grind
  .rename_i h;refine ⟨fun s r l z=>?_,fun e=>⟨(x e).1,(x e).2.1,fun r l z w=>?_⟩⟩
   .grind
   .by_cases y:r=c
    .subst y;have ⟨g,j⟩:=vG (hv.cell r 0) (hv.cell (az (T.cz r)) 0);have:¬((T.c0 r).sub (T.c0 (az (T.cz r)))).top < 0:=fun p=>h ⟨z,w,.inr p⟩;rw[k,k,np g.low,j] at this
     grind
    .exact (x e).2.2 r aD z w
def Tab.sb (T:Tab) (v:Int):Prop:=T.dP v/\∃i,i < T.dic.m/\T.dic.bu i=v
def wX (T:Tab):af T.ext.cells i []=if i < ae T.cells then T.my i else if i=ae T.cells then T.aN++[ah] else []:=by
 show af (T.gS (ae T.cells)++[T.aN++[ah]]) i []=_;rcases Yt i (ae T.cells) with h | h | h
 .rw[W0 h];have:=Ct (T:=T) (c:=ae T.cells) h;rw[W0 h] at this;rw[<-this];simp only[af];rw[Xc (by rw[fG];exact h)]
 .rw[WX aD,W0 h];simp[af,h,fG]
 .rw[WX aD,WX aD];simp only[af];rw[Xv (by simp[fG];omega)];rfl
def sE {α:Type} {l:List α} {a d:α} {c:Nat}:af (l++[a]) c d=if c=ae l then a else af l c d:=by grind
def M4 (hv:eL T):T.ext.dic=T.dic.more T.sb T.bF:=by
 unfold Tab.dic Dic.more;simp only[Dic.mk.injEq];refine ⟨by simp[Tab.ext,fG],by simp[Tab.ext,Tab.jC],?_,?_,?_,?_⟩
 .funext i;show af (T.aJ++[-1]) i 0=_;rw[sE,hv.bl];rcases Yt i (ae T.cells) with h | h | h
  .rw[WX (by omega),W0 h]
  .rw[W0 h,WX (by omega),W0 h]
  .rw[WX (by omega),WX (by omega),WX (by omega)];simp[af,show ae T.aJ<=i by rw[hv.bl];omega]
 .funext k;show af (T.out++[T.bF]) k 0=_;rw[sE];rcases Yt k (ae T.out) with h | h | h
  .rw[WX (by omega),W0 h]
  .rw[W0 h,WX (by omega),W0 h]
  .grind
 .funext i c;show (af (af T.ext.cells i []) c ah).val=_;rw[wX];rcases Yt i (ae T.cells) with h | h | h
  .rw[W0 h];have y:=hv.row i h;unfold Tab.my;rw[sE,y];by_cases x:c=ae T.out+1
   .rw[W0 x,W0 x];by_cases z:T.cx (af T.aJ i 0)=aq
    .rw[W0 z,W0 ⟨h,z,i,h,rfl⟩];exact tT.1
    .rw[WX z,WX (fun w=>z w.2.1)];exact iH
   .rw[WX x,WX x,WX (by omega)];rfl
  .rw[WX (by omega),W0 h,sE,hv.gl];by_cases x:c=ae T.out+1
   .rw[W0 x,W0 x,WX (fun w=>by omega)];exact iH
   .rw[WX x,WX x,W0 h]
  .rw[WX (by omega),WX (by omega)];have a:(af ([]:List Q) c ah).val=0:=iH;have b:(T.cell i c).val=0:=by unfold Tab.cell;rw[show af T.cells i []=[] by simp[af,show ae T.cells<=i by omega]];exact iH
   rw[a];split
   .rw[WX (fun w=>by omega)]
   .rw[WX (by omega),b]
 .funext c;show (af T.lI c ah).val=_;unfold Tab.lI;by_cases x:c=ae T.out+1
  .rw[W0 x,x,dS (by simp)];exact tT.1
  .rw[WX x,dd x];have:af (aA (ae T.out+2) (ah:Q)) c ah=ah:=by grind
   rw[this];exact iH
def eL.ext (hv:eL T):eL T.ext:=by
 have a:ae T.ext.out=ae T.out+1:=by simp[Tab.ext,Tab.jC]
 have w:ae T.ext.cells=ae T.cells+1:=by simp[Tab.ext,fG]
 refine ⟨by rw[w];simp[Tab.ext,hv.bl],fun i z=>?_,by rw[a];simp[Tab.ext,Tab.jC,Tab.lI],fun i z x y=>?_,fun x y=>?_⟩
 .rw[w] at z;rw[wX,a];by_cases h:i < ae T.cells
  .rw[W0 h];simp[Tab.my];have:=hv.row i h;simp only[af] at this;omega
  .rw[WX h,W0 aD];simp[hv.gl]
 .rw[w] at z;rw[wX] at y;by_cases h:i < ae T.cells
  .rw[W0 h] at y;unfold Tab.my at y;rcases Yc.1 y with k | k
   .exact hv.kQ i h x k
   .simp at k;rw[k];split
    .exact tT.2
    .exact lG
  .rw[WX h,W0 aD] at y;rcases Yc.1 y with k | k
   .exact hv.vY x k
   .simp at k;rw[k];exact lG
 .have y:=y;unfold Tab.lI at y;rcases Yq y with k | k
  .rw[(YM.1 k).2];exact lG
  .rw[k];exact tT.2
def Ip {T:Tab} {i k r c:Nat}:(T.cO i k).cell r c=T.cell (sk i r) (sk (k+1) c):=by
 unfold Tab.cell;show af (af ((aB T.cells i).map fun r=>aB r (k+1)) r []) c ah=_;have:af ((aB T.cells i).map fun r=>aB r (k+1)) r []=aB (af (aB T.cells i) r []) (k+1):=by grind
 rw[this,iq,iq]
def Bw (h:i < ae T.cells) (x:k < ae T.out):(T.cO i k).dic=T.dic.cO i k:=by
 unfold Tab.dic Dic.cO;simp only[Dic.mk.injEq];refine ⟨?_,?_,?_,?_,?_,?_⟩
 .show ae ((aB T.cells i).map _)=_;rw[W4,fk h]
 .exact fk x
 .funext r;exact iq
 .funext q;exact iq
 .funext r c;rw[Ip]
 .funext c;show (af (aB (af T.cells i []) (k+1)) c ah).val=_;rw[iq];rfl
def eL.cO {i k:Nat} (hv:eL T) (h:i < ae T.cells) (a:k < ae T.out):eL (T.cO i k):=by
 have b:(T.cO i k).cells.length=ae T.cells - 1:=by show ae ((aB T.cells i).map _)=_;rw[W4,fk h]
 have w:(T.cO i k).out.length=ae T.out - 1:=fk a;have z:∀r,(T.cO i k).cells.getD r []=aB (af T.cells (sk i r) []) (k+1):=fun r=>by
  have:af ((aB T.cells i).map fun r=>aB r (k+1)) r []=aB (af (aB T.cells i) r []) (k+1):=by grind
  show af ((aB T.cells i).map fun r=>aB r (k+1)) r []=_;rw[this,iq]
 refine ⟨?_,fun r c=>?_,?_,fun r c x y=>?_,fun x y=>?_⟩
 .rw[b];show ae (aB T.aJ i)=_;rw[fk (by rw[hv.bl];exact h),hv.bl]
 .rw[z,w,fk (by rw[hv.row _ (eJ aD)];omega),hv.row _ (eJ aD)];omega
 .rw[w];show ae (aB (af T.cells i []) (k+1))=_;rw[fk (by rw[hv.row i h];omega),hv.row i h];omega
 .rw[z] at y;exact hv.kQ _ (eJ aD) x (abw y)
 .exact hv.kQ i h x (abw y)
end
section
variable {T:Tab} {n:Nat} {aI:List bV} {D0:Dic} {M:Int}
structure Beg (D0:Dic) (n:Nat) (aI:List bV) (M:Int):Prop where
 S:yk n aI M
 bU:D0.Dis
 cd:CD M D0
 w:D0.w=n
 out:∀k,k < D0.w->D0.out k < (n:Int)
 var:∀v,D0.Var v->0<=v/\v < (n:Int)+aI.length
def Beg.SC (B:Beg D0 n aI M) (h:Pre D0 T.dic T.fr T.eQ T.dP) (y:T.n=n) (b:T.aI=aI):uC D0 T.eQ T.sb T.bF where
 he:=fun hv=>by have:=(B.var _ hv).2;unfold Tab.bF at this;rw[y,b] at this;omega
 hm:=fun hv=>dp ((B.var _ hv).1)
 zr:=by unfold Tab.bF;omega
 ee:=by unfold Tab.eQ Tab.fj Tab.bF;simp
 em:=by unfold Tab.eQ Tab.fj;simp;omega
 s0:=fun k a x=>by have z:=B.out k a;exact xX T _ (by unfold Tab.fr;rw[y];exact z) x.1
 se:=fun v x he=>Fg T v he x.1
 sv:=fun v x=>by obtain ⟨i,w,rfl⟩:=x.2;exact h.fit.eM.var _ (.inl ⟨i,w,rfl⟩)
def KS (T:Tab):T.dP T.bF:=by unfold Tab.dP Tab.cx Tab.fj Tab.bF;simp;omega
def Ez (T:Tab):¬T.dP (-1):=by unfold Tab.dP Tab.cx;simp;omega
structure He (D0:Dic) (X:Tab):Prop where
 pre:Pre D0 X.dic X.fr X.eQ X.dP
 loose:∀q,q < X.dic.w->X.fr (X.dic.out q)->X.dic.g (q+1)=0
 last:∃r,r < X.dic.m/\X.dic.bu r = -1
 ext:X.dic.Var X.bF
def He.cu (hv:eL X) (h:He D0 X) (x:i < ae X.cells) (y:k < ae X.out) (j:(X.cell i (k+1)).top≠0) (b:lC X.dP X.dic i k):He D0 (X.cu i k):=by
 have e:=jL hv x y j;have l:X.dic.a i (k+1)≠0:=by have:=b.uI;grind
 have c:(X.cu i k).bF=X.bF:=rfl;refine ⟨e ▸ h.pre.b9 x y l b.si b.sk,e ▸ h.pre.loose x y b.si h.loose,?_,by rw[e,c];exact (uh x y _).2 h.ext⟩;have ⟨r,f,w⟩:=h.last;have z:r≠i:=fun g=>Ez X (by rw[<-w,g];exact b.si);rw[e];exact ⟨r,f,by simp[Dic.b9,dQ,z,w]⟩
def M5 (B:Beg D0 n aI M) (h:nq D0 n aI T) (hp:Pre D0 T.dic T.fr T.eQ T.dP):∃T2 res,ur T T2 res/\match res with
  | some _=>¬∃x,Pts D0 T.eQ T.dP x
  | none=>∃m,m<=ae aI/\qU D0 n aI n m T2:=by
 have ⟨w1,w2⟩:=Dv h.v (ae T.cells);have ⟨w3,w4⟩:=uo T (ae T.cells);have S:=B.S;by_cases hw:T.yQ < 0
 .exact ⟨T,an,.KW hw,ae T.cells,h.tm,h.v,hp,fun r hr hs=>aai.1 fun hg=>w1 hw r hr hs ((oL h.v _ _).mpr hg),h.tn,h.tr,h.tw,rfl⟩
 .have d8:0<=T.yQ:=aD;have ⟨a1,a2,a3⟩:=w2 d8;obtain ⟨w,c2⟩:∃w:Nat,T.yQ=(w:Int):=⟨az T.yQ,aD⟩;have c3:T.cz (ae T.cells)=(w:Int):=c2;rw[c3,Xd] at a1 a2 a3;have c1:w < ae T.cells:=aD;have X:=B.SC hp h.tn h.tr;have se:=KS T;have sm:=Ez T;have ⟨f1,f2,f3,f4,f5⟩:=hp.first X (fun v=>abe) se sm c1 a1 ((oL h.v _ _).mp a2) (fun r hr hs=>by
   by_cases hg:(T.cell r 0).top < 0
   .exact .inl (a3 r hr hs hg)
   .exact .inr (aai.1 fun U=>hg ((oL h.v _ _).mpr U)))
  have a8:=M4 h.v;have P:=h.v.ext;have b7:ae T.ext.out=ae T.out+1:=by simp[Tab.ext,Tab.jC]
  have d3:ae T.ext.cells=ae T.cells+1:=by simp[Tab.ext,fG]
  have b1:(T.ext.cell w (ae T.out+1)).val=1:=by have:T.ext.dic.a w (ae T.out+1)=1:=a8 ▸ f1;exact this
  have a7:(T.ext.cell w (ae T.out+1)).top≠0:=fun h0=>by rw[lB P] at h0;rw[h0] at b1;exact absurd b1 aS
  have b6:ae T.out < ae T.ext.out:=aD;have b4:w < ae T.ext.cells:=aD;have t:=jL P b4 b6 a7;rw[a8] at t;have H:=EB (s:=T.sb) B.bU X.he X.hm X.zr;have O:=Nr (s:=T.sb) (e:=T.bF) B.cd S.m1;have a5:ae T.ext.out - 1=ae T.out:=aD;have D1:qU (D0.more T.sb T.bF) n aI (n+1) (ae T.cells+1) (T.ext.cu w (ae T.out)):=⟨P.cu b4 b6 a7,t ▸ f2,t ▸ f3,h.tn,h.tr,by rw[iu,b7,h.tw],by rw[cS,d3]⟩;have c0:∀v,(D0.more T.sb T.bF).Var v -> -1<=v/\v < -1+((n+ae aI+2:Nat):Int):=fun v hv=>by
   rcases (lj v).1 hv with A | A | A
   .have:=B.var v A;omega
   .rw[A];unfold Tab.bF;rw[h.tn,h.tr];omega
   .rw[A];omega
  have d7:=h.tm;obtain ⟨N,T3,r,g1,z,g3⟩:=Gh S H O (by omega) (show ae T.cells+1<=ae aI+1 by omega) c0 D1;have we:=qR S P (a8 ▸ (hp.more X (fun v=>abe) se sm).fit.eM) H O h.tn h.tr aD (by rw[b7,h.tw];omega);have k1:He (D0.more T.sb T.bF) (T.ext.cu w (ae T.out)):=⟨t ▸ f2,t ▸ f4,t ▸ f5,by rw[t];show ((T.dic.more T.sb T.bF).b9 w (ae T.out)).Var T.bF;exact (uh (D:=T.dic.more T.sb T.bF) (aaq c1) (YD _) _).2 ((lj _).2 (.inr (.inl rfl)))⟩;have k3:=g1.aR D1.v k1 fun Y i k v _ _ hP hi hk hp b=>hP.cu v hi hk hp b;have c6:∀{Y:Tab},qU (D0.more T.sb T.bF) n aI (n+1) (ae T.cells+1) Y->eg Y:=fun {Y} J=>qR S J.v J.pre.fit.eM H O J.tn J.tr (by rw[J.tm];omega) (by rw[J.tw];omega);have C:T3.bF=T.bF:=by unfold Tab.bF;rw[z.tn,z.tr,h.tn,h.tr]
  have same:T3.fr=T.fr/\T3.eQ=T.eQ/\T3.dP=T.dP:=by
   refine ⟨?_,?_,?_⟩
   .funext v;unfold Tab.fr;rw[z.tn,h.tn]
   .funext v;unfold Tab.eQ Tab.fj;rw[z.tn,z.tr,h.tn,h.tr]
   .funext v;unfold Tab.dP Tab.cx Tab.fj;rw[z.tn,z.tr,h.tn,h.tr]
  have ⟨I,b0,p⟩:=same;have p3:=z.pre;have l3:=k3.loose;have E:=z.mh;rw[I,b0,p] at p3;rw[I] at l3;rw[p] at E;have d1:∀k,k < T3.dic.w->T.dP (T3.dic.out k)->T3.dic.g (k+1) < 0->(∀i,i < T3.dic.m->T.dP (T3.dic.bu i)->0<=T3.dic.a i (k+1))->False:=fun k a b c d=>Jz p3 E se a b c d;have opt:∀k,k < T3.dic.w->T.dP (T3.dic.out k)->0<=T3.dic.g (k+1):=by
   cases g3 with
   | pT hb=>rw[p] at hb;exact hb
   | nS a b c d=>rw[p] at b d;exact (d1 _ a b c d).elim
  have V:(0 < (af T3.aN 0 ah).top)=(0 < T3.dic.g 0):=by
   have q:=jI z.v.vY 0;have A:=np q.low;have h2:=ju q.low;refine propext ⟨fun U=>?_,fun U=>?_⟩
   .have n1:¬(af T3.aN 0 ah).val < 0:=fun hx=>by rw[<-A] at hx;omega
    have n2:(af T3.aN 0 ah).val≠0:=fun hx=>by rw[<-h2] at hx;omega
    show 0 < (af T3.aN 0 ah).val
    grind
   .have U:0 < (af T3.aN 0 ah).val:=U;have n1:¬(af T3.aN 0 ah).top < 0:=fun hx=>by rw[A] at hx;grind
    have n2:(af T3.aN 0 ah).top≠0:=fun hx=>by rw[h2] at hx;grind
    omega
  have b3:∀T' res,uq T3 T' res->ur T T' res:=fun T' res hf => .go c2 we aD (by rw[a5];exact a7) (by rw[a5];exact g1) hf;by_cases R:0 < (af T3.aN 0 ah).top
  .exact ⟨T3,ak _,b3 _ _ (.bad R),HV p3 X sm l3 opt (V ▸ R)⟩
  .have b2:¬0 < T3.dic.g 0:=V ▸ R;have dN:∃k i:Nat,eL T3.dN/\Pre (D0.more T.sb T.bF) T3.dN.dic T.fr T.eQ T.dP/\T3.dN.dic.jk T.dP/\T3.dN.n=n/\T3.dN.aI=aI/\ae T3.dN.out=n+1/\ae T3.dN.cells=ae T.cells+1 /\
     cg T3.dN.out T3.bF=(k:Int)/\k < ae T3.dN.out/\T3.dN.dic.out k=T.bF/\cg T3.dN.aJ (-1)=(i:Int)/\i < ae T3.dN.cells/\T3.dN.dic.bu i = -1 /\
     (0<=cg T3.aJ T3.bF->0<=T3.iS (az (cg T3.aJ T3.bF))/\(af (af T3.cells (az (cg T3.aJ T3.bF)) []) (az (T3.iS (az (cg T3.aJ T3.bF)))+1) ah).top≠0):=by
    have fin:∀Y:Tab,eL Y->(∃r,r < Y.dic.m/\Y.dic.bu r = -1)->(∃q,q < Y.dic.w/\Y.dic.out q=T.bF)->∃k i:Nat,cg Y.out T3.bF=(k:Int)/\k < ae Y.out/\Y.dic.out k=T.bF/\cg Y.aJ (-1)=(i:Int)/\i < ae Y.cells/\Y.dic.bu i = -1:=by rintro Y J ⟨r,hr,W⟩ ⟨q,hq,d5⟩;have i1:=aaC.1 fun hn=>BU hn q hq (C ▸ d5);have i2:=aaC.1 fun hn=>BU hn r (J.bl ▸ hr) W;have j1:=(nf Y.out T3.bF).2;have j2:=(nf Y.aJ (-1)).2;have c7:=J.bl;refine ⟨az (cg Y.out T3.bF),az (cg Y.aJ (-1)),aD,aD,?_,aD,aD,zT i2⟩;have:=zT i1;rw[C] at this ⊢;exact this
    have ⟨r,hr,W⟩:=k3.last;by_cases hj:0<=cg T3.aJ T3.bF
    .obtain ⟨j,a9⟩:∃j:Nat,cg T3.aJ T3.bF=(j:Int):=⟨az (cg T3.aJ T3.bF),aD⟩;have F:=zT hj;have e4:=(nf T3.aJ T3.bF).2;have c7:=z.v.bl;rw[a9,Xd,C] at F;have o:j < ae T3.cells:=aD;have ⟨z0,q,q1,q2,q3⟩:=Jy hp p3 E X (fun v=>abe) se sm (i:=j) o F b2;have b5:=Gz z.pre.fit.eM.bU;have test:∀k,k < ae T3.out->T3.fV j (af T3.out k 0)=(T3.cx (af T3.out k 0) && !decide ((T3.cell j (k+1)).top=0)):=fun k hk=>by unfold Tab.fV;rw[CE b5 hk,show az ((k:Int)+1)=k+1 by omega];rfl
     have b8:∀v,T3.cx v=T.cx v:=fun v=>by unfold Tab.cx Tab.fj;rw[z.tn,z.tr,h.tn,h.tr]
     have a0:0<=T3.iS j:=aaC.1 fun hn=>by have:=KV hn q q1;rw[test q q1,b8] at this;have A:T.cx (af T3.out q 0)=aq:=q2;rw[A,Yh] at this;have h2:(T3.cell j (q+1)).top=0:=bk this;exact q3 ((lB z.v _ _).mp h2)
     have ⟨s1,_⟩:=AH (l:=T3.out) (g:=T3.fV j) a0;have j3:=(uQ T3.out (T3.fV j)).2;obtain ⟨k,hk⟩:∃k:Nat,T3.iS j=(k:Int):=⟨az (T3.iS j),aD⟩;have c9:eA T3.out (T3.fV j)=(k:Int):=hk;rw[c9,Xd] at s1;have K:k < ae T3.out:=aD;rw[test k K] at s1;simp only[WZ] at s1;have t2:(T3.cell j (k+1)).top≠0:=bk s1.2;have y:T3.dN=T3.cu j k:=by unfold Tab.dN;rw[WX (by omega),a9,Xd,hk,Xd]
     have e:=jL z.v o K t2;have ne:=fun h0=>t2 ((lB z.v _ _).mpr h0);have d0:T.dP (T3.dic.out k):=by have:=s1.1;rw[b8] at this;exact this
     have c8:T.dP (T3.dic.bu j):=by have:T3.dic.bu j=T.bF:=F;rw[this];exact se
     have ⟨k',i',u1,u2,u3,u4,u5,u6⟩:=fin (T3.cu j k) (z.v.cu o K t2) ⟨r,e ▸ hr,by
      have d6:r≠j:=fun U=>by have A:T3.dic.bu j=T.bF:=F;rw[U,A] at W;exact X.zr W
      rw[e];simp[Dic.b9,dQ,d6,W]⟩ ⟨k,e ▸ K,by rw[e];simp[Dic.b9,dQ];exact F⟩;refine ⟨k',i',?_,?_,?_,?_,?_,?_,?_,?_,?_,?_,?_,?_,?_,?_⟩
     .rw[y];exact z.v.cu o K t2
     .rw[y,e];exact p3.b9 o K ne c8 d0
     .rw[y,e];exact E.flat o z0
     .rw[y];exact z.tn
     .rw[y];exact z.tr
     .rw[y,iu];exact z.tw
     .rw[y,cS];exact z.tm
     .rw[y];exact u1
     .rw[y];exact u2
     .rw[y];exact u3
     .rw[y];exact u4
     .rw[y];exact u5
     .rw[y];exact u6
     .intro _;rw[a9,Xd];exact ⟨a0,by rw[hk,Xd];exact t2⟩
    .have y:T3.dN=T3:=by unfold Tab.dN;rw[W0 (by omega)]
     have a4:=k3.ext;rw[C] at a4;have hq:∃q,q < T3.dic.w/\T3.dic.out q=T.bF:=by
      rcases a4 with ⟨q,hq,d4⟩ | h2
      .exact absurd (by rw[C];exact d4) (BU (show cg T3.aJ T3.bF < 0 by omega) q (by rw[z.v.bl];exact hq))
      .exact h2
     have ⟨k',i',u1,u2,u3,u4,u5,u6⟩:=fin T3 z.v ⟨r,hr,W⟩ hq;refine ⟨k',i',?_,?_,?_,?_,?_,?_,?_,?_,?_,?_,?_,?_,?_,?_⟩
     .rw[y];exact z.v
     .rw[y];exact p3
     .rw[y];exact E
     .rw[y];exact z.tn
     .rw[y];exact z.tr
     .rw[y];exact z.tw
     .rw[y];exact z.tm
     .rw[y];exact u1
     .rw[y];exact u2
     .rw[y];exact u3
     .rw[y];exact u4
     .rw[y];exact u5
     .rw[y];exact u6
     .intro U;exact absurd U hj
   have ⟨k,i,o1,o2,o3,o4,o5,o6,o7,o8,o9,d9,c4,G,e0,e1⟩:=dN;have wo:=qR S o1 o2.fit.eM H O o4 o5 aD aD;have d2:DJ T3:=⟨c6 z,wo,e1,by rw[o8];omega,by rw[c4];omega⟩;have f:T3.back=T3.dN.cO i k:=by unfold Tab.back;rw[o8,c4,Xd,Xd]
   have ⟨s1,s2⟩:=o2.cO o3 X G o9 e0 d9;have L:T3.back.n=n:=f ▸ o4;have a6:T3.back.aI=aI:=f ▸ o5;have e2:T3.back.fr=T.fr:=by funext v;unfold Tab.fr;rw[L,h.tn]
   have e3:T3.back.eQ=T.eQ:=by funext v;unfold Tab.eQ Tab.fj;rw[L,a6,h.tn,h.tr]
   have c5:T3.back.dP=T.dP:=by funext v;unfold Tab.dP Tab.cx Tab.fj;rw[L,a6,h.tn,h.tr]
   refine ⟨T3.back,an,b3 _ _ (.Ow R d2),ae T.cells,d7,?_,?_,?_,L,a6,?_,?_⟩
   .rw[f];exact o1.cO G o9
   .rw[e2,e3,c5,f,Bw G o9];exact s1
   .rw[c5,f,Bw G o9];exact s2
   .rw[f];show ae (aB T3.dN.out k)=_;rw[fk o9,o6];omega
   .rw[f];show ae ((aB T3.dN.cells i).map _)=_;rw[W4,fk G,o7];omega
end
section
variable {T:Tb} {D D0:Dic} {cm:List Nat} {i j:Nat}
end
section
variable {T:Tb} {D D0:Dic} {cm:List Nat} {i j n:Nat} {eq:Int->Prop}
end
section
variable {P:Program}
abbrev z6:List AV:=[.q0 0,.v0 ar,.nil,.q0 0,.v0 ar,.nil]
end
section
variable {n:Nat} {cs:List Cd} {v:Int}
end
section
variable {T:Tb} {D D0:Dic} {cm:List Nat} {i j n:Nat} {cs:List Cd} {M:Int}
end
section
variable {T:Tb} {D D0:Dic} {cm:List Nat} {i j n:Nat} {cs:List Cd} {M:Int}
end
section
variable {T:Tb} {D D0:Dic} {cm:List Nat} {i j n:Nat} {cs:List Cd} {M:Int}
end
section
variable {T:Tb} {D D0:Dic} {cm:List Nat} {i j n:Nat} {cs:List Cd} {M:Int} {eq:Int->Prop}
end
section
variable {D0 D D1:Dic} {eq sd free:Int->Prop} {i k:Nat}
end
def Fm.val (f:Fm) (n:Nat) (u:Nat->Rat):Rat:=(f.a:Rat)+bR n fun k=>((af f.c k 0:Int):Rat)*u k
def Cd.gP (c:Cd) (n:Nat) (u:Nat->Rat):Prop:=if c.e=aq then c.f.val n u=0 else 0<=c.f.val n u
def fB (n:Nat) (cs:List Cd) (u:Nat->Rat):Prop:=∀c,c∈cs->c.gP n u
section
variable {n:Nat} {cs:List Cd} {f:Fm} {M:Int}
end
section
variable {P:Program}
def bg (a b:AV):Prop:=∀(I:Imm) (β:Bet) v,Rel I β a v->Rel I β b v
def bg.refl (a:AV):bg a a:=fun _ _ _ h=>h
def dX (k:Nat):bg .nil (.seq k ar []):=fun _ _ _ h=>h.Kg (.HL k)
def gY (xs ys:List (List AV)):Prop:=ae xs=ae ys/\∀(i:Nat) x y,xs[i]?=ak x->ys[i]?=ak y->ae x=ae y/\y.all bh=aq/\∀(j:Nat) a b,x[j]?=ak a->y[j]?=ak b->bg a b
def gY.get {xs ys:List (List AV)} (h:gY xs ys) {i:Nat} {y:List AV} (z:ys[i]?=ak y):∃x,xs[i]?=ak x/\ae x=ae y/\y.all bh=aq/\∀(j:Nat) a b,x[j]?=ak a->y[j]?=ak b->bg a b:=by
 have k:i < ae xs:=by rw[h.1];exact (W9.1 z).1
 exact ⟨xs[i],W7 k,h.2 i _ y (W7 k) z⟩
def gY.cell {xs ys:List (List AV)} (h:gY xs ys) {i j:Nat} {b:AV} (k:cJ ys i j=ak b):∃a,cJ xs i j=ak a/\bg a b:=by unfold cJ at k ⊢;have ⟨y,g,z⟩:=W5.1 k;have ⟨x,f,c,_,e⟩:=h.get g;have w:j < ae x:=c ▸ (W9.1 z).1;exact ⟨x[j],by rw[f];exact W7 w,e j _ b (W7 w) z⟩
def gY.of_map {α:Type} {f g:α->List AV} (l:List α) (h:∀a,a∈l->ae (f a)=ae (g a)/\(g a).all bh=aq/\∀(j:Nat) x y,(f a)[j]?=ak x->(g a)[j]?=ak y->bg x y):gY (l.map f) (l.map g):=by refine ⟨aK,fun i x y w k=>?_⟩;rw[Ys] at w k;obtain ⟨a,z,rfl⟩:=Xi.1 w;rw[z] at k;simp only[XL,aap] at k;subst k;exact h a (XJ z)
def gY.append {xs ys a vs:List (List AV)} (h:gY xs ys) (g:gY a vs):gY (xs++a) (ys++vs):=by
 refine ⟨by simp[h.1,g.1],fun i x y z w=>?_⟩;rcases Xe i (ae xs) with k | k
 .rw[Xc k] at z;rw[Xc (by rw[<-h.1];exact k)] at w;exact h.2 i x y z w
 .rw[Xk k] at z;rw[Xk (by rw[<-h.1];exact k),<-h.1] at w;exact g.2 _ x y z w
def xY {k:Nat} {f:Bool} {xs ys:List (List AV)} (h:gY xs ys) (r:∀y,y∈ys->ae y=k):bg (.seq k f xs) (.seq k f ys):=by
 intro I β v s;have z:=h.1;cases s with
 | gF g =>
  have:ys=[]:=Xy (bk z.symm);subst this;exact .gF g
 | seq H K l m X n =>
  rw[z];refine .seq H (fun y c=>?_) (fun i j a e=>?_) (fun i j a e=>?_) aD (fun p=>n p ▸ z)
  .have ⟨i,q⟩:=ZC.1 c;have ⟨x,_,_,o,_⟩:=h.get q;exact ⟨r y c,o⟩
  .have ⟨b,w,_⟩:=h.cell e;exact l i j b w
  .have ⟨b,w,t⟩:=h.cell e;exact t _ _ _ (m i j b w)
def lz (n:Nat) (H:aE):WkS n H H bg:=fun I β _ s=>⟨I,β,s,fun _ _ _ h k=>h _ _ _ k,fun _ _ _ _ _ _ h=>h⟩
def sC (h:bg a b):Fin n a H b H:=⟨_,lz n H,h⟩
inductive qV (R:AV->AV->Prop):Env->Env->Prop
 | nil:qV R [] []
 | cons {t:Nat} {a b:AV} {e e2:Env}:R a b->qV R e e2->qV R ((t,a)::e) ((t,b)::e2)
def qV.lk (h:qV R e k) (y:R .aY .aY) (t:Nat):R (lk t e) (lk t k):=by
 induction h with
 | nil=>exact y
 | cons x _ z =>
  rename_i s a b e k _;show R (if s=t then a else Fx.lk t e) (if s=t then b else Fx.lk t k);split
  .exact x
  .exact z
def qV.FB (h:qV R e x) (y:R .aY .aY) (z:WkS n H k R):s5 n e H x k:=z.FB fun t => .inr (h.lk y t)
def L7 (c:aH H i oi.ver=ak oi) (e:aH H j oj.ver=ak oj) (y:i≠j) (z:oi.xs.all (fun x=>x.all b8)=aq) (w:oj.xs.all (fun x=>x.all b8)=aq) :
  WkS n H ((H.set i an).set j an) (fun a b=>bg (dT j oj.ver oj.k oj.xs (dT i oi.ver oi.k oi.xs a)) b) :=
 (((lZ c z).trans (lZ (H:=H.set i an) ((aW y).trans e) w)).trans (lz n _)).sub fun a b h=>⟨_,⟨_,rfl,rfl⟩,h⟩
def L6 (z:aH H i oi.ver=ak oi) (y:oi.xs.all (fun x=>x.all b8)=aq) :
  WkS n H (H.set i an) (fun a b=>bg (dT i oi.ver oi.k oi.xs a) b) :=
 ((lZ z y).trans (lz n _)).sub fun a b h=>⟨_,rfl,h⟩
def bK.empty (h:∀p cap,bK P f (.c (.slice p 0 cap)::rest) H r H'):bK P f (.seq k b []::rest) H r H':=by
 refine ⟨(h an 0).1,fun I β w y s x=>?_⟩;cases y with
 | nil=>exact absurd x.1 aK
 | cons v y =>
  obtain ⟨p,cap,rfl,_⟩:=x.head.ku;exact (h p cap).2 I β w _ s (.cons (.c rfl) x.tail)
def Ep:∀t,2*grow M t=(2*M) ^ (2 ^ t)
 | 0=>by rw[Nat.pow_zero,YR,abT,YO];rfl
 | t+1=>by have:=Ep (M:=M) t;rw[abS,Int.pow_mul,<-this];show 2*(2*(grow M t*grow M t))=_;rw[YR,YR,abT,YO];generalize grow M t=g;rw[Xw 2 g,ZH g 2 g]
abbrev M60:Int:=1152921504606846976
def Nf (h:n<=9):grow M60 n < 4294967296 ^ 100000:=by
 have z:grow M60 n<=grow M60 9:=CA aS h;have k:=Ep (M:=M60) 9;have x:(2*M60:Int)=2 ^ 61:=aS;rw[x,<-Int.pow_mul] at k;have y:(4294967296:Int) ^ 100000=2 ^ 3200000:=by have:(4294967296:Int)=2 ^ 32:=aS;rw[this,<-Int.pow_mul]
 have w:(2:Int) ^ (61*2 ^ 9) < 2 ^ 3200000:=Pd aS;have a:=rq (M:=M60) aS 9;rw[y];generalize (2:Int) ^ 3200000=X at *;generalize (2:Int) ^ (61*2 ^ 9)=Y at *;omega
structure gL (n:Nat) (cs:List Cd):Prop where
 n8:n<=8
 cl:cs.length<=120
 len:∀c,c∈cs->c.f.c.length=n
 a:∀c,c∈cs -> -M60<=c.f.a/\c.f.a<=M60
 c:∀c,c∈cs->∀x,x∈c.f.c -> -M60<=x/\x<=M60
def gL.of {n:Nat} {cs:List Cd} (h:jw n cs=aq):gL n cs:=by
 unfold jw at h;rw[WZ,Xm,W6] at h;have ⟨⟨e,g,i⟩,b⟩:=h;have z:∀c,c∈cs->((ae c.f.c:Int)=n)/\qh c.f.a=aq/\∀x,x∈c.f.c->qh x=aq:=fun c k=>by have:=b c k;unfold Fm.jd at this;rw[WZ,Xm,WZ,W6] at this;exact ⟨this.1.2.2,this.2.1,this.2.2⟩
 have w:∀x,qh x=aq -> -M60<=x/\x<=M60:=fun x y=>by unfold qh at y;simpa using y
 exact ⟨aD,aD,fun c k=>by have:=(z c k).1;omega,fun c k=>w _ (z c k).2.1,fun c k x y=>w x ((z c k).2.2 x y)⟩
def gL.QE {n:Nat} {cs:List Cd} (h:gL n cs) {c:Cd} (k:c∈cs):FmI c.f :=
 ⟨by rw[h.len c k];have:=h.n8;omega,fun x y=>by have:=h.c c k x y;unfold I64;simp only[M60] at this;omega,by have:=h.a c k;unfold I64;simp only[M60] at this;omega⟩
open Classical in
noncomputable def sG (n:Nat) (cs:List Cd):Bool:=decide (¬∃u,fB n cs u)
def DI (n:Nat) (cs:List Cd) (v:Nat):Prop:=(∃B,∀u,fB n cs u->B<=u v)/\∃B,∀u,fB n cs u->B <= -u v
open Classical in
noncomputable def xC (n:Nat) (cs:List Cd):Bool:=decide (∀v,v < n->DI n cs v)
def yE (h:∃u,fB n cs u):sG n cs=ar:=by unfold sG;rw[YI];exact fun k=>k h
open Classical in
def B6 (h:¬∃u,fB n cs u):sG n cs=aq:=by unfold sG;exact XB h
def Ji (hv:v < n) (h:¬DI n cs v):xC n cs=ar:=by unfold xC;rw[YI];exact fun k=>h (k v hv)
open Classical in
def OH (h:∀v,v < n->DI n cs v):xC n cs=aq:=by unfold xC;exact XB h
noncomputable def kO (n:Nat) (cs:List Cd):Bool := !sG n cs&&xC n cs
end
end Go.Fx
