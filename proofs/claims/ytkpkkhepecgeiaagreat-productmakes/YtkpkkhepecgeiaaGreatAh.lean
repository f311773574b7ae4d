/- ProductMakes returns true whatever its arguments are: part 8 of 14. No condition. -/
import Derived.Test.YtkpkkhepecgeiaaGreatAg
import Derived.Test.YtkpkkhepecgeiaaGreatAf
set_option linter.all false
set_option maxRecDepth 8000
set_option maxHeartbeats 9000000
set_option autoImplicit true
set_option relaxedAutoImplicit true
namespace Go.Fx
open Go.Proofs.Tryz
open List renaming length->ae,getD->af,replicate->aA,eraseIdx->aB,range->aC
open Inhabited renaming default->ah
open Option renaming some->ak,none->an
open Bool renaming true->aq,false->ar
open Go.IntKind renaming wrap->au
open Int renaming natAbs->ay,toNat->az
section
variable {P:Program}
def XOk.div {a b:Nat} {x y:Rat} (h:XOk a x) (g:XOk b y) (z:y.num≠0):XOk (a+b) (x / y):=by
 have w:=h.1.mul g.2;have c:=h.2.mul g.1;have k:(x.den:Int)*y.num≠0:=akE (cn x.den_pos) z;rw[<-PO x y];refine ⟨w.le ?_,c.le ?_⟩
 .rw[ane];refine aiJ (amM _ _) ?_;rw[aln];rcases amF k with h | h
  .rw[ai0 h];simp
  .rw[ai5 h];simp
 .rw[anf,ah0 k];exact alA _ _
def Tb.sC (T:Tb) (col i:Nat):Rat:=(af T.aE i ah).add / -((af T.aE i ah).c.getD col 0)
def Tb.lR (T:Tb) (col:Nat) (s:Int × Rat) (i:Nat):Int × Rat :=
 if (af T.aE i ah).name < (T.n:Int)\/0<=((af T.aE i ah).c.getD col 0).num.sign then s else
 if 0<=s.1/\(0 < (T.sC col i - s.2).num.sign\/(T.sC col i - s.2).num.sign=0/\(af T.aE (az s.1) ah).name < (af T.aE i ah).name) then s else ((i:Int),T.sC col i)
def Tb.e8 (T:Tb) (col:Nat):Nat->Int × Rat
 | 0=>(-1,0)
 | i+1=>T.lR col (T.e8 col i) i
def Tb.tO (T:Tb) (col:Nat):Int:=(T.e8 col (ae T.aE)).1
def Gu {T:Tb} {col:Nat}:∀i,-1<=(T.e8 col i).1/\(T.e8 col i).1 < (i:Int)
 | 0=>by simp[Tb.e8]
 | i+1=>by
  have:=Gu (T:=T) (col:=col) i;simp only[Tb.e8,Tb.lR];split
  .omega
  .split<;>simp<;>omega
abbrev xZ:List AV:=[.q0 0,.v0 ar,.nil,.q0 0,.v0 ar,.nil]
def yp (s:Int × Rat):List AV:=if s.1 < 0 then xZ else xC s.2
def Ni {G:aF} {z b10:Nat} {x:Rat} {w:List AV} {i:Int} {m n h k y:AV} {Q:cx} {e:Env} (o:aI G z 0=ak ⟨6,0,[w]⟩) (a:aI G b10 0=ak ⟨6,0,[xC x]⟩) (t:ae w=6)
  (p:lk 0 e=m) (q:lk 3 e=n) (r:lk 7 e = .ptr z 0 0 0) (s:lk 8 e = .q0 i) (b:lk 10 e = .ptr b10 0 0 0) (c:lk 54 e=h) (f:lk 55 e=k) (g:lk 56 e=y)
  (j:Q .normal [(0,m),(3,n),(6,.q0 i),(7,.ptr z 0 0 0),(54,h),(55,k),(56,y)] (G.set z (ak ⟨6,0,[xC x]⟩))) :
  WP prog 119 lA Q e G:=by
 refine uz ?_;have v:=aK o;have l:=aK a
 match w,t with
 | [H,K,X,W,A,B],_ =>
  simp only[go_sem,↓reduceIte,ahZ,p,q,r,s,b,c,f,g,v,l]
  first | exact j | exact ⟨rfl,j⟩ | exact ⟨aR,j⟩
def YW {G:aF} {t k:Nat} {D:TbD} {T:Tb} {Q:cx} (h:TbR G t D T) (hk:k < ae T.aM.c) (hl:ae T.aE < 1000000) (nu:∀i,i < ae T.aE->ji (af T.aE i ah)/\(af T.aE i ah).c.length=ae T.aM.c)
  (hq:∀y er,aL G y []->Idl y->WP prog 119 lz Q ((0,.ptr t 0 0 0)::(3,.q0 (k:Int))::(6,.q0 (T.tO k))::er) y) {er:Env} :
  WP prog 119 fG Q ((0,.ptr t 0 0 0)::(3,.q0 (k:Int))::er) G:=by
 refine uz ?_;have O:=aP h.bF;have b0:∀z K,bk (G++z) t 0 K=K ⟨11,0,[bY T D]⟩:=fun z K=>aK (by rw[cJ O];exact h.bF) K;have b2:((k:Int) < 0)=False:=aie aD;have Ll:=h.aE.fN;have a2:ae (dO T.aE D.aV)=ae T.aE:=by simp[h.cl]
 rw[a2] at Ll;simp only[go_sem,↓reduceIte,b2,b0,bY,Ll];refine aZ (fun n e y=>∃i:Nat,i<=ae T.aE/\n=ae T.aE - i/\aL G y []/\Idl y/\aI y (ae G) 0=ak ⟨6,0,[yp (T.e8 k i)]⟩/\(0<=(T.e8 k i).1->XOk 2000000 (T.e8 k i).2) /\
  e=[(0,.ptr t 0 0 0),(3,.q0 (k:Int)),(6,.c (.int .i64 (T.e8 k i).1)),(7,.ptr (ae G) 0 0 0),(54,D.vl),(55,.q0 (ae T.aE:Int)),(56,.q0 (i:Int))])
  ⟨0,aD,rfl,aL.app _ _ _,h.fj.app (iI rfl),ct,fun h=>by simp[Tb.e8] at h,rfl⟩ ?_;rintro n _ y ⟨i,hi,hn,p,hI,g7,hx,rfl⟩;have l7:=aP g7;by_cases N:(i:Int) < (ae T.aE:Int)
 .have H:i < ae T.aE:=aD;have F:au .i64 ((i:Int)+1)=((i+1:Nat):Int):=by rw[wrap_i64 aD aD];rfl
  have ⟨a,ver,y1,tl,y2⟩:=h.aE.kP (h.qG (fun h0=>by rw[h0] at H;simp at H));rw[a2] at y1;have ⟨C,b4⟩:=nu i H;have X:=(h.rws i H).aQ p aO;have a5:∀K,bk y a ver K=K ⟨8,ver,dO T.aE D.aV++tl⟩:=aK (by rw[p.2 a (aP y2) aO];exact y2);have rO:∀z K,bk (y++z) a ver K=K ⟨8,ver,dO T.aE D.aV++tl⟩:=fun z K=>aK (by rw[cJ (aiB (aP y2) p.1),p.2 a (aP y2) aO];exact y2) K;have rE:∀j,j < ae T.aE->∀K,ElP (dO T.aE D.aV++tl) (0+j) K=K (cL (af T.aE j ah) (af D.aV j .ba)):=fun j hj=>iu (by rw[aia];exact uJ h.cl hj);have a4:=rE i H;have hT:∀z K,bk (y++z) t 0 K=K ⟨11,0,[bY T D]⟩:=fun z K=>aK (by rw[cJ (aiB O p.1),p.2 t O aO];exact h.bF) K;have I:T.e8 k (i+1)=T.lR k (T.e8 k i) i:=rfl;have hb:=Gu (T:=T) (col:=k) i;have a1:T.sC k i=(af T.aE i ah).add / -((af T.aE i ah).c.getD k 0):=rfl;generalize f:af T.aE i ah=l at *;generalize hv:af D.aV i .ba=v at *;generalize hs:T.e8 k i=s at *;have o9:cg (ae y+1) (ak (⟨8,0,[cL l v]⟩:bz))=aq:=by show ([cL l v].all fun x=>x.all (bp _))=aq;rw[ais,j8 (eS X.bp aD)];rfl
  have i9:=hI.app o9;have B:=i9.app (o:=ak (⟨6,0,[xC (T.sC k i)]⟩:bz)) (iI (by rw[ais,gR];rfl));rw[aio] at B;have same:∀z,s=T.e8 k (i+1)->Idl (y++z)->∃m,m < n/\∃g:Nat,g<=ae T.aE/\m=ae T.aE - g/\aL G (y++z) []/\Idl (y++z)/\aI (y++z) (ae G) 0=ak ⟨6,0,[yp (T.e8 k g)]⟩/\(0<=(T.e8 k g).1->XOk 2000000 (T.e8 k g).2) /\
    ([(0,.ptr t 0 0 0),(3,.q0 (k:Int)),(6,.q0 s.1),(7,.ptr (ae G) 0 0 0),(54,AV.sl 8 a ver 0 (ae T.aE)),(55,.q0 (ae T.aE:Int)),(56,.q0 ((i+1:Nat):Int))]:Env) =
     [(0,.ptr t 0 0 0),(3,.q0 (k:Int)),(6,.c (.int .i64 (T.e8 k g).1)),(7,.ptr (ae G) 0 0 0),(54,AV.sl 8 a ver 0 (ae T.aE)),(55,.q0 (ae T.aE:Int)),(56,.q0 (g:Int))]:=fun z L a9 =>
   ⟨ae T.aE - (i+1),aD,i+1,aD,rfl,p.trans (aL.app _ _ _),a9,by rw[cJ l7,<-L];exact g7,by rw[<-L];exact hx,by rw[<-L]⟩;have vc:=X.cell;by_cases hA:l.name < (T.n:Int)
  .simp only[go_sem,↓reduceIte,ahZ,N,y1,a5,a4,hT,bY,hA,vc,F];exact ⟨aD,same _ (by rw[I];unfold Tb.lR;rw[f,ah1 (.inl hA)]) i9⟩
  .have ⟨r,r1,r2,r3⟩:=(X.aQ (aL.app y [ak (⟨8,0,[cL l v]⟩:bz)] []) aO).wP (qT (l:=l.c) (i:=k) aD);have b3:ig (ae y+1) (aG r)=True:=r3 _ aO;simp only[go_sem,↓reduceIte,ahZ,N,y1,a5,a4,hT,bY,hA,vc,r1,r2];refine ⟨aD,aH (ot (af l.c k 0)) (by simp[bC]) rfl ?_⟩;by_cases hB:0<=(af l.c k 0).num.sign
   .refine Y2 hB F ?_;exact same _ (by rw[I];unfold Tb.lR;rw[f,ah1 (.inr hB)]) i9
   .have b:¬(l.name < (T.n:Int)\/0<=(af l.c k 0).num.sign):=fun M=>M.elim hA hB;simp only[go_sem,↓reduceIte,Nat.reduceLeDiff,ahZ,hB,r1,r2,ak4,ajx,ajd,akj,ah5];have a0:(-(af l.c k 0)).num≠0:=fun hz=>hB (by have b5:-(af l.c k 0).num=0:=hz;have:(af l.c k 0).num=0:=aD;rw[this];decide);refine aH (Ef (af l.c k 0)) (by simp[bC]) (bC _) ?_;simp only[go_sem,↓reduceIte,ajd,akj];refine aH (GR l.add (-(af l.c k 0)) (C.add.mono aR) ((C.get k).neg.mono aR) a0) (by show (bJ (xA _)&&(bJ (xA _)&&aq))=aq;rw[bC,bC];rfl) (bC _) ?_;have a6:XOk 2000000 (T.sC k i):=by rw[a1];exact (C.add.div (C.get k).neg a0).mono aR
    rw[<-a1];simp only[go_sem,↓reduceIte,ahZ,b3,ak4,ajx,anm,ajd,akj];generalize hX:T.sC k i=x at *;have cT:∀S,S=y++([ak (⟨8,0,[cL l v]⟩:bz)]++[ak (⟨6,0,[xC x]⟩:bz)])->((i:Int),x)=T.e8 k (i+1)->∃m,m < n/\∃g:Nat,g<=ae T.aE/\m=ae T.aE - g/\aL G (S.set (ae G) (ak ⟨6,0,[xC x]⟩)) []/\Idl (S.set (ae G) (ak ⟨6,0,[xC x]⟩))/\aI (S.set (ae G) (ak ⟨6,0,[xC x]⟩)) (ae G) 0=ak ⟨6,0,[yp (T.e8 k g)]⟩/\(0<=(T.e8 k g).1->XOk 2000000 (T.e8 k g).2) /\
      ([(0,.ptr t 0 0 0),(3,.q0 (k:Int)),(6,.q0 (i:Int)),(7,.ptr (ae G) 0 0 0),(54,AV.sl 8 a ver 0 (ae T.aE)),(55,.q0 (ae T.aE:Int)),(56,.q0 ((i+1:Nat):Int))]:Env) =
       [(0,.ptr t 0 0 0),(3,.q0 (k:Int)),(6,.c (.int .i64 (T.e8 k g).1)),(7,.ptr (ae G) 0 0 0),(54,AV.sl 8 a ver 0 (ae T.aE)),(55,.q0 (ae T.aE:Int)),(56,.q0 (g:Int))]:=by
     rintro S rfl L;refine ⟨ae T.aE - (i+1),aD,i+1,aD,rfl,⟨by simp;have:=p.1;omega,fun j hj _ w=>?_⟩,B.set (iI (by rw[ais,gR];rfl)),?_,by rw[<-L];exact fun _=>a6,by rw[<-L]⟩
     .rw[aS aD,cJ (aiB hj p.1)];exact p.2 j hj aO w
     .rw[bn bW,<-L];unfold yp;rw[ah0 aO]
    have E:ae (yp s)=6:=by unfold yp;split<;>rfl
    have A:∀z,aI (y++z) (ae G) 0=ak ⟨6,0,[yp s]⟩:=fun z=>by rw[cJ l7];exact g7
    refine ⟨⟨aD,aD⟩,?_⟩;by_cases R:0<=s.1
    .obtain ⟨at_,q⟩:∃j:Nat,s.1=(j:Int):=⟨az s.1,aD⟩;have W:=same;simp only[q] at W;have J:yp s=xC s.2:=by unfold yp;rw[ah0 aD]
     have rB:∀z K,bk (y++z) (ae G) 0 K=K ⟨6,0,[xC s.2]⟩:=fun z K=>aK (by rw[A,J]) K;have a8:(0<=s.1)=True:=aiq R;have a3:=rE at_ aD;refine Y2 a8 rB ?_;refine aH (J6 x s.2 (a6.mono aR) ((hx R).mono aR)) (by show (bJ (xA _)&&(bJ (xA _)&&aq))=aq;rw[bC,bC];rfl) rfl ?_;generalize hc:(x - s.2).num.sign=c at *;by_cases U:0 < c
     .refine Y2 U F ?_;exact same _ (by rw[I];unfold Tb.lR;rw[f,ah0 b,hX,hc,ah1 ⟨R,.inl U⟩]) B
     .by_cases V:c=0
      .by_cases h3:(af T.aE at_ ah).name < l.name
       .simp only[go_sem,↓reduceIte,V,q,hT,bY,y1,rO,a3,h3,F,Int.lt_irrefl,ajH,ajI,ah5];exact ⟨aD,W _ (by rw[I];unfold Tb.lR;rw[f,ah0 b,hX,hc,ah1 ⟨R,.inr ⟨V,by rw[q];exact h3⟩⟩]) B⟩
       .simp only[go_sem,↓reduceIte,V,q,hT,bY,y1,rO,a3,h3,Int.lt_irrefl,ajH,ajI,ah5];refine ⟨aD,Ni (x:=x) (i:=(i:Int)) (A _) (b10:=ae y+1) (by rw[ij];rfl) E rfl rfl rfl rfl rfl rfl rfl rfl ?_⟩;refine Y1 F ?_;exact cT _ rfl (by rw[I];unfold Tb.lR;rw[f,ah0 b,hX,hc,ah0 (fun M=>M.2.elim U (fun h4=>h3 (by have:=h4.2;rw[q] at this;exact this)))])
      .have a7:(c=0)=False:=aie V;refine Z2 U a7 ?_;refine Ni (x:=x) (i:=(i:Int)) (A _) (b10:=ae y+1) (by rw[ij];rfl) E rfl rfl rfl rfl rfl rfl rfl rfl ?_;refine Y1 F ?_;exact cT _ rfl (by rw[I];unfold Tb.lR;rw[f,ah0 b,hX,hc,ah0 (fun M=>M.2.elim U (fun h4=>V h4.1))])
    .refine Y1 R ?_;refine Ni (x:=x) (i:=(i:Int)) (A _) (b10:=ae y+1) (by rw[ij];rfl) E rfl rfl rfl rfl rfl rfl rfl rfl ?_;refine Y1 F ?_;exact cT _ rfl (by rw[I];unfold Tb.lR;rw[f,ah0 b,ah0 (fun M=>R M.1),hX])
 .have b1:i=ae T.aE:=aD;subst b1;refine Y1 N ?_;exact hq _ _ p hI
structure eJ (T:Tb):Prop where
 ll:T.aE.length < 1000000
 cl:T.bh.length=T.aM.c.length
 mU:ji T.aM
 nu:∀i,i < T.aE.length->ji (T.aE.getD i default)/\(T.aE.getD i default).c.length=T.aM.c.length
def Tb.jn (T:Tb) (at_ col:Nat):Ln:=(af T.aE at_ ah).jn col (af T.bh col 0)
def Tb.bQ (T:Tb) (at_ col:Nat):Tb:=T.kz at_ col (T.jn at_ col) (af T.aE at_ ah).name
inductive Imp:Nat->Tb->Tb->Bool->Prop
 | opt {N:Nat} {T:Tb}:eJ T->T.ep < 0->Imp N T T true
 | ny {N:Nat} {T:Tb}:eJ T->0<=T.ep->T.tO T.ep.toNat < 0->Imp N T T false
 | step {N:Nat} {T T':Tb} {r:Bool}:eJ T->0<=T.ep->0<=T.tO T.ep.toNat->ji (T.jn (T.tO T.ep.toNat).toNat T.ep.toNat)->Imp N (T.bQ (T.tO T.ep.toNat).toNat T.ep.toNat) T' r->Imp (N+1) T T' r
def Nh {T:Tb} {col:Nat}:∀i,0<=(T.e8 col i).1->((T.aE.getD (T.e8 col i).1.toNat ah).c.getD col 0).num.sign < 0
 | 0,h=>by simp[Tb.e8] at h
 | i+1,h=>by
  have y:=Nh (T:=T) (col:=col) i;simp only[Tb.e8,Tb.lR] at h ⊢;split at h
  .rename_i k;rw[ah1 k] at *;exact y h
  .rename_i k;rw[ah0 k];split at h
   .rename_i x;rw[ah1 x];exact y h
   .rename_i x;rw[ah0 x];simp only[ah9];rw[alJ] at k;omega
def Xn {G:aF} {t:Nat} {z:Int} {Post:AV->aF->Prop} {Q:cx} (x:z < 0) (k:Q .ret [(2,.v0 aq)] G) {h:Env} :
  WP prog 119 fG Q ((0,.ptr t 0 0 0)::(3,.q0 z)::h) G:=by refine uz ?_;refine Y1 x ?_;exact k
def Yf (H:aF) (t:Nat) (D:TbD) (T':Tb) (r:Bool):AV->aF->Prop:=fun v H'=>v = .c (.bool r)/\Nx H t D T' v H'
def Ft {H:aF} {t N:Nat} {D:TbD} {T X:Tb} {r:Bool} (h:TbR H t D T) (hi:Imp N T X r):cR prog 106 [.ptr t 0 0 0] H (Yf H t D X r):=by
 refine qc func106 uk ?_;refine uz ?_;refine Z ?_;refine aZ (fun n e G=>∃K T1,Imp n T1 X r/\TbR G t K T1/\aL H G (D.ids t)/\(∀x,x∈K.ids t->x∈D.ids t\/ae H<=x)/\e=[(0,.ptr t 0 0 0)]) (n:=N)
  ⟨D,T,hi,h,aL.refl _ _,fun x o => .inl o,rfl⟩ ?_;rintro n _ G ⟨K,T1,E,F,j,y,rfl⟩;have done:∀C,aL G C []->Idl C->∀M,M=r->T1=X->Yf H t D X r (.v0 M) C:=fun C k i M s g=>by subst s g;exact ⟨rfl,K,F.aQ k i,⟨aiJ j.1 k.1,fun x p q w=>by rw[k.2 x (aiB p j.1) aO,j.2 x p q]⟩,y⟩
 have f:eJ T1:=by cases E<;>assumption
 refine Z ?_;refine YV F f.cl f.mU.len fun G1 er I p=>?_;by_cases hE:T1.ep < 0
 .refine Xn (Post:=fun _ _=>True) hE ?_;refine Z ?_;cases E with
  | opt _ _=>exact done G1 I p _ rfl rfl
  | ny _ s _=>omega
  | step _ s _ _ _=>omega
 .obtain ⟨k,A⟩:∃k:Nat,T1.ep=(k:Int):=⟨az T1.ep,aD⟩;have B:k < ae T1.aM.c:=by have:=(B7 (T:=T1) (ae T1.aM.c)).2;unfold Tb.ep at A;omega
  rw[A];refine YW (F.aQ I p) B f.ll f.nu fun G2 a0 U q=>?_;refine uz ?_;by_cases hL:T1.tO k < 0
  .refine Z ?_;cases E with
   | opt _ s=>omega
   | ny _ _ _=>exact done G2 (I.trans U) q _ rfl rfl
   | step _ _ g _ _=>rw[A] at g;simp at g;omega
  .obtain ⟨a,W⟩:∃a:Nat,T1.tO k=(a:Int):=⟨az (T1.tO k),aD⟩;have L:a < ae T1.aE:=by have:=(Gu (T:=T1) (col:=k) (ae T1.aE)).2;unfold Tb.tO at W;omega
   have J:=aie hL;simp only[W] at J;refine Z ?_;cases E with
   | opt _ s=>omega
   | ny _ _ g=>rw[A] at g;simp at g;omega
   | @step N _ _ _ _ s g R S =>
    rw[A,ah9,W,ah9] at R S;have m:((af T1.aE a ah).c.getD k 0).num.sign < 0:=by have:=Nh (T:=T1) (col:=k) (ae T1.aE) (by unfold Tb.tO at W;omega);rw[show (T1.e8 k (ae T1.aE)).1=(a:Int) from W,ah9] at this;exact this
    have z:=I.trans U;refine cQ (PI (l:=af T1.aE a ah) (b:=T1.jn a k) (F.aQ z q) L (by rw[f.cl];exact B) rfl rfl f.mU R f.nu f.cl.symm f.ll (fun hz=>by rw[hz] at m;simp at m)) ?_;rintro v G3 ⟨D3,z1,V,z3⟩;refine Z ?_;refine ⟨N,aD,D3,_,S,z1,⟨aiJ j.1 (aiJ z.1 V.1),fun x p q w=>?_⟩,fun x o=>?_⟩
    .have hn:x∉K.ids t:=fun hm=>(y x hm).elim q (fun h=>aD);rw[V.2 x (by have:=j.1;have:=z.1;omega) hn,z.2 x (by have:=j.1;omega) aO,j.2 x p q]
    .rcases z3 x o with O | O
     .exact y x O
     .exact .inr (zU j.1 z.1)
end
def cU:Nat->(Nat->Rat)->Rat
 | 0,_=>0
 | n+1,f=>cU n f+f n
def df (h:∀k,k < n->f k=g k):cU n f=cU n g:=by
 induction n with
 | zero=>rfl
 | succ n x=>simp only[cU];rw[x (fun k y=>h k (by omega)),h n (by omega)]
def VK:cU n (fun k=>f k+g k)=cU n f+cU n g:=by
 induction n with
 | zero=>simp only[cU];grind
 | succ n h=>simp only[cU];rw[h];grind
def VM:cU n (fun k=>f k - g k)=cU n f - cU n g:=by
 induction n with
 | zero=>simp only[cU];grind
 | succ n h=>simp only[cU];rw[h];grind
def VL:cU n (fun k=>c*f k)=c*cU n f:=by
 induction n with
 | zero=>simp[cU]
 | succ n h=>simp only[cU];rw[h];grind
def mX (h:∀k,k < n->f k=0):cU n f=0:=by
 induction n with
 | zero=>rfl
 | succ n x=>simp only[cU];rw[x (fun k y=>h k (by omega)),h n (by omega)];grind
def wu {n k:Nat} {f:Nat->Rat} {u:Rat} (z:k < n):cU n (fun c=>if c=k then u else f c)=cU n f - f k+u:=by
 induction n with
 | zero=>omega
 | succ n x =>
  simp only[cU];by_cases h:k=n
  .subst h;rw[ah1 rfl,df (g:=f) (fun c y=>by rw[ah0 (by omega)])];grind
  .rw[x (by omega),ah0 (ait h)];grind
def ni (w:k < n) (h:∀c,c < n->c≠k->f c=0):cU n f=f k:=by
 have y:cU n f=cU n (fun c=>if c=k then f k else 0):=df fun c z=>by
  by_cases x:c=k
  .rw[ah1 x,x]
  .rw[ah0 x,h c z x]
 rw[y,wu (f:=fun _=>0) w,mX (fun _ _=>rfl)];grind
def N6 (h:cU n f < 0):∃k,k < n/\f k < 0:=by
 induction n with
 | zero=>simp[cU] at h
 | succ n z =>
  simp only[cU] at h;by_cases y:f n < 0
  .exact ⟨n,by omega,y⟩
  .have ⟨k,w,x⟩:=z (by grind);exact ⟨k,by omega,x⟩
structure Dic where
 m:Nat
 w:Nat
 bt:Nat->Int
 out:Nat->Int
 a:Nat->Nat->Rat
 g:Nat->Rat
abbrev Asg:=Int->Rat
def Dic.rv (D:Dic) (f:Nat->Rat) (x:Asg):Rat:=f 0+cU D.w fun k=>f (k+1)*x (D.out k)
def Dic.Sol (D:Dic) (x:Asg):Prop:=∀i,i < D.m->x (D.bt i)=D.rv (D.a i) x
def cT {α:Type} (f:Nat->α) (i:Nat) (v:α):Nat->α:=fun j=>if j=i then v else f j
def Dic.fresh (D:Dic) (i k:Nat) (c:Nat):Rat:=if c=k+1 then 1 / D.a i (k+1) else -(D.a i c / D.a i (k+1))
def Dic.dT (D:Dic) (i k:Nat) (f:Nat->Rat) (c:Nat):Rat:=(if c=k+1 then 0 else f c)+f (k+1)*D.fresh i k c
def Dic.bQ (D:Dic) (i k:Nat):Dic where
 m:=D.m
 w:=D.w
 bt:=cT D.bt i (D.out k)
 out:=cT D.out k (D.bt i)
 a:=fun r c=>if r=i then D.fresh i k c else D.dT i k (D.a r) c
 g:=D.dT i k D.g
def S9 {D:Dic} {i k:Nat} {f:Nat->Rat} {x:Asg} (z:k < D.w) :
  (D.bQ i k).rv f x=D.rv f x - f (k+1)*x (D.out k)+f (k+1)*x (D.bt i):=by
 unfold Dic.rv;show f 0+cU D.w (fun c=>f (c+1)*x (cT D.out k (D.bt i) c))=_;have y:cU D.w (fun c=>f (c+1)*x (cT D.out k (D.bt i) c))=cU D.w (fun c=>if c=k then f (k+1)*x (D.bt i) else f (c+1)*x (D.out c)):=df fun c _=>by
  unfold cT;by_cases h:c=k
  .subst h;rw[ah1 rfl,ah1 rfl]
  .rw[ah0 h,ah0 h]
 rw[y,wu z];grind
def S8 {D:Dic} {f g:Nat->Rat} {c:Rat} {x:Asg}:D.rv (fun j=>f j+c*g j) x=D.rv f x+c*D.rv g x:=by
 unfold Dic.rv;have:cU D.w (fun k=>(f (k+1)+c*g (k+1))*x (D.out k))=cU D.w (fun k=>f (k+1)*x (D.out k))+c*cU D.w (fun k=>g (k+1)*x (D.out k)):=by rw[<-VL,<-VK];exact df fun k _=>by grind
 rw[this];grind
def Rt {D:Dic} {k:Nat} {f:Nat->Rat} {x:Asg} (y:k < D.w):D.rv (fun c=>if c=k+1 then 0 else f c) x=D.rv f x - f (k+1)*x (D.out k):=by
 unfold Dic.rv;simp only[];rw[ah0 (show ¬0=k+1 by omega)];have:cU D.w (fun c=>(if c+1=k+1 then 0 else f (c+1))*x (D.out c))=cU D.w (fun c=>if c=k then 0 else f (c+1)*x (D.out c)):=df fun c _=>by
  by_cases h:c=k
  .subst h;rw[ah1 rfl,ah1 rfl];grind
  .rw[ah0 (by omega),ah0 h]
 rw[this,wu y];grind
def NT {D:Dic} {i k:Nat} {x:Asg} (z:k < D.w) (l:D.a i (k+1)≠0) :
  D.a i (k+1)*(D.bQ i k).rv (D.fresh i k) x=x (D.bt i) - (D.rv (D.a i) x - D.a i (k+1)*x (D.out k)):=by
 rw[S9 z];have b:D.rv (D.fresh i k) x=D.rv (fun c=>(if c=k+1 then 1 / D.a i (k+1)+D.a i (k+1) / D.a i (k+1) else 0)+(-(1 / D.a i (k+1)))*D.a i c) x:=by
  unfold Dic.rv;have y:∀c,D.fresh i k c=(if c=k+1 then 1 / D.a i (k+1)+D.a i (k+1) / D.a i (k+1) else 0)+(-(1 / D.a i (k+1)))*D.a i c:=by
   intro c;unfold Dic.fresh;by_cases h:c=k+1
   .subst h;rw[ah1 rfl,ah1 rfl];grind
   .rw[ah0 h,ah0 h];grind
  rw[y 0];congr 1;exact df fun c _=>by rw[y (c+1)]
 rw[b,S8 (f:=fun c=>if c=k+1 then 1 / D.a i (k+1)+D.a i (k+1) / D.a i (k+1) else 0)];have e:D.rv (fun c=>if c=k+1 then 1 / D.a i (k+1)+D.a i (k+1) / D.a i (k+1) else 0) x=(1 / D.a i (k+1)+D.a i (k+1) / D.a i (k+1))*x (D.out k):=by unfold Dic.rv;simp only[];rw[ah0 (show ¬0=k+1 by omega),ni (k:=k) z (fun c _ j=>by rw[ah0 (by omega)];grind),ah1 rfl];grind
 rw[e];have g:D.fresh i k (k+1)=1 / D.a i (k+1):=by unfold Dic.fresh;rw[ah1 rfl]
 rw[g]
 grind
def KG {D:Dic} {i k:Nat} {f:Nat->Rat} {x:Asg} (h:k < D.w) (z:x (D.out k)=(D.bQ i k).rv (D.fresh i k) x):(D.bQ i k).rv (D.dT i k f) x=D.rv f x:=by have y:(D.bQ i k).rv (D.dT i k f) x=(D.bQ i k).rv (fun c=>if c=k+1 then 0 else f c) x+f (k+1)*(D.bQ i k).rv (D.fresh i k) x:=S8;rw[y,<-z,S9 h,Rt h,ah1 rfl];grind
def Cr {D:Dic} {i k:Nat} {x:Asg} (g:i < D.m) (e:k < D.w) (j:D.a i (k+1)≠0):(D.bQ i k).Sol x↔D.Sol x:=by
 constructor
 .intro h;have z:x (D.out k)=(D.bQ i k).rv (D.fresh i k) x:=by have:=h i g;simp only[Dic.bQ,cT,ah1] at this;exact this
  have b:=NT (x:=x) e j;intro r f;by_cases y:r=i
  .subst y;rw[<-z] at b;grind
  .have:=h r f;simp only[Dic.bQ,cT,ah0 y] at this;rw[this];exact KG e z
 .intro h;have b:=NT (x:=x) e j;have z:x (D.out k)=(D.bQ i k).rv (D.fresh i k) x:=by
   have:=h i g;rw[<-this] at b;have l:D.a i (k+1)*(D.bQ i k).rv (D.fresh i k) x=D.a i (k+1)*x (D.out k):=by rw[b];grind
   grind
  intro r f;by_cases y:r=i
  .subst y;show x (cT D.bt r (D.out k) r)=(D.bQ r k).rv (fun c=>if r=r then D.fresh r k c else D.dT r k (D.a r) c) x;simp only[cT,ah1];exact z
  .show x (cT D.bt i (D.out k) r)=(D.bQ i k).rv (fun c=>if r=i then D.fresh i k c else D.dT i k (D.a r) c) x;simp only[cT,ah0 y];rw[KG e z];exact h r f
def Im {D:Dic} {i k:Nat} {x:Asg} (y:i < D.m) (z:k < D.w) (c:D.a i (k+1)≠0) (h:D.Sol x):(D.bQ i k).rv (D.bQ i k).g x=D.rv D.g x:=by
 have b:=(Cr y z c).2 h;have e:x (D.out k)=(D.bQ i k).rv (D.fresh i k) x:=by have:=b i y;simp only[Dic.bQ,cT,ah1] at this;exact this
 exact KG z e
structure Dic.Dis (D:Dic):Prop where
 bb:∀i j,i < D.m->j < D.m->D.bt i=D.bt j->i=j
 oo:∀i j,i < D.w->j < D.w->D.out i=D.out j->i=j
 bo:∀i j,i < D.m->j < D.w->D.bt i≠D.out j
def Dic.Dis.bQ {D:Dic} {i k:Nat} (h:D.Dis) (c:i < D.m) (e:k < D.w):(D.bQ i k).Dis:=by
 refine ⟨fun a b y z x=>?_,fun a b y z x=>?_,fun a b y z x=>?_⟩
 .simp only[Dic.bQ,cT] at y z x;split at x<;>split at x
  .omega
  .exact absurd x.symm (h.bo b k z e)
  .exact absurd x (h.bo a k y e)
  .exact h.bb a b y z x
 .simp only[Dic.bQ,cT] at y z x;split at x<;>split at x
  .omega
  .exact absurd x (h.bo i b c z)
  .exact absurd x.symm (h.bo i a c y)
  .exact h.oo a b y z x
 .simp only[Dic.bQ,cT] at y z x;split at x<;>split at x
  .exact h.bo i k c e x.symm
  .rename_i f g;exact g (h.oo _ _ e z x).symm
  .rename_i f g;exact f (h.bb _ _ y c x)
  .exact h.bo a b y z x
def Dic.ext (D:Dic) (y:Asg):Asg:=fun v=>match (aC D.m).find? (fun i=>D.bt i=v) with
 | some i=>D.rv (D.a i) y
 | none=>y v
def vR {D:Dic} (h:D.Dis) {y:Asg} {i:Nat} (w:i < D.m):D.ext y (D.bt i)=D.rv (D.a i) y:=by
 unfold Dic.ext;cases k:(aC D.m).find? (fun j=>D.bt j=D.bt i) with
 | none =>
  have:=alZ.1 k i (by simpa using w);simp at this
 | some j =>
  have x:=ams k;have z:=alm k;simp at x z;rw[h.bb j i z w x]
def iV {D:Dic} {y:Asg} {v:Int} (h:∀i,i < D.m->D.bt i≠v):D.ext y v=y v:=by
 unfold Dic.ext;cases z:(aC D.m).find? (fun j=>D.bt j=v) with
 | none=>rfl
 | some j =>
  have k:=ams z;have x:=alm z;simp at k x;exact absurd k (h j x)
def vS {D:Dic} (h:D.Dis) {y:Asg} {k:Nat} (z:k < D.w):D.ext y (D.out k)=y (D.out k):=iV fun i x=>h.bo i k x z
def FQ {D:Dic} (h:D.Dis) {y:Asg} {f:Nat->Rat}:D.rv f (D.ext y)=D.rv f y:=by unfold Dic.rv;congr 1;exact df fun k x=>by rw[vS h x]
def mH {D:Dic} (h:D.Dis) (y:Asg):D.Sol (D.ext y):=fun i k=>by rw[vR h k,FQ h]
def IW {p:Nat->Prop}:∀{b a:Nat},a<=b->p a->¬p b->∃j,a<=j/\j < b/\p j/\¬p (j+1)
 | 0,a,h,x,z=>by (have:a=0:=by omega);(subst this;exact absurd x z)
 | b+1,a,h,x,z=>by
  by_cases e:p b
  .grind
  .rcases aij b a with y | y
   .grind
   .have ⟨j,w,f,c⟩:=IW y x e;exact ⟨j,w,by omega,c⟩
def Rr {p:Nat->Prop} {a b:Nat} (h:a<=b) (c:¬p a) (e:p b):∃j,a<=j/\j < b/\¬p j/\p (j+1):=by obtain ⟨j,x,y,z,w⟩:=IW (p:=fun j=>¬p j) h c (fun h=>h e);exact ⟨j,x,y,z,al4.1 w⟩
def cyc {p:Nat->Prop} {L a b:Nat} (f:p 0↔p L) (g:a<=L) (l:b<=L) (e:p a) (c:¬p b):(∃j,j < L/\p j/\¬p (j+1))/\(∃j,j < L/\¬p j/\p (j+1)):=by
 constructor
 .rcases Nat.le_total a b with h | h
  .have ⟨j,y,z,x⟩:=IW h e c;exact ⟨j,by omega,x⟩
  .by_cases w:p L
   .have ⟨j,y,z,x⟩:=IW (aiL b) (f.2 w) c;exact ⟨j,by omega,x⟩
   .have ⟨j,y,z,x⟩:=IW g e w;exact ⟨j,by omega,x⟩
 .rcases Nat.le_total b a with h | h
  .have ⟨j,y,z,x⟩:=Rr h c e;exact ⟨j,by omega,x⟩
  .by_cases w:p L
   .have ⟨j,y,z,x⟩:=Rr l c w;exact ⟨j,by omega,x⟩
   .have ⟨j,y,z,x⟩:=Rr (aiL a) (fun h=>w (f.1 h)) e;exact ⟨j,by omega,x⟩
def Wp (f:Nat->Int):∀L,0 < L->∃j,j < L/\∀i,i < L->f i<=f j
 | 0,h=>by omega
 | 1,_=>⟨0,by omega,fun i z=>by (have:i=0:=by omega);(subst this;exact ajV _)⟩
 | L+2,_=>by
  obtain ⟨j,w,y⟩:=Wp f (L+1) (by omega);by_cases h:f j<=f (L+1)
  .refine ⟨L+1,by omega,fun i z=>?_⟩;rcases aij i (L+1) with x | x
   .exact akJ (y i x) h
   .grind
  .refine ⟨j,by omega,fun i z=>?_⟩;rcases aij i (L+1) with x | x
   .exact y i x
   .have:i=L+1:=by omega
    subst this;omega
structure nE (sd:Int->Prop) (D:Dic) (i k:Nat):Prop where
 hi:i < D.m
 hk:k < D.w
 sk:sd (D.out k)
 neg:D.g (k+1) < 0
 least:∀q,q < D.w->sd (D.out q)->D.g (q+1) < 0->D.out k<=D.out q
 si:sd (D.bt i)
 zr:D.a i (k+1) < 0
 ratio:∀p,p < D.m->sd (D.bt p)->D.a p (k+1) < 0->D.a i 0 / -(D.a i (k+1))<=D.a p 0 / -(D.a p (k+1))
 tie:∀p,p < D.m->sd (D.bt p)->D.a p (k+1) < 0->D.a i 0 / -(D.a i (k+1))=D.a p 0 / -(D.a p (k+1))->D.bt i<=D.bt p
def Dic.lU (sd:Int->Prop) (D:Dic):Prop:=∀i,i < D.m->sd (D.bt i)->0<=D.a i 0
def Cv {a b:Rat} (h:0<=a) (x:0 < b):0<=a / b:=by rw[am6];exact alM h (Rat.le_of_lt (Rat.inv_pos.2 x))
def nE.Wz {sd:Int->Prop} {D:Dic} {i k:Nat} (h:nE sd D i k) (z:D.lU sd):0<=D.fresh i k 0:=by
 have x:=z i h.hi h.si;have w:=h.zr;unfold Dic.fresh;rw[ah0 (by omega)];have y:-(D.a i 0 / D.a i (k+1))=D.a i 0 / -(D.a i (k+1)):=by grind
 rw[y];exact Cv x (by grind)
def nE.jc {sd:Int->Prop} {D:Dic} {i k:Nat} (h:nE sd D i k) (w:D.lU sd):(D.bQ i k).lU sd:=by
 intro r b m;have c:=h.Wz w;by_cases y:r=i
 .subst y;show 0<=(if r=r then D.fresh r k 0 else _);rw[ah1 rfl];exact c
 .show 0<=(if r=i then _ else D.dT i k (D.a r) 0);rw[ah0 y];have x:sd (D.bt r):=by simpa only[Dic.bQ,cT,ah0 y] using m
  have n:=w r b x;unfold Dic.dT;rw[ah0 (by omega)];by_cases z:D.a r (k+1) < 0
  .have e:=h.ratio r b x z;have f:D.fresh i k 0=D.a i 0 / -(D.a i (k+1)):=by
    unfold Dic.fresh;rw[ah0 (by omega)];have:=h.zr
    grind
   rw[f];have g:0 < -(D.a r (k+1)):=by grind
   have j:=Rat.mul_le_mul_of_nonneg_right e (Rat.le_of_lt g);have l:D.a r 0 / -(D.a r (k+1)) * -(D.a r (k+1))=D.a r 0:=by grind
   rw[l] at j
   grind
  .have:=alM (akR.1 z) c
   grind
def nE.aM {sd:Int->Prop} {D:Dic} {i k:Nat} (h:nE sd D i k) (w:D.lU sd):(D.bQ i k).g 0<=D.g 0/\((D.bQ i k).g 0=D.g 0->D.a i 0=0):=by
 have b:=h.Wz w;have l:=h.neg;have e:(D.bQ i k).g 0=D.g 0+D.g (k+1)*D.fresh i k 0:=by show D.dT i k D.g 0=_;unfold Dic.dT;rw[ah0 (by omega)]
 rw[e];have c:D.g (k+1)*D.fresh i k 0<=0:=by
  have:=alM (show 0 <= -(D.g (k+1)) by grind) b
  grind
 refine ⟨by grind,fun f=>?_⟩;have j:D.g (k+1)*D.fresh i k 0=0:=by grind
 have x:D.fresh i k 0=0:=by grind
 unfold Dic.fresh at x;rw[ah0 (by omega)] at x;have:=h.zr;have y:D.a i 0 / D.a i (k+1)=0:=by grind
 have z:D.a i 0=D.a i 0 / D.a i (k+1)*D.a i (k+1):=by grind
 rw[z,y];grind
structure mz (sd:Int->Prop) (D:Nat->Dic) (i k:Nat->Nat) (L:Nat):Prop where
 step:∀j,j < L->nE sd (D j) (i j) (k j)
 next:∀j,j < L->D (j+1)=(D j).bQ (i j) (k j)
 cK:(D 0).Dis
 jc:(D 0).lU sd
section
variable {sd:Int->Prop} {D:Nat->Dic} {i k:Nat->Nat} {L:Nat}
def mz.MS (h:mz sd D i k L):∀j,j<=L->(D j).m=(D 0).m/\(D j).w=(D 0).w:=by
 intro j
 induction j with
 | zero=>intro _;exact ⟨rfl,rfl⟩
 | succ j x=>intro y;rw[h.next j (by omega)];exact x (by omega)
def mz.MT (h:mz sd D i k L):∀j,j<=L->(D j).Dis:=by
 intro j
 induction j with
 | zero=>intro _;exact h.cK
 | succ j x=>intro y;rw[h.next j (by omega)];exact (x (by omega)).bQ (h.step j (by omega)).hi (h.step j (by omega)).hk
def mz.QT (h:mz sd D i k L):∀j,j<=L->(D j).lU sd:=by
 intro j
 induction j with
 | zero=>intro _;exact h.jc
 | succ j x=>intro y;rw[h.next j (by omega)];exact (h.step j (by omega)).jc (x (by omega))
def mz.oh (h:mz sd D i k L):∀j,j<=L->((D j).Sol x↔(D 0).Sol x):=by
 intro j
 induction j with
 | zero=>intro _;exact al2
 | succ j z =>
  intro w;have y:=h.step j (by omega);rw[h.next j (by omega),Cr y.hi y.hk (by have:=y.zr;grind)];exact z (by omega)
def mz.gv (h:mz sd D i k L) (z:(D 0).Sol x):∀j,j<=L->(D j).rv (D j).g x=(D 0).rv (D 0).g x:=by
 intro j
 induction j with
 | zero=>intro _;rfl
 | succ j w =>
  intro a;have y:=h.step j (by omega);rw[h.next j (by omega),Im y.hi y.hk (by have:=y.zr;grind) ((h.oh j (by omega)).2 z)];exact w (by omega)
def mz.g0 (h:mz sd D i k L):∀j d,j+d<=L->(D (j+d)).g 0<=(D j).g 0:=by
 intro j d
 induction d with
 | zero=>intro _;exact ala
 | succ d y =>
  intro z;have x:=((h.step (j+d) (by omega)).aM (h.QT _ (by omega))).1;rw[<-h.next (j+d) (by omega)] at x;exact Rat.le_trans x (y (by omega))
def gy:Asg:=fun _=>0
def rH {D:Dic} {f:Nat->Rat} {x:Asg} (h:∀q,q < D.w->x (D.out q)=0):D.rv f x=f 0:=by unfold Dic.rv;rw[mX (fun q y=>by rw[h q y];grind)];grind
def mz.level (h:mz sd D i k L) (l:∀r,r < (D 0).m->(D L).bt r=(D 0).bt r):∀j,j < L->(D j).a (i j) 0=0:=by
 have y:=h.MT L (ahZ _);have z:(D L).g 0=(D 0).g 0:=by
  have n:=mH y gy;have x:(D L).rv (D L).g ((D L).ext gy)=(D L).g 0:=rH fun q c=>by rw[vS y c];rfl
  have w:=h.gv ((h.oh L (ahZ _)).1 n) L (ahZ _);have b:(D 0).rv (D 0).g ((D L).ext gy)=(D 0).g 0:=rH fun q c=>by rw[iV (fun r e=>by rw[(h.MS L (ahZ _)).1] at e;rw[l r e];exact h.cK.bo r q e c)];rfl
  rw[<-x,w,b]
 intro j f;have x:=(h.step j f).aM (h.QT j (by omega));rw[<-h.next j f] at x;apply x.2;have w:=h.g0 0 j (by omega);have b:=h.g0 (j+1) (L - (j+1)) (by omega);rw[aia] at w;rw[show j+1+(L - (j+1))=L by omega,z] at b;exact Rat.le_antisymm x.1 (Rat.le_trans w b)
def mz.flat (h:mz sd D i k L) (z:∀r,r < (D 0).m->(D L).bt r=(D 0).bt r):∀j,j<=L->∀q,q < (D 0).w->(D 0).ext gy ((D j).out q)=0:=by
 intro j
 induction j with
 | zero=>intro _ q x;rw[vS h.cK x];rfl
 | succ j y =>
  intro c q x;have a:=h.step j (by omega);rw[h.next j (by omega)];show (D 0).ext gy (cT (D j).out (k j) ((D j).bt (i j)) q)=0;unfold cT;split
  .have b:=(h.oh j (by omega)).2 (mH h.cK gy);rw[b (i j) a.hi,rH (fun q x=>y (by omega) q (by rw[<-(h.MS j (by omega)).2];exact x))];exact h.level z j (by omega)
  .exact y (by omega) q x
def mz.no (h:mz sd D i k L) (hL:0 < L) (R:∀r,r < (D 0).m->(D L).bt r=(D 0).bt r):False:=by
 have ⟨js,T,E⟩:=Wp (fun j=>(D j).out (k j)) L hL;have s:=h.step js T;obtain ⟨t,O⟩:∃t,t=(D js).out (k js):=⟨_,rfl⟩;have stat:∀v:Int,(∃r,r < (D 0).m/\(D 0).bt r=v)↔(∃r,r < (D 0).m/\(D L).bt r=v):=fun v =>
  ⟨fun ⟨r,b,f⟩=>⟨r,b,by rw[R r b];exact f⟩,fun ⟨r,b,f⟩=>⟨r,b,by rw[<-R r b];exact f⟩⟩;have enters:∀v j,j < L->¬(∃r,r < (D 0).m/\(D j).bt r=v)->(∃r,r < (D 0).m/\(D (j+1)).bt r=v)->v=(D j).out (k j):=by
  intro v j J hn ⟨r,b,f⟩;rw[h.next j J] at f;simp only[Dic.bQ,cT] at f;split at f
  .exact f.symm
  .exact absurd ⟨r,b,f⟩ hn
 have leaves:∀v j,j < L->(∃r,r < (D 0).m/\(D j).bt r=v)->¬(∃r,r < (D 0).m/\(D (j+1)).bt r=v)->v=(D j).bt (i j):=by
  intro v j J ⟨r,b,f⟩ hn;by_cases C:r=i j
  .rw[<-C];exact f.symm
  .refine absurd ⟨r,b,?_⟩ hn;rw[h.next j J];simp only[Dic.bQ,cT,ah0 C];exact f
 have dm:=fun j J=>(h.MS j J).1;have dw:=fun j J=>(h.MS j J).2;have tb:∃r,r < (D 0).m/\(D (js+1)).bt r=t:=⟨i js,by rw[<-dm js (by omega)];exact s.hi,by rw[h.next js T,O];simp[Dic.bQ,cT]⟩;have tn:¬∃r,r < (D 0).m/\(D js).bt r=t:=by rintro ⟨r,b,f⟩;rw[O] at f;exact (h.MT js (by omega)).bo r (k js) (by rw[dm js (by omega)];exact b) s.hk f
 obtain ⟨⟨z,X,l1,l2⟩,_⟩:=cyc (p:=fun j=>∃r,r < (D 0).m/\(D j).bt r=t) (stat t) (show js+1<=L by omega) (show js<=L by omega) tb tn;have N:=leaves t z X l1 l2;have H:=h.step z X;have K:=h.MT z (by omega);have S:=h.MT js (by omega);obtain ⟨y,P⟩:∃y:Asg,y=fun v=>if v=(D z).out (k z) then 1 else 0:=⟨_,rfl⟩;have X1:=(h.oh z (by omega)).1 (mH K y);have X0:=(h.oh z (by omega)).1 (mH K gy);have g1:=h.gv X1 z (by omega);have g0:=h.gv X0 z (by omega);have a4:=h.gv X1 js (by omega);have a3:=h.gv X0 js (by omega);have r1:(D z).rv (D z).g ((D z).ext y)=(D z).g 0+(D z).g (k z+1):=by rw[FQ K];unfold Dic.rv;rw[ni (k:=k z) H.hk (fun c hc n=>by rw[P];simp only;rw[ah0 (fun C=>n (K.oo _ _ hc H.hk C))];grind)];rw[P];simp only[ajs];grind
 have r0:(D z).rv (D z).g ((D z).ext gy)=(D z).g 0:=rH fun q W=>by rw[vS K W];rfl
 have key:cU (D js).w (fun q=>(D js).g (q+1)*((D z).ext y ((D js).out q) - (D z).ext gy ((D js).out q))) < 0:=by
  have e1:cU (D js).w (fun q=>(D js).g (q+1)*((D z).ext y ((D js).out q) - (D z).ext gy ((D js).out q)))=(D js).rv (D js).g ((D z).ext y) - (D js).rv (D js).g ((D z).ext gy):=by unfold Dic.rv;rw[df (g:=fun q=>(D js).g (q+1)*(D z).ext y ((D js).out q) - (D js).g (q+1)*(D z).ext gy ((D js).out q)) (fun q _=>by grind),VM];grind
  rw[e1,a4,a3,<-g1,<-g0,r1,r0];have:=H.neg
  grind
 have ⟨q,W,l⟩:=N6 key;by_cases B:∃p,p < (D z).m/\(D z).bt p=(D js).out q
 .have ⟨p,F,o⟩:=B;have d1:(D z).ext y ((D js).out q) - (D z).ext gy ((D js).out q)=(D z).a p (k z+1):=by rw[<-o,vR K F,vR K F,rH (x:=gy) (fun q _=>rfl)];unfold Dic.rv;rw[ni (k:=k z) H.hk (fun c hc n=>by rw[P];simp only;rw[ah0 (fun C=>n (K.oo _ _ hc H.hk C))];grind)];rw[P];simp only[ajs];grind
  rw[d1] at l;have vb:∃r,r < (D 0).m/\(D z).bt r=(D js).out q:=⟨p,by rw[<-dm z (by omega)];exact F,o⟩;have vn:¬∃r,r < (D 0).m/\(D js).bt r=(D js).out q:=by rintro ⟨r,b,f⟩;exact S.bo r q (by rw[dm js (by omega)];exact b) W f
  obtain ⟨_,⟨je,M,n1,n2⟩⟩:=cyc (p:=fun j=>∃r,r < (D 0).m/\(D j).bt r=(D js).out q) (stat _) (show z<=L by omega) (show js<=L by omega) vb vn;have V:=enters _ je M n1 n2;have a7:(D js).out q<=t:=by rw[V,O];exact E je M
  have a0:sd ((D js).out q):=by rw[V];exact (h.step je M).sk
  by_cases G:(D js).out q=t
  .have e1:q=k js:=S.oo _ _ W s.hk (by rw[G,O]);have e2:p=i z:=K.bb _ _ F H.hi (by rw[o,G,N]);rw[e1,e2] at l;have a1:=s.neg;have a2:=H.zr;have:=Rat.mul_pos (show 0 < -((D js).g (k js+1)) by grind) (show 0 < -((D z).a (i z) (k z+1)) by grind)
   grind
  .have I:¬(D js).g (q+1) < 0:=by intro U;have:=s.least q W a0 U;rw[<-O] at this;omega
   have a5:(D z).a p (k z+1) < 0:=by
    by_cases b:(D z).a p (k z+1) < 0
    .exact b
    .have:=alM (akR.1 I) (akR.1 b)
     grind
   have z1:(D z).a (i z) 0=0:=h.level R z X;have z2:(D z).a p 0=0:=by have hx:(D z).Sol ((D 0).ext gy):=(h.oh z (by omega)).2 (mH h.cK gy);have b:=hx p F;rw[rH (fun q W=>h.flat R z (by omega) q (by rw[<-dw z (by omega)];exact W)),o] at b;rw[<-b];exact h.flat R js (by omega) q (by rw[<-dw js (by omega)];exact W)
   have a6:sd ((D z).bt p):=by rw[o];exact a0
   have:=H.tie p F a6 a5 (by rw[z1,z2];grind);rw[o,<-N] at this;omega
 .have n:∀p,p < (D z).m->(D z).bt p≠(D js).out q:=fun p F C=>B ⟨p,F,C⟩;rw[iV n,iV n] at l;by_cases A:(D js).out q=(D z).out (k z)
  .have I:(D js).g (q+1) < 0:=by
    rw[P] at l;simp only[A,ajs,gy] at l
    grind
   have a1:=s.least q W (by rw[A];exact H.sk) I;have a2:=E z X;rw[A] at a1;have e:(D z).out (k z)=t:=by rw[O];omega
   exact K.bo (i z) (k z) H.hi H.hk (by rw[e,N])
  .rw[P] at l;simp only[ah0 A,gy] at l
   grind
end
def Num (M d:Int) (r:Rat):Prop:=∃n:Int,-M<=n/\n<=M/\r=(n:Rat) / (d:Rat)
def CD (M:Int) (D:Dic):Prop:=∃d:Int,d≠0 /\ -M<=d/\d<=M/\(∀i,i < D.m->∀c,c<=D.w->Num M d (D.a i c))/\∀c,c<=D.w->Num M d (D.g c)
def grow (M:Int):Nat->Int
 | 0=>M
 | t+1=>2*(grow M t*grow M t)
def zM (h:1<=M):∀t,1<=grow M t
 | 0=>h
 | t+1=>by have k:=zM h t;have x:grow M t*1<=grow M t*grow M t:=aip k (by omega);show 1<=2*(grow M t*grow M t);omega
def Lh (h:1<=M) (t:Nat):grow M t<=grow M (t+1):=by have k:=zM h t;have x:grow M t*1<=grow M t*grow M t:=aip k (by omega);show grow M t<=2*(grow M t*grow M t);omega
def Fq (h:1<=M) (k:s<=t):grow M s<=grow M t:=by
 induction t with
 | zero=>rw[Nat.le_zero.1 k];exact ajV _
 | succ t y =>
  by_cases x:s=t+1
  .subst x;exact ajV _
  .exact akJ (y (by omega)) (Lh h t)
def Num.mono {M k d:Int} {r:Rat} (h:Num M d r) (hm:M<=k):Num k d r:=by have ⟨n,y,z,x⟩:=h;exact ⟨n,by omega,by omega,x⟩
def CD.mono (h:CD M D) (hm:M<=x):CD x D:=by have ⟨d,y,b,e,z,w⟩:=h;exact ⟨d,y,by omega,by omega,fun i a c k=>(z i a c k).mono hm,fun c k=>(w c k).mono hm⟩
def rj (x:-M<=a) (y:a<=M) (z:-M<=b) (w:b<=M):-(M*M)<=a*b/\a*b<=M*M:=by
 have h:0<=M:=by omega
 have e:ay (a*b)<=ay M*ay M:=by rw[aln];exact akp (by omega) (by omega)
 have k:((ay M*ay M:Nat):Int)=M*M:=by rw[akY,Int.natAbs_of_nonneg h]
 omega
def Rk {n:Int} (h:n≠0):(n:Rat)≠0:=by intro k;apply h;exact_mod_cast k
def CD.bQ (h:CD M D) (hM:1<=M) (s:i < D.m) (hk:k < D.w) (O:D.a i (k+1)≠0):CD (2*(M*M)) (D.bQ i k):=by
 have ⟨d,K,j,l,q,J⟩:=h;obtain ⟨p,A,B,o⟩:=q i s (k+1) (by omega);have W:p≠0:=by rintro rfl;apply O;rw[o];grind
 have hd:=Rk K;have P:=Rk W;have L:0<=M*M:=ajw (by omega) (by omega);have key:∀(n:Int) (r:Rat),-(2*(M*M))<=n->n<=2*(M*M)->r=(n:Rat) / ((d*p:Int):Rat)->Num (2*(M*M)) (d*p) r:=fun n r a b c=>⟨n,a,b,c⟩;have I:∀c,c<=D.w->Num (M*M) (d*p) (D.fresh i k c):=by
  intro c e;unfold Dic.fresh;split
  .have:=rj j l j l;refine ⟨d*d,this.1,this.2,?_⟩;rw[o,ajC,ajC];grind
  .have ⟨z,t,v,H⟩:=q i s c e;have:=rj t v j l;refine ⟨-(z*d),by omega,by omega,?_⟩;rw[o,H,alT,ajC,ajC];grind
 have C:∀f:Nat->Rat,(∀c,c<=D.w->Num M d (f c))->∀c,c<=D.w->Num (2*(M*M)) (d*p) (D.dT i k f c):=by
  intro f X c e;obtain ⟨y,E,F,G⟩:=X (k+1) (by omega);unfold Dic.dT;by_cases g:c=k+1
  .have:=rj E F j l;refine ⟨y*d,by omega,by omega,?_⟩;unfold Dic.fresh;rw[ah1 g,ah1 g,o,G,ajC,ajC];grind
  .have ⟨x,S,T,U⟩:=X c e;have ⟨z,t,v,H⟩:=q i s c e;have V:=rj S T A B;have a2:=rj E F t v;refine ⟨x*p - y*z,by omega,by omega,?_⟩;unfold Dic.fresh;rw[ah0 g,ah0 g,o,G,U,H,Rat.intCast_sub,ajC,ajC,ajC];grind
 have N:=rj j l A B;refine ⟨d*p,akE K W,by omega,by omega,fun r R c e=>?_,fun c e=>?_⟩
 .show Num _ _ (if r=i then D.fresh i k c else D.dT i k (D.a r) c);split
  .exact (I c e).mono (by omega)
  .exact C _ (q r R) c e
 .exact C _ J c e
def Dic.Var (D:Dic) (v:Int):Prop:=(∃i,i < D.m/\D.bt i=v)\/∃k,k < D.w/\D.out k=v
def wD {D:Dic} {i k:Nat} (z:i < D.m) (a:k < D.w) (v:Int):(D.bQ i k).Var v↔D.Var v:=by
 constructor
 .rintro (⟨r,x,h⟩ | ⟨q,x,h⟩)
  .simp only[Dic.bQ,cT] at x h;split at h
   .exact .inr ⟨k,a,h⟩
   .exact .inl ⟨r,x,h⟩
  .simp only[Dic.bQ,cT] at x h;split at h
   .exact .inl ⟨i,z,h⟩
   .exact .inr ⟨q,x,h⟩
 .rintro (⟨r,x,h⟩ | ⟨q,x,h⟩)
  .by_cases y:r=i
   .subst y;exact .inr ⟨k,a,by simp[Dic.bQ,cT,h]⟩
   .exact .inl ⟨r,x,by simp[Dic.bQ,cT,y,h]⟩
  .by_cases y:q=k
   .subst y;exact .inl ⟨i,z,by simp[Dic.bQ,cT,h]⟩
   .exact .inr ⟨q,x,by simp[Dic.bQ,cT,y,h]⟩
structure Und (D0 D:Dic):Prop where
 var:∀v,D.Var v->D0.Var v
 w:D.w=D0.w
 cK:D.Dis
 oh:∀x,D0.Sol x->D.Sol x
 gv:∀x,D0.Sol x->D.rv D.g x=D0.rv D0.g x
 ind:∀y:Nat->Rat,∃x,D0.Sol x/\∀k,k < D.w->x (D.out k)=y k
def Dic.cO (D:Dic) (y:Nat->Rat):Asg:=fun v=>match (aC D.w).find? (fun k=>D.out k=v) with
 | some k=>y k
 | none=>0
def WO {D:Dic} (h:D.Dis) {y:Nat->Rat} {k:Nat} (b:k < D.w):D.cO y (D.out k)=y k:=by
 unfold Dic.cO;cases x:(aC D.w).find? (fun j=>D.out j=D.out k) with
 | none =>
  have:=alZ.1 x k (by simpa using b);simp at this
 | some j =>
  have z:=ams x;have a:=alm x;simp at z a;rw[h.oo j k a b z]
def Und.refl (h:D.Dis):Und D D:=⟨fun _ h=>h,rfl,h,fun _ h=>h,fun _ _=>rfl,fun y=>⟨D.ext (D.cO y),mH h _,fun k x=>by rw[vS h x,WO h x]⟩⟩
def Und.bQ (h:Und t D) (b:i < D.m) (z:k < D.w) (o:D.a i (k+1)≠0):Und t (D.bQ i k):=by
 refine ⟨fun v hv=>h.var v ((wD b z v).1 hv),h.w,h.cK.bQ b z,fun x l=>(Cr b z o).2 (h.oh x l),fun x l=>Im b z o (h.oh x l) ▸ h.gv x l,fun y=>?_⟩;obtain ⟨s,W⟩:∃s,s=cU D.w (fun c=>if c=k then 0 else D.a i (c+1)*y c):=⟨_,rfl⟩;have ⟨x,p,r⟩:=h.ind fun c=>if c=k then (y k - D.a i 0 - s) / D.a i (k+1) else y c;refine ⟨x,p,fun c K=>?_⟩;show x (cT D.out k (D.bt i) c)=y c;unfold cT;split
 .rename_i n;subst n;rw[h.oh x p i b];have e:D.rv (D.a i) x=D.a i 0+(s+D.a i (c+1)*((y c - D.a i 0 - s) / D.a i (c+1))):=by
   unfold Dic.rv;rw[df (g:=fun q=>if q=c then D.a i (c+1)*((y c - D.a i 0 - s) / D.a i (c+1)) else D.a i (q+1)*y q) (fun q X=>by
    rw[r q X];by_cases j:q=c
    .rw[j];simp
    .simp[j]),wu z];have H:s=cU D.w (fun q=>D.a i (q+1)*y q) - D.a i (c+1)*y c:=by rw[W,wu (f:=fun q=>D.a i (q+1)*y q) z];grind
   rw[H]
  rw[e];grind
 .rename_i n;rw[r c K,ah0 n]
def Und.Zu (h:Und z D) (P:z.Dis) (R:CD M z) (A:1<=M):∀t,t<=D.w ->
  ∃E:Dic,E.Dis/\E.w=D.w/\(∀v,E.Var v↔z.Var v)/\(∀x,E.Sol x↔z.Sol x)/\(∀x,z.Sol x->E.rv E.g x=z.rv z.g x)/\CD (grow M t) E/\∀k,k < t->∃q,q < D.w/\E.out q=D.out k
 | 0,_=>⟨z,P,h.w.symm,fun _=>al2,fun _=>al2,fun _ _=>rfl,R,fun k H=>by omega⟩
 | t+1,ht=>by
  obtain ⟨E,J,p,X,j,L,N,O⟩:=Und.Zu h P R A t (by omega);have F:=zM A t;by_cases n:∃q,q < D.w/\E.out q=D.out t
  .refine ⟨E,J,p,X,j,L,N.mono (Lh A t),fun k H=>?_⟩;by_cases e:k=t
   .subst e;exact n
   .exact O k (by omega)
  .have o:=fun q y s=>n ⟨q,p ▸ y,s⟩;have:∃i,i < E.m/\E.bt i=D.out t/\∃q,q < E.w/\E.a i (q+1)≠0/\∀k,k < t->E.out q≠D.out k:=by
    apply akk;intro a0;have dep:∀x,E.Sol x->(∀k,k < t->x (D.out k)=0)->(∃i,i < E.m/\E.bt i=D.out t)->∃c:Rat,∀x,E.Sol x->(∀k,k < t->x (D.out k)=0)->x (D.out t)=c:=by
     rintro _ _ _ ⟨i,b,l⟩;refine ⟨E.a i 0,fun x K hz=>?_⟩;rw[<-l,K i b];unfold Dic.rv;rw[mX fun q y=>?_]
     .grind
     .grind
    have ⟨S,U,V⟩:=h.ind fun _=>0;have l:∃i,i < E.m/\E.bt i=D.out t:=by
     rcases (X _).2 (h.var _ (.inr ⟨t,by omega,rfl⟩)) with W | ⟨q,W,h2⟩
     .exact W
     .exact absurd h2 (o q W)
    obtain ⟨c,C⟩:=dep S ((j S).2 U) (fun k H=>V k (by omega)) l;have ⟨T,b1,I⟩:=h.ind fun k=>if k=t then c+1 else 0;have f:=C T ((j T).2 b1) (fun k H=>by rw[I k (by omega),ah0 (by omega)]);rw[I t (by omega),ah1 rfl] at f
    grind
   have ⟨i,b,l,q,y,B,hn⟩:=this;refine ⟨E.bQ i q,J.bQ b y,p,fun v=>(wD b y v).trans (X v),fun x=>(Cr b y B).trans (j x),fun x K=>Im b y B ((j x).2 K) ▸ L x K,N.bQ F b y B,fun k H=>?_⟩;by_cases e:k=t
   .subst e;exact ⟨q,p ▸ y,by show cT E.out q (E.bt i) q=_;simp[cT,l]⟩
   .obtain ⟨r,hr,s⟩:=O k (by omega);refine ⟨r,hr,?_⟩;show cT E.out q (E.bt i) r=_;unfold cT;rw[ah0 (fun G=>hn k (by omega) (by rw[<-G];exact s))];exact s
def Und.bound (h:Und F D) (h0:F.Dis) (L:CD M F) (hM:1<=M):∃E:Int,E≠0 /\ -grow M D.w<=E/\E<=grow M D.w/\(∀i,i < D.m->∀c,c<=D.w->Num (grow M D.w) E (D.a i c))/\∀c,c<=D.w->Num (grow M D.w) E (D.g c):=by
 have ⟨E,G,A,ev,I,T,⟨d,d0,d1,d2,R,S⟩,U⟩:=h.Zu h0 L hM D.w (ahZ _);have hg:=zM hM D.w;have zero:Num (grow M D.w) d 0:=⟨0,by omega,by omega,by grind⟩;obtain ⟨X,J⟩:∃X:Asg->Asg,X=E.ext:=⟨_,rfl⟩;have b:∀y,F.Sol (X y):=fun y=>(I _).1 (by rw[J];exact mH G y);have C:∀y q,q < E.w->X y (E.out q)=y (E.out q):=fun y q z=>by rw[J];exact vS G z
 have P:∀y k,k < D.w->X y (D.out k)=y (D.out k):=fun y k l=>by have ⟨q,z,e⟩:=U k l;rw[<-e];exact C y q (by rw[A];exact z)
 obtain ⟨one,x⟩:∃one:Nat->Asg,one=fun k v=>if v=D.out k then 1 else 0:=⟨_,rfl⟩;have W:∀f:Nat->Rat,D.rv f (X gy)=f 0:=fun f=>by unfold Dic.rv;rw[mX (fun q z=>by rw[P _ q z];show _*(0:Rat)=0;grind)];grind
 have p:∀(f:Nat->Rat) k,k < D.w->D.rv f (X (one k))=f 0+f (k+1):=fun f k l=>by unfold Dic.rv;rw[ni (k:=k) l (fun q z n=>by rw[P _ q z,x];show _*(if D.out q=D.out k then (1:Rat) else 0)=0;rw[ah0 (fun e=>n (h.cK.oo _ _ z l e))];grind),P _ k l,x];show _+_*(if D.out k=D.out k then (1:Rat) else 0)=_;rw[ah1 rfl];grind
 have ez:∀f:Nat->Rat,E.rv f (X gy)=f 0:=fun f=>by unfold Dic.rv;rw[mX (fun q z=>by rw[C _ q z];show _*(0:Rat)=0;grind)];grind
 have V:∀(f:Nat->Rat) k,k < D.w->∃q,q < D.w/\E.rv f (X (one k))=f 0+f (q+1):=fun f k l=>by have ⟨q,z,e⟩:=U k l;refine ⟨q,z,?_⟩;unfold Dic.rv;rw[ni (k:=q) (by rw[A];exact z) (fun r hr n=>by rw[C _ r hr,x];show _*(if E.out r=D.out k then (1:Rat) else 0)=0;rw[ah0 (fun N=>n (G.oo _ _ hr (by rw[A];exact z) (by rw[N,e])))];grind),C _ q (by rw[A];exact z),x];show _+_*(if E.out q=D.out k then (1:Rat) else 0)=_;rw[ah1 e];grind
 refine ⟨d,d0,d1,d2,fun i B c L=>?_,fun c L=>?_⟩
 .have t:=h.oh _ (b gy) i B;rw[W] at t;by_cases hb:∃j,j < E.m/\E.bt j=D.bt i
  .have ⟨j,H,K⟩:=hb;have O:=(I _).2 (b gy) j H;rw[ez,K,t] at O;cases c with
   | zero=>rw[O];exact R j H 0 (by omega)
   | succ k =>
    have s:=h.oh _ (b (one k)) i B;have t1:=(I _).2 (b (one k)) j H;obtain ⟨q,z,o⟩:=V (E.a j) k (by omega);rw[p _ k (by omega)] at s;rw[o,K,s,O] at t1;have:D.a i (k+1)=E.a j (q+1):=by grind
    rw[this];exact R j H (q+1) (by omega)
  .have nb:∀j,j < E.m->E.bt j≠D.bt i:=fun j H e=>hb ⟨j,H,e⟩;have ex:∀y,X y (D.bt i)=y (D.bt i):=fun y=>by rw[J];exact iV nb
   rw[ex] at t;cases c with
   | zero=>rw[<-t];exact zero
   | succ k =>
    have s:=h.oh _ (b (one k)) i B;rw[p _ k (by omega),ex,x] at s;simp only[ah0 (h.cK.bo i k B (by omega))] at s;have:D.a i (k+1)=0:=by
     have:gy (D.bt i)=0:=rfl
     grind
    rw[this];exact zero
 .have t:=(h.gv _ (b gy)).trans (T _ (b gy)).symm;rw[W,ez] at t;cases c with
  | zero=>rw[t];exact S 0 (by omega)
  | succ k =>
   have s:=(h.gv _ (b (one k))).trans (T _ (b (one k))).symm;obtain ⟨q,z,o⟩:=V E.g k (by omega);rw[p _ k (by omega),o] at s;have:D.g (k+1)=E.g (q+1):=by grind
   rw[this];exact S (q+1) (by omega)
def Mq (S:Nat->Prop):Prop:=∀N,∃j,N<=j/\S j
def LD {c:Nat->Int} {lo:Int}:∀(V:Nat) {S:Nat->Prop},Mq S->(∀j,S j->lo<=c j/\c j < lo+V)->∃v,Mq fun j=>S j/\c j=v
 | 0,S,h,z=>by have ⟨j,_,k⟩:=h 0;have:=z j k;omega
 | V+1,S,h,z=>by
  by_cases hv:Mq fun j=>S j/\c j=lo+V
  .exact ⟨_,hv⟩
  .have ⟨N,a⟩:=Classical.not_forall.1 hv;have ⟨v,hv⟩:=LD (c:=c) (lo:=lo) V (S:=fun j=>S j/\N<=j) (fun M=>by
    have ⟨j,y,x⟩:=h (M+N);exact ⟨j,by omega,x,by omega⟩) (fun j k=>by
    have y:=z j k.1;have x:c j≠lo+V:=fun b=>a ⟨j,k.2,k.1,b⟩;show lo<=c j/\c j < lo+(V:Int);omega);exact ⟨v,fun M=>by obtain ⟨j,y,x,w⟩:=hv M;exact ⟨j,y,x.1,w⟩⟩
def SD {b:Nat->Nat->Int} {lo:Int} {V:Nat} (m:Nat) (k:∀j r,r < m->lo<=b j r/\b j r < lo+V):∃S:Nat->Prop,Mq S/\∃f:Nat->Int,∀j,S j->∀r,r < m->b j r=f r:=by
 induction m with
 | zero=>exact ⟨fun _=>True,fun N=>⟨N,ahZ _,trivial⟩,fun _=>0,fun j _ r k=>by omega⟩
 | succ m a =>
  obtain ⟨S,z,f,w⟩:=a fun j r x=>k j r (by omega);obtain ⟨v,hv⟩:=LD (c:=fun j=>b j m) V z fun j _=>k j m (by omega);refine ⟨_,hv,fun r=>if r=m then v else f r,fun j y r x=>?_⟩;show b j r=if r=m then v else f r;by_cases h:r=m
  .rw[ah1 h,h];exact y.2
  .rw[ah0 h];exact w j y.1 r (by omega)
def mz.tail (h:mz sd D i k (a+L)):mz sd (fun j=>D (a+j)) (fun j=>i (a+j)) (fun j=>k (a+j)) L :=
 ⟨fun j x=>h.step (a+j) (by omega),fun j x=>h.next (a+j) (by omega),h.MT a (by omega),h.QT a (by omega)⟩
def Q7 {sd:Int->Prop} {D:Nat->Dic} {i k:Nat->Nat} {lo:Int} {V:Nat} (h:∀L,mz sd D i k L) (hv:∀v,(D 0).Var v->lo<=v/\v < lo+V):False:=by
 have var:∀j v,(D j).Var v->(D 0).Var v:=by
  intro j
  induction j with
  | zero=>exact fun v h=>h
  | succ j s =>
   intro v y;have g:=(h (j+1)).step j (by omega);rw[(h (j+1)).next j (by omega)] at y;exact s v ((wD g.hi g.hk v).1 y)
 have w:=fun j=>((h j).MS j (ahZ _)).1;obtain ⟨S,c,f,e⟩:=SD (b:=fun j r=>(D j).bt r) (lo:=lo) (V:=V) (D 0).m fun j r z=>hv _ (var j _ (.inl ⟨r,by rw[w];exact z,rfl⟩));have ⟨a,_,o⟩:=c 0;have ⟨b,p,q⟩:=c (a+1);refine ((h (a+(b - a))).tail).no (by omega) fun r z=>?_;show (D (a+(b - a))).bt r=(D (a+0)).bt r;have x:r < (D 0).m:=w (a+0) ▸ z;rw[show a+(b - a)=b by omega,alo];have l:=e a o r x;have n:=e b q r x;exact n.trans l.symm
inductive Kb {α:Type} (next:α->Option α):Nat->α->α->Prop
 | stop {a:α}:next a=none->Kb next 0 a a
 | go {n:Nat} {a b c:α}:next a=some b->Kb next n b c->Kb next (n+1) a c
def NS {α:Type} {next:α->Option α} {dic:α->Dic} {sd:Int->Prop} {lo:Int} {V:Nat} (Inv:α->Prop) (step:∀a b,Inv a->next a=ak b->Inv b/\∃i k,nE sd (dic a) i k/\dic b=(dic a).bQ i k)
  {a:α} (H:Inv a) (l:(dic a).Dis) (K:(dic a).lU sd) (hv:∀v,(dic a).Var v->lo<=v/\v < lo+V):∃n b,Kb next n a b:=by
 apply akk;intro f;obtain ⟨s,m⟩:∃s:Nat->α,s=fun j=>Nat.rec a (fun _ x=>(next x).getD x) j:=⟨_,rfl⟩;have z:s 0=a:=by subst m;rfl
 have q:∀j,s (j+1)=(next (s j)).getD (s j):=fun j=>by subst m;rfl
 have all:∀j,next (s j)≠an:=by
  intro j X;have back:∀d,d<=j->∃n b,Kb next n (s (j - d)) b:=by
   intro d
   induction d with
   | zero=>intro _;exact ⟨0,_,.stop X⟩
   | succ d g =>
    intro l;obtain ⟨n,b,y⟩:=g (by omega);cases h:next (s (j - (d+1))) with
    | none=>exact ⟨0,_,.stop h⟩
    | some c =>
     have e:=q (j - (d+1));rw[h,ai9,show j - (d+1)+1=j - d by omega] at e;rw[e] at y;exact ⟨_,_,.go h y⟩
  have ⟨n,b,y⟩:=back j (ahZ _);rw[akO,z] at y;exact f ⟨n,b,y⟩
 have o:∀j,next (s j)=ak (s (j+1)):=fun j=>by
  cases h:next (s j) with
  | none=>exact absurd h (all j)
  | some c=>rw[q j,h];rfl
 have inv:∀j,Inv (s j):=by
  intro j
  induction j with
  | zero=>rw[z];exact H
  | succ j g=>exact (step _ _ g (o j)).1
 have w:∀j,∃p:Nat × Nat,nE sd (dic (s j)) p.1 p.2/\dic (s (j+1))=(dic (s j)).bQ p.1 p.2:=fun j=>by have ⟨i,k,r,t⟩:=(step _ _ (inv j) (o j)).2;exact ⟨(i,k),r,t⟩
 exact Q7 (sd:=sd) (D:=fun j=>dic (s j)) (i:=fun j=>(Classical.choose (w j)).1) (k:=fun j=>(Classical.choose (w j)).2) (lo:=lo) (V:=V)
  (fun L=>⟨fun j _=>(anh (w j)).1,fun j _=>(anh (w j)).2,z ▸ l,z ▸ K⟩) (z ▸ hv)
structure Fit (D0 D:Dic) (eq:Int->Prop):Prop where
 dE:Und D0 D
 back:∀x,D.Sol x->(∀v,eq v->x v=0)->D0.Sol x
section
variable {D0 D:Dic} {eq sd free:Int->Prop} {i k:Nat}
def Fit.refl (h:D.Dis):Fit D D eq:=⟨.refl h,fun _ h _=>h⟩
def Fit.bQ (h:Fit D0 D eq) (y:i < D.m) (z:k < D.w) (b:D.a i (k+1)≠0):Fit D0 (D.bQ i k) eq :=
 ⟨h.dE.bQ y z b,fun x e c=>h.back x ((Cr y z b).1 e) c⟩
def sk (i r:Nat):Nat:=if r < i then r else r+1
def DW (i r:Nat):sk i r≠i:=by unfold sk;split<;>omega
def di (h:r < m - 1):sk i r < m:=by unfold sk;split<;>omega
def Ah (h:sk i r=sk i s):r=s:=by unfold sk at h;split at h<;>split at h<;>omega
def FV (h:r < m) (z:i < m) (y:r≠i):∃q,q < m - 1/\sk i q=r:=by
 by_cases x:r < i
 .exact ⟨r,by omega,by unfold sk;rw[ah1 x]⟩
 .exact ⟨r - 1,by omega,by unfold sk;rw[ah0 (by omega)];omega⟩
def Dic.del (D:Dic) (i:Nat):Dic:={D with m:=D.m - 1,bt:=fun r=>D.bt (sk i r),a:=fun r=>D.a (sk i r)}
def Fit.del (h:Fit D0 D eq) (s:i < D.m) (o:eq (D.bt i)) (p:D.a i 0=0) (t:∀k,k < D.w->D.a i (k+1)=0\/eq (D.out k)):Fit D0 (D.del i) eq:=by
 refine ⟨⟨fun v hv=>h.dE.var v ?_,h.dE.w,⟨fun a b g j z=>Ah (h.dE.cK.bb _ _ (di g) (di j) z),h.dE.cK.oo,fun a b g j=>h.dE.cK.bo _ _ (di g) j⟩,fun x n r c=>h.dE.oh x n _ (di c),h.dE.gv,h.dE.ind⟩,fun x n z=>h.back x (fun r c=>?_) z⟩
 .rcases hv with ⟨r,c,e⟩ | y
  .exact .inl ⟨_,di c,e⟩
  .exact .inr y
 .by_cases f:r=i
  .subst f;rw[z _ o];unfold Dic.rv;rw[p,mX fun q l=>?_]
   .grind
   .rcases t q l with y | y
    .rw[y];grind
    .rw[z _ y];grind
  .obtain ⟨q,l,rfl⟩:=FV c s f;exact n q l
def Pts (D0:Dic) (eq sd:Int->Prop) (x:Asg):Prop:=D0.Sol x/\(∀v,eq v->x v=0)/\∀v,D0.Var v->sd v->0<=x v
def Fit.none (h:Fit D0 D eq) (e:i < D.m) (b:eq (D.bt i)) (c:D.a i 0≠0) (g:∀k,k < D.w->D.a i (k+1)=0\/eq (D.out k)):¬∃x,Pts D0 eq sd x:=by
 rintro ⟨x,y,z,_⟩;have:=h.dE.oh x y i e;rw[z _ b] at this;unfold Dic.rv at this;rw[mX fun q f=>?_] at this
 .apply c;grind
 .rcases g q f with y | y
  .rw[y];grind
  .rw[z _ y];grind
structure Pre (D0 D:Dic) (free eq sd:Int->Prop):Prop where
 fit:Fit D0 D eq
 nb:∀i,i < D.m->¬eq (D.bt i)
 JZ:∀k,k < D.w->free (D.out k)\/eq (D.out k)\/sd (D.out k)
 fz:∀k,k < D.w->free (D.out k)->∀i,i < D.m->sd (D.bt i)->D.a i (k+1)=0
 fs:∀v,free v->¬sd v
 fe:∀v,free v->¬eq v
 es:∀v,eq v->¬sd v
def Pre.bQ (h:Pre D0 D free eq sd) (n:i < D.m) (o:k < D.w) (p:D.a i (k+1)≠0) (j:sd (D.bt i)) (t:sd (D.out k)):Pre D0 (D.bQ i k) free eq sd:=by
 refine ⟨h.fit.bQ n o p,fun r f=>?_,fun q b=>?_,fun q b c r f s=>?_,h.fs,h.fe,h.es⟩
 .show ¬eq (cT D.bt i (D.out k) r);unfold cT;split
  .exact fun x=>h.es _ x t
  .exact h.nb r f
 .show free (cT D.out k (D.bt i) q)\/eq (cT D.out k (D.bt i) q)\/sd (cT D.out k (D.bt i) q);unfold cT;split
  .exact .inr (.inr j)
  .exact h.JZ q b
 .have e:q≠k:=by
   rintro rfl;have:(D.bQ i q).out q=D.bt i:=by simp[Dic.bQ,cT]
   rw[this] at c;exact h.fs _ c j
  have y:free (D.out q):=by simpa only[Dic.bQ,cT,ah0 e] using c
  have z:=h.fz q b y i n j;have l:D.fresh i k (q+1)=0:=by unfold Dic.fresh;rw[ah0 (by omega),z];grind
  show (if r=i then D.fresh i k (q+1) else D.dT i k (D.a r) (q+1))=0;by_cases x:r=i
  .rw[ah1 x];exact l
  .rw[ah0 x];have g:sd (D.bt r):=by simpa only[Dic.bQ,cT,ah0 x] using s
   unfold Dic.dT;rw[ah0 (by omega),l,h.fz q b y r f g];grind
def Pre.loose (h:Pre D0 D free eq sd) (e:i < D.m) (j:k < D.w) (c:sd (D.bt i)) (f:∀q,q < D.w->free (D.out q)->D.g (q+1)=0):∀q,q < D.w->free ((D.bQ i k).out q)->(D.bQ i k).g (q+1)=0:=by
 intro q b y;have a:q≠k:=by
  rintro rfl;have:(D.bQ i q).out q=D.bt i:=by simp[Dic.bQ,cT]
  rw[this] at y;exact h.fs _ y c
 have x:free (D.out q):=by simpa only[Dic.bQ,cT,ah0 a] using y
 have z:=h.fz q b x i e c;show D.dT i k D.g (q+1)=0;unfold Dic.dT Dic.fresh;rw[ah0 (by omega),ah0 (by omega),z,f q b x];grind
def Dic.at (D:Dic) (k:Nat) (t:Rat):Asg:=D.ext fun v=>if v=D.out k then t else 0
def MH (x:D.Dis) (y:k < D.w) (b:i < D.m):D.at k t (D.bt i)=D.a i 0+t*D.a i (k+1):=by unfold Dic.at;rw[vR x b];unfold Dic.rv;rw[ni (k:=k) y (fun q c h=>by simp only[];rw[ah0 (fun z=>h (x.oo _ _ c y z))];grind)];simp only[ajs];grind
def Yp (h:D.Dis) (x:q < D.w):D.at k t (D.out q)=if D.out q=D.out k then t else 0:=vS h x
def Wf (x:D.Dis) (y:k < D.w):D.rv f (D.at k t)=f 0+t*f (k+1):=by unfold Dic.at;rw[FQ x];unfold Dic.rv;rw[ni (k:=k) y (fun q a h=>by simp only[];rw[ah0 (fun z=>h (x.oo _ _ a y z))];grind)];simp only[ajs];grind
def Pre.at (h:Pre D0 D free eq sd) (n:D.lU sd) (j:k < D.w) {t:Rat} (q:∀i,i < D.m->sd (D.bt i)->0<=t*D.a i (k+1)) (l:¬eq (D.out k)) (p:sd (D.out k)->0<=t):Pts D0 eq sd (D.at k t)/\D0.rv D0.g (D.at k t)=D.g 0+t*D.g (k+1):=by
 have c:=h.fit.dE.cK;have key:∀v,(∀i,i < D.m->D.bt i≠v)->D.at k t v=if v=D.out k then t else 0:=fun v hv=>by unfold Dic.at;rw[iV hv]
 have f:∀v,eq v->D.at k t v=0:=fun v hv=>by rw[key v (fun i y z=>h.nb i y (z ▸ hv))];exact ah0 (fun (o:v=D.out k)=>l (o ▸ hv))
 have x:D0.Sol (D.at k t):=h.fit.back _ (mH c _) f;refine ⟨⟨x,f,fun v _ e=>?_⟩,by rw[<-h.fit.dE.gv _ x,Wf c j]⟩;by_cases z:∃i,i < D.m/\D.bt i=v
 .obtain ⟨i,y,rfl⟩:=z;rw[MH c j y];have:=n i y e;have:=q i y e
  grind
 .rw[key v (fun i y b=>z ⟨i,y,b⟩)];split
  .rename_i hv;subst hv;exact p e
  .exact ala
def Pre.sV (h:Pre D0 D free eq sd) (c:D.lU sd):Pts D0 eq sd (D.ext gy)/\D0.rv D0.g (D.ext gy)=D.g 0:=by
 have a:=h.fit.dE.cK;have key:∀v,(∀i,i < D.m->D.bt i≠v)->D.ext gy v=0:=fun v hv=>iV hv;have b:=fun v hv=>key v (fun i y z=>h.nb i y (z ▸ hv));have x:=h.fit.back _ (mH a _) b;refine ⟨⟨x,b,fun v _ e=>?_⟩,by rw[<-h.fit.dE.gv _ x,FQ a,rH (fun _ _=>rfl)]⟩;by_cases z:∃i,i < D.m/\D.bt i=v
 .obtain ⟨i,y,rfl⟩:=z;rw[vR a y,rH (fun _ _=>rfl)];exact c i y e
 .rw[key v (fun i y w=>z ⟨i,y,w⟩)];exact ala
def wX (x:s < 0) (B:Rat):∃t:Rat,0<=t/\c+t*s < B:=by
 by_cases h:c < B
 .exact ⟨0,ala,by grind⟩
 .refine ⟨(c - B+1) / (-s),Cv (by grind) (by grind),?_⟩;have:(c - B+1) / (-s)*s = -(c - B+1):=by grind
  rw[this];grind
def Pre.pC (h:Pre D0 D free eq sd) (l:D.lU sd) (j:k < D.w) (y:free (D.out k)) (q:D.g (k+1)≠0) (B:Rat):∃x,Pts D0 eq sd x/\D0.rv D0.g x < B:=by
 have z:∀(t:Rat) i,i < D.m->sd (D.bt i)->0<=t*D.a i (k+1):=fun t i o b=>by rw[h.fz k j y i o b];grind
 by_cases p:D.g (k+1) < 0
 .have ⟨t,_,n⟩:=wX (c:=D.g 0) p B;have ⟨e,f⟩:=h.at l j (z t) (h.fe _ y) (fun b=>absurd b (h.fs _ y));exact ⟨_,e,f ▸ n⟩
 .have ⟨t,_,n⟩:=wX (c:=D.g 0) (s := -(D.g (k+1))) (by grind) B;have ⟨e,f⟩:=h.at l j (z (-t)) (h.fe _ y) (fun b=>absurd b (h.fs _ y));exact ⟨_,e,by rw[f];grind⟩
def Pre.ny (h:Pre D0 D free eq sd) (j:D.lU sd) (o:k < D.w) (p:sd (D.out k)) (l:D.g (k+1) < 0) (e:∀i,i < D.m->sd (D.bt i)->0<=D.a i (k+1)) (B:Rat):∃x,Pts D0 eq sd x/\D0.rv D0.g x < B:=by have ⟨t,y,q⟩:=wX (c:=D.g 0) l B;have ⟨z,b⟩:=h.at j o (fun i n r=>alM y (e i n r)) (fun f=>h.es _ f p) (fun _=>y);exact ⟨_,z,b ▸ q⟩
def Pre.least (h:Pre D0 D free eq sd) (f:∀k,k < D.w->free (D.out k)->D.g (k+1)=0) (e:∀k,k < D.w->sd (D.out k)->0<=D.g (k+1)) (m:Pts D0 eq sd x):D.g 0<=D0.rv D0.g x:=by
 have ⟨a,b,c⟩:=m;rw[<-h.fit.dE.gv x a];unfold Dic.rv;have:¬cU D.w (fun k=>D.g (k+1)*x (D.out k)) < 0:=fun l=>by
  have ⟨k,z,j⟩:=N6 l;have:0<=D.g (k+1)*x (D.out k):=by
   rcases h.JZ k z with y | y | y
   .rw[f k z y];grind
   .rw[b _ y];grind
   .exact alM (e k z y) (c _ (h.fit.dE.var _ (.inr ⟨k,z,rfl⟩)) y)
  grind
 grind
end
end Go.Fx
namespace Go.Fx
def Tk {w k:Nat} {f:Nat->Rat} (a:k < w):cU w f=cU (w - 1) (fun q=>f (sk k q))+f k:=by
 induction w with
 | zero=>omega
 | succ w z =>
  rw[alx];by_cases h:k=w
  .subst h;simp only[cU];rw[df (g:=fun q=>f (sk k q)) (fun q y=>by unfold sk;rw[ah1 y])]
  .obtain ⟨v,rfl⟩:∃v,w=v+1:=⟨w - 1,by omega⟩;have:=z (by omega);rw[alx] at this;rw[show cU (v+1+1) f=cU (v+1) f+f (v+1) from rfl,this];show _=cU v (fun q=>f (sk k q))+f (sk k v)+f k;have:sk k v=v+1:=by unfold sk;rw[ah0 (by omega)]
   rw[this];grind
def wg {D:Dic} {f:Nat->Rat} {x y:Asg} (h:∀k,k < D.w->x (D.out k)=y (D.out k)):D.rv f x=D.rv f y:=by unfold Dic.rv;rw[df fun k z=>by rw[h k z]]
def Bk {D:Dic} {x y:Asg} (h:∀v,D.Var v->x v=y v) (a:D.Sol x):D.Sol y:=fun i z=>by rw[<-h _ (.inl ⟨i,z,rfl⟩),a i z,wg fun k w=>h _ (.inr ⟨k,w,rfl⟩)]
section
open Classical
noncomputable def Dic.more (D:Dic) (s:Int->Prop) (e:Int):Dic where
 m:=D.m+1
 w:=D.w+1
 bt:=fun i=>if i < D.m then D.bt i else if i=D.m then -1 else 0
 out:=fun k=>if k < D.w then D.out k else if k=D.w then e else 0
 a:=fun i c=>if c=D.w+1 then (if i < D.m/\s (D.bt i) then 1 else 0) else if i=D.m then D.g c else D.a i c
 g:=fun c=>if c=D.w+1 then 1 else 0
noncomputable def Ew (s:Int->Prop) (e:Int) (x:Asg):Asg:=fun v=>if s v then x v - x e else x v
def Dic.dG (D:Dic) (i k:Nat):Dic where
 m:=D.m - 1
 w:=D.w - 1
 bt:=fun r=>D.bt (sk i r)
 out:=fun q=>D.out (sk k q)
 a:=fun r c=>D.a (sk i r) (sk (k+1) c)
 g:=fun c=>D.a i (sk (k+1) c)
variable {D0 D:Dic} {eq sd free s:Int->Prop} {i k:Nat} {e:Int} {x:Asg}
def Kw:(D.more s e).rv f x=D.rv f x+f (D.w+1)*x e:=by
 unfold Dic.rv;show f 0+(cU D.w (fun k=>f (k+1)*x ((D.more s e).out k))+f (D.w+1)*x ((D.more s e).out D.w))=_;have h:(D.more s e).out D.w=e:=by simp[Dic.more]
 rw[h,df (g:=fun k=>f (k+1)*x (D.out k)) fun k y=>by simp[Dic.more,y]]
 grind
def xB:(D.more s e).rv (D.more s e).g x=x e:=by
 rw[Kw];unfold Dic.rv;have h:∀c,c<=D.w->(D.more s e).g c=0:=fun c z=>by simp[Dic.more];omega
 have y:(D.more s e).g (D.w+1)=1:=by simp[Dic.more]
 rw[h 0 (by omega),y,mX fun q a=>by rw[h (q+1) (by omega)];grind];grind
def Nq (z:i < D.m):(D.more s e).rv ((D.more s e).a i) x=D.rv (D.a i) x+if s (D.bt i) then x e else 0:=by
 rw[Kw];have h:∀c,c<=D.w->(D.more s e).a i c=D.a i c:=fun c b=>by show (if c=D.w+1 then _ else _)=_;rw[ah0 (by omega),ah0 (by omega)]
 have y:(D.more s e).a i (D.w+1)=if s (D.bt i) then 1 else 0:=by simp[Dic.more,z]
 rw[y];have:D.rv ((D.more s e).a i) x=D.rv (D.a i) x:=by unfold Dic.rv;rw[h 0 (by omega),df fun q f=>by rw[h (q+1) (by omega)]]
 rw[this];split<;>grind
def Lz:(D.more s e).rv ((D.more s e).a D.m) x=D.rv D.g x:=by
 rw[Kw];have h:∀c,c<=D.w->(D.more s e).a D.m c=D.g c:=fun c z=>by show (if c=D.w+1 then _ else _)=_;rw[ah0 (by omega),ah1 rfl]
 have y:(D.more s e).a D.m (D.w+1)=0:=by simp[Dic.more]
 rw[y];have:D.rv ((D.more s e).a D.m) x=D.rv D.g x:=by unfold Dic.rv;rw[h 0 (by omega),df fun q b=>by rw[h (q+1) (by omega)]]
 rw[this];grind
def JU (h:∀k,k < D.w->¬s (D.out k)):D.rv f (Ew s e x)=D.rv f x:=wg fun k y=>by unfold Ew;rw[ah0 (h k y)]
def oS (z:∀k,k < D.w->¬s (D.out k)):(D.more s e).Sol x↔D.Sol (Ew s e x)/\x (-1)=D.rv D.g (Ew s e x):=by
 have c:∀i,i < D.m->(D.more s e).bt i=D.bt i:=fun i a=>by simp[Dic.more,a]
 have f:(D.more s e).bt D.m = -1:=by simp[Dic.more]
 constructor
 .intro h;refine ⟨fun i a=>?_,?_⟩
  .have:=h i (alI a);rw[c i a,Nq a] at this;rw[JU z];unfold Ew;split
   .rename_i b;rw[this,ah1 b];grind
   .rename_i b;rw[this,ah0 b];grind
  .have:=h D.m (aj3 _);rw[f,Lz] at this;rw[JU z];exact this
 .rintro ⟨j,l⟩ i a;rcases aij i D.m with y | y
  .have:=j i y;rw[JU z] at this;rw[c i y,Nq y];unfold Ew at this;split at this
   .rename_i b;rw[ah1 b];grind
   .rename_i b;rw[ah0 b];grind
  .have:i=D.m:=by (have:i < D.m+1:=a);(omega)
   subst this;rw[f,Lz,l,JU z]
def oT (v:Int):(D.more s e).Var v↔D.Var v\/v=e\/v = -1:=by
 constructor
 .rintro (⟨i,a,h⟩ | ⟨k,b,h⟩)
  .rcases aij i D.m with y | y
   .simp only[Dic.more,ah1 y] at h;exact .inl (.inl ⟨i,y,h⟩)
   .have:i=D.m:=by (have:i < D.m+1:=a);(omega)
    subst this;simp[Dic.more] at h;exact .inr (.inr h.symm)
  .rcases aij k D.w with z | z
   .simp only[Dic.more,ah1 z] at h;exact .inl (.inr ⟨k,z,h⟩)
   .have:k=D.w:=by (have:k < D.w+1:=b);(omega)
    subst this;simp[Dic.more] at h;exact .inr (.inl h.symm)
 .rintro ((⟨i,a,h⟩ | ⟨k,b,h⟩) | h | h)
  .exact .inl ⟨i,alI a,by simp[Dic.more,a,h]⟩
  .exact .inr ⟨k,alI b,by simp[Dic.more,b,h]⟩
  .exact .inr ⟨D.w,aj3 _,by simp[Dic.more,h]⟩
  .exact .inl ⟨D.m,aj3 _,by simp[Dic.more,h]⟩
def Ic (h:D.Dis) (n:¬D.Var e) (hm:¬D.Var (-1)) (Ce:e ≠ -1):(D.more s e).Dis:=by
 have B:∀i,i < D.m+1->(i < D.m/\(D.more s e).bt i=D.bt i)\/(i=D.m/\(D.more s e).bt i = -1):=fun i o=>by
  rcases aij i D.m with z | z
  .exact .inl ⟨z,by simp[Dic.more,z]⟩
  .have:i=D.m:=by omega
   exact .inr ⟨this,by simp[Dic.more,this]⟩
 have O:∀k,k < D.w+1->(k < D.w/\(D.more s e).out k=D.out k)\/(k=D.w/\(D.more s e).out k=e):=fun k p=>by
  rcases aij k D.w with z | z
  .exact .inl ⟨z,by simp[Dic.more,z]⟩
  .have:k=D.w:=by omega
   exact .inr ⟨this,by simp[Dic.more,this]⟩
 refine ⟨fun a b j l y=>?_,fun a b j l y=>?_,fun a b j l y=>?_⟩
 .rcases B a j with ⟨z,f⟩ | ⟨z,f⟩<;>rcases B b l with ⟨c,g⟩ | ⟨c,g⟩<;>rw[f,g] at y
  .exact h.bb a b z c y
  .exact absurd (.inl ⟨a,z,y⟩) hm
  .exact absurd (.inl ⟨b,c,y.symm⟩) hm
  .omega
 .rcases O a j with ⟨z,f⟩ | ⟨z,f⟩<;>rcases O b l with ⟨c,g⟩ | ⟨c,g⟩<;>rw[f,g] at y
  .exact h.oo a b z c y
  .exact absurd (.inr ⟨a,z,y⟩) n
  .exact absurd (.inr ⟨b,c,y.symm⟩) n
  .omega
 .rcases B a j with ⟨z,f⟩ | ⟨z,f⟩<;>rcases O b l with ⟨c,g⟩ | ⟨c,g⟩<;>rw[f,g] at y
  .exact h.bo a b z c y
  .exact absurd (.inl ⟨a,z,y⟩) n
  .exact absurd (.inr ⟨b,c,y.symm⟩) hm
  .exact Ce y.symm
def Pz {M:Int} (h:CD M D) (q:1<=M):CD M (D.more s e):=by
 have ⟨d,b,f,j,n,p⟩:=h;have r:=Rk b;have z:Num M d 0:=⟨0,by omega,by omega,by grind⟩;have o:Num M d 1:=⟨d,f,j,by grind⟩;refine ⟨d,b,f,j,fun i l c y=>?_,fun c y=>?_⟩
 .show Num M d (if c=D.w+1 then (if i < D.m/\s (D.bt i) then 1 else 0) else if i=D.m then D.g c else D.a i c);have y:c<=D.w+1:=y;have l:i < D.m+1:=l;split
  .split
   .exact o
   .exact z
  .grind
 .show Num M d (if c=D.w+1 then 1 else 0);split
  .exact o
  .exact z
structure zf (D0:Dic) (eq s:Int->Prop) (e:Int):Prop where
 he:¬D0.Var e
 hm:¬D0.Var (-1)
 Ce:e ≠ -1
 ee:¬eq e
 em:¬eq (-1)
 s0:∀k,k < D0.w->¬s (D0.out k)
 se:∀v,s v->¬eq v
 sv:∀v,s v->D0.Var v
def Fit.more (h:Fit D0 D eq) (X:zf D0 eq s e) (p:∀v,s v->∃i,i < D.m/\D.bt i=v):Fit (D0.more s e) (D.more s e) eq:=by
 have c:∀k,k < D.w->¬s (D.out k):=fun k j o=>by have ⟨i,K,H⟩:=p _ o;exact h.dE.cK.bo i k K j H
 have B:∀v,D0.Var v->v≠e/\v ≠ -1:=fun v hv=>⟨fun he=>X.he (he ▸ hv),fun he=>X.hm (he ▸ hv)⟩;refine ⟨⟨fun v hv=>?_,by show D.w+1=D0.w+1;rw[h.dE.w],Ic h.dE.cK (fun hv=>X.he (h.dE.var _ hv)) (fun hv=>X.hm (h.dE.var _ hv)) X.Ce,fun x b=>?_,fun x b=>by rw[xB,xB],fun y=>?_⟩,fun x b he=>?_⟩
 .rcases (oT v).1 hv with a | a
  .exact (oT v).2 (.inl (h.dE.var v a))
  .exact (oT v).2 (.inr a)
 .have ⟨a,l⟩:=(oS X.s0).1 b;exact (oS c).2 ⟨h.dE.oh _ a,by rw[l,h.dE.gv _ a]⟩
 .have ⟨f,a,l⟩:=h.dE.ind y;obtain ⟨x,b⟩:∃x:Asg,x=fun v=>if v=e then y D.w else if v = -1 then D0.rv D0.g f else if s v then f v+y D.w else f v:=⟨_,rfl⟩;have t:x e=y D.w:=by rw[b];simp
  have q:∀v,D0.Var v->Ew s e x v=f v:=fun v hv=>by
   have ⟨W,A⟩:=B v hv;have:x v=if s v then f v+y D.w else f v:=by rw[b];simp[W,A]
   unfold Ew;rw[this,t];split
   .grind
   .rfl
  have C:x (-1)=D0.rv D0.g f:=by rw[b];simp only[];rw[ah0 (ait X.Ce),ah1 trivial]
  refine ⟨x,(oS X.s0).2 ⟨Bk (fun v hv=>(q v hv).symm) a,by rw[C,wg fun k j=>(q _ (.inr ⟨k,j,rfl⟩)).symm]⟩,fun k j=>?_⟩;have j:k < D.w+1:=j;rcases aij k D.w with z | z
  .have n:(D.more s e).out k=D.out k:=by simp[Dic.more,z]
   have hv:=h.dE.var _ (.inr ⟨k,z,rfl⟩);have:=q _ hv;unfold Ew at this;rw[ah0 (c k z)] at this;rw[n,this,l k z]
  .have:k=D.w:=by omega
   subst this;have n:(D.more s e).out D.w=e:=by simp[Dic.more]
   rw[n,t]
 .have ⟨a,l⟩:=(oS c).1 b;have r:=h.back _ a (fun v hv=>by unfold Ew;rw[ah0 (fun o=>X.se v o hv)];exact he v hv);exact (oS X.s0).2 ⟨r,by rw[l,h.dE.gv _ r]⟩
def Td (z:k < D.w):D.rv f x=(D.dG i k).rv (fun c=>f (sk (k+1) c)) x+f (k+1)*x (D.out k):=by
 unfold Dic.rv;have h:sk (k+1) 0=0:=by unfold sk;rw[ah1 (by omega)]
 have y:∀q,sk (k+1) (q+1)=sk k q+1:=fun q=>by unfold sk;split<;>split<;>omega
 rw[Tk z];simp only[h,y];show _=f 0+cU (D.w - 1) (fun q=>f (sk k q+1)*x (D.out (sk k q)))+_
 grind
def DV (h:x e=0):Ew s e x=x:=by funext v;unfold Ew;rw[h];split<;>grind
def Fit.dG (h:Fit (D0.more s e) D eq) (X:zf D0 eq s e) (L:i < D.m) (C:k < D.w) (p:D.bt i = -1) (M:D.out k=e):Fit D0 (D.dG i k) eq:=by
 have K:=h.dE.cK;have N:∀v,D0.Var v->v≠e/\v ≠ -1:=fun v hv=>⟨fun he=>X.he (he ▸ hv),fun he=>X.hm (he ▸ hv)⟩;have S:∀q,q < D.w - 1->D.out (sk k q)≠e/\D.out (sk k q) ≠ -1:=fun q j=>⟨fun he=>DW k q (K.oo _ _ (di j) C (by rw[he,M])),fun he=>K.bo i _ L (di j) (by rw[he,p])⟩;have E:∀r,r < D.m - 1->D.bt (sk i r)≠e/\D.bt (sk i r) ≠ -1:=fun r o=>⟨fun he=>K.bo _ k (di o) C (by rw[he,M]),fun he=>DW i r (K.bb _ _ (di o) L (by rw[he,p]))⟩;have hw:D.w=D0.w+1:=h.dE.w;have var:∀v,(D.dG i k).Var v->D.Var v/\v≠e/\v ≠ -1:=by
  rintro v (⟨r,o,rfl⟩ | ⟨q,j,rfl⟩)
  .exact ⟨.inl ⟨_,di o,rfl⟩,E r o⟩
  .exact ⟨.inr ⟨_,di j,rfl⟩,S q j⟩
 have aU:∀z x:Asg,z e=0->(∀v,v≠e->v ≠ -1->z v=x v)->(D.Sol z↔((D.dG i k).Sol x/\z (-1)=(D.dG i k).rv (D.dG i k).g x)):=by
  intro z x B H;have R:∀f:Nat->Rat,D.rv f z=(D.dG i k).rv (fun c=>f (sk (k+1) c)) x:=fun f=>by rw[Td (i:=i) C,M,B,wg (x:=z) (y:=x) fun q j=>H _ (S q j).1 (S q j).2];grind
  constructor
  .intro t;refine ⟨fun r o=>?_,?_⟩
   .have:=t (sk i r) (di o);rw[R,H _ (E r o).1 (E r o).2] at this;exact this
   .have:=t i L;rw[R,p] at this;exact this
  .rintro ⟨n,l⟩ r o;by_cases I:r=i
   .subst I;rw[R,p];exact l
   .obtain ⟨q,j,rfl⟩:=FV o L I;rw[R,H _ (E q j).1 (E q j).2];exact n q j
 have lift:∀x,D0.Sol x->∃z:Asg,D.Sol z/\z e=0/\z (-1)=D0.rv D0.g x/\∀v,v≠e->v ≠ -1->z v=x v:=by
  intro x A;obtain ⟨z,t⟩:∃z:Asg,z=fun v=>if v=e then 0 else if v = -1 then D0.rv D0.g x else x v:=⟨_,rfl⟩;have B:z e=0:=by rw[t];simp
  have O:z (-1)=D0.rv D0.g x:=by rw[t];simp only[];rw[ah0 (ait X.Ce),ah1 trivial]
  have H:∀v,v≠e->v ≠ -1->z v=x v:=fun v n l=>by rw[t];simp only[];rw[ah0 n,ah0 l]
  have zv:∀v,D0.Var v->x v=z v:=fun v hv=>(H v (N v hv).1 (N v hv).2).symm;refine ⟨z,h.dE.oh z ((oS X.s0).2 ?_),B,O,H⟩;rw[DV B];exact ⟨Bk zv A,by rw[O,wg fun k C=>zv _ (.inr ⟨k,C,rfl⟩)]⟩
 refine ⟨⟨fun v hv=>?_,by show D.w - 1=D0.w;omega,⟨fun a b G p he=>Ah (K.bb _ _ (di G) (di p) he),fun a b G p he=>Ah (K.oo _ _ (di G) (di p) he),fun a b G p=>K.bo _ _ (di G) (di p)⟩,fun x A=>?_,fun x A=>?_,fun y=>?_⟩,fun x A he=>?_⟩
 .have ⟨n,l,J⟩:=var v hv;rcases (oT v).1 (h.dE.var v n) with F | F | F
  .exact F
  .exact absurd F l
  .exact absurd F J
 .have ⟨z,T,U,_,V⟩:=lift x A;exact ((aU z x U V).1 T).1
 .have ⟨z,T,U,z3,V⟩:=lift x A;rw[<-((aU z x U V).1 T).2,z3]
 .have ⟨x,n,l⟩:=h.dE.ind fun q=>if q=k then 0 else y (if q < k then q else q - 1);have xe:x e=0:=by rw[<-M,l k C];simp
  have J:=((oS X.s0).1 n).1;rw[DV xe] at J;refine ⟨x,J,fun q j=>?_⟩;show x (D.out (sk k q))=y q;rw[l _ (di j)];simp only[ah0 (DW k q)];congr 1;unfold sk;by_cases W:q < k
  .rw[ah1 W,ah1 W]
  .rw[ah0 W,ah0 (by omega)];omega
 .obtain ⟨z,t⟩:∃z:Asg,z=fun v=>if v=e then 0 else if v = -1 then (D.dG i k).rv (D.dG i k).g x else x v:=⟨_,rfl⟩;have B:z e=0:=by rw[t];simp
  have O:z (-1)=(D.dG i k).rv (D.dG i k).g x:=by rw[t];simp only[];rw[ah0 (ait X.Ce),ah1 trivial]
  have H:∀v,v≠e->v ≠ -1->z v=x v:=fun v n l=>by rw[t];simp only[];rw[ah0 n,ah0 l]
  have n:=h.back z ((aU z x B H).2 ⟨A,O⟩) (fun v hv=>by rw[H v (fun P=>X.ee (P ▸ hv)) (fun P=>X.em (P ▸ hv))];exact he v hv);have l:=((oS X.s0).1 n).1;rw[DV B] at l;exact Bk (fun v hv=>H v (N v hv).1 (N v hv).2) l
end
end Go.Fx
namespace Go.Fx
open Go.Proofs.Tryz
open List renaming length->ae,getD->af,replicate->aA,eraseIdx->aB,range->aC
open Inhabited renaming default->ah
open Option renaming some->ak,none->an
open Bool renaming true->aq,false->ar
open Go.IntKind renaming wrap->au
open Int renaming natAbs->ay,toNat->az
section
variable {D0 D:Dic} {eq sd free s:Int->Prop} {i k:Nat} {e:Int} {x:Asg}
def Pre.more (h:Pre D0 D free eq sd) (X:zf D0 eq s e) (r:∀v,s v↔sd v/\∃i,i < D.m/\D.bt i=v) (n:sd e) (t:¬sd (-1)):Pre (D0.more s e) (D.more s e) free eq sd:=by
 refine ⟨h.fit.more X fun v hv=>((r v).1 hv).2,fun i g=>?_,fun q j=>?_,fun q j c i g f=>?_,h.fs,h.fe,h.es⟩
 .show ¬eq (if i < D.m then D.bt i else if i=D.m then -1 else 0);split
  .rename_i y;exact h.nb i y
  .rw[ah1 (by (have:i < D.m+1:=g);(omega))];exact X.em
 .show free (if q < D.w then D.out q else if q=D.w then e else 0)\/eq (if q < D.w then D.out q else if q=D.w then e else 0)\/sd (if q < D.w then D.out q else if q=D.w then e else 0);split
  .rename_i l;exact h.JZ q l
  .rw[ah1 (by (have:q < D.w+1:=j);(omega))];exact .inr (.inr n)
 .have b:q < D.w:=by
   rcases aij q D.w with z | z
   .exact z
   .have:q=D.w:=by (have:q < D.w+1:=j);(omega)
    subst this;have:(D.more s e).out D.w=e:=by simp[Dic.more]
    rw[this] at c;exact absurd n (h.fs _ c)
  have y:i < D.m:=by
   rcases aij i D.m with z | z
   .exact z
   .have:i=D.m:=by (have:i < D.m+1:=g);(omega)
    subst this;have:(D.more s e).bt D.m = -1:=by simp[Dic.more]
    rw[this] at f;exact absurd f t
  have o:(D.more s e).out q=D.out q:=by simp[Dic.more,b]
  have p:(D.more s e).bt i=D.bt i:=by simp[Dic.more,y]
  rw[o] at c;rw[p] at f;have:(D.more s e).a i (q+1)=D.a i (q+1):=by show (if q+1=D.w+1 then _ else if i=D.m then _ else _)=_;rw[ah0 (by omega),ah0 (by omega)]
  rw[this];exact h.fz q b c i y f
def Pre.first (h:Pre D0 D free eq sd) (X:zf D0 eq s e) (t:∀v,s v↔sd v/\∃i,i < D.m/\D.bt i=v) (H:sd e) (G:¬sd (-1)) (f:i < D.m) (K:sd (D.bt i)) (M:D.a i 0 < 0) (L:∀r,r < D.m->sd (D.bt r)->D.a i 0<=D.a r 0\/0<=D.a r 0) :
  (D.more s e).a i (D.w+1)=1/\Pre (D0.more s e) ((D.more s e).bQ i D.w) free eq sd/\((D.more s e).bQ i D.w).lU sd/\(∀q,q < D.w+1->free (((D.more s e).bQ i D.w).out q)->((D.more s e).bQ i D.w).g (q+1)=0)/\∃r,r < D.m+1/\((D.more s e).bQ i D.w).bt r = -1:=by
 have F:=h.more X t H G;have A:(D.more s e).bt i=D.bt i:=by simp[Dic.more,f]
 have B:(D.more s e).out D.w=e:=by simp[Dic.more]
 have o:(D.more s e).a i (D.w+1)=1:=by have:s (D.bt i):=(t _).2 ⟨K,i,f,rfl⟩;simp[Dic.more,f,this]
 have W:∀r,r < D.m->(D.more s e).a r 0=D.a r 0:=fun r n=>by simp[Dic.more];omega
 have cw:∀r,r < D.m->sd (D.bt r)->(D.more s e).a r (D.w+1)=1:=fun r n b=>by have:s (D.bt r):=(t _).2 ⟨b,r,n,rfl⟩;simp[Dic.more,n,this]
 have p:(D.more s e).a i (D.w+1)≠0:=by rw[o];grind
 have j:=alI f;have l:D.w < (D.more s e).w:=aj3 _;refine ⟨o,F.bQ j l p (by rw[A];exact K) (by rw[B];exact H),fun r n b=>?_,?_,D.m,aj3 _,?_⟩
 .have C:(D.more s e).fresh i D.w 0 = -(D.a i 0):=by unfold Dic.fresh;rw[ah0 (by omega),o,W i f];grind
  show 0<=(if r=i then (D.more s e).fresh i D.w 0 else (D.more s e).dT i D.w ((D.more s e).a r) 0);by_cases y:r=i
  .rw[ah1 y,C];grind
  .rw[ah0 y];have z:r < D.m:=by
    rcases aij r D.m with c | c
    .exact c
    .have:r=D.m:=by (have:r < D.m+1:=n);(omega)
     subst this;have:((D.more s e).bQ i D.w).bt D.m = -1:=by simp[Dic.bQ,cT,y,Dic.more]
     rw[this] at b;exact absurd b G
   have I:((D.more s e).bQ i D.w).bt r=D.bt r:=by simp[Dic.bQ,cT,y,Dic.more,z]
   rw[I] at b;unfold Dic.dT;rw[ah0 (by omega),C,W r z,cw r z b];rcases L r z b with c | c<;>grind
 .refine F.loose j l (A ▸ K) fun q J E=>?_;rcases aij q D.w with c | c
  .simp[Dic.more];omega
  .have:q=D.w:=by (have:q < D.w+1:=J);(omega)
   subst this;rw[B] at E;exact absurd H (h.fs _ E)
 .have:D.m≠i:=by omega
  simp[Dic.bQ,cT,this,Dic.more]
def Vo (X:zf D0 eq s e) (p:¬sd (-1)) (o:Pts D0 eq sd x):∃z,Pts (D0.more s e) eq sd z/\(D0.more s e).rv (D0.more s e).g z=0:=by
 have ⟨y,w,m⟩:=o;have f:∀v,D0.Var v->v≠e/\v ≠ -1:=fun v hv=>⟨fun he=>X.he (he ▸ hv),fun he=>X.hm (he ▸ hv)⟩;obtain ⟨z,b⟩:∃z:Asg,z=fun v=>if v=e then 0 else if v = -1 then D0.rv D0.g x else x v:=⟨_,rfl⟩;have c:z e=0:=by rw[b];simp
 have q:z (-1)=D0.rv D0.g x:=by rw[b];simp only[];rw[ah0 (ait X.Ce),ah1 trivial]
 have l:∀v,v≠e->v ≠ -1->z v=x v:=fun v y w=>by rw[b];simp only[];rw[ah0 y,ah0 w]
 have zv:=fun v hv=>(l v (f v hv).1 (f v hv).2).symm;refine ⟨z,⟨(oS X.s0).2 ?_,fun v hv=>?_,fun v hv j=>?_⟩,by rw[xB,c]⟩
 .rw[DV c];exact ⟨Bk zv y,by rw[q,wg fun k n=>zv _ (.inr ⟨k,n,rfl⟩)]⟩
 .rw[l v (fun a=>X.ee (a ▸ hv)) (fun a=>X.em (a ▸ hv))];exact w v hv
 .rcases (oT v).1 hv with h | h | h
  .rw[<-zv v h];exact m v h j
  .rw[h,c];exact ala
  .exact absurd (h ▸ j) p
def JD (h:Pre (D0.more s e) D free eq sd) (X:zf D0 eq s e) (c:¬sd (-1)) (a:∀k,k < D.w->free (D.out k)->D.g (k+1)=0) (y:∀k,k < D.w->sd (D.out k)->0<=D.g (k+1)) (l:0 < D.g 0):¬∃x,Pts D0 eq sd x:=by
 rintro ⟨x,b⟩;have ⟨z,f,j⟩:=Vo X c b;have:=h.least a y f;rw[j] at this
 grind
def LG (h:Pre (D0.more s e) D free eq sd) (c:D.lU sd) (n:sd e) (j:k < D.w) (l:sd (D.out k)) (f:D.g (k+1) < 0) (b:∀i,i < D.m->sd (D.bt i)->0<=D.a i (k+1)):False:=by
 have ⟨x,⟨_,_,y⟩,z⟩:=h.ny c j l f b 0;rw[xB] at z;have:=y e ((oT e).2 (.inr (.inl rfl))) n
 grind
def LF (G:Pre D0 y free eq sd) (h:Pre (D0.more s e) D free eq sd) (A:D.lU sd) (X:zf D0 eq s e) (L:∀v,s v↔sd v/\∃i,i < y.m/\y.bt i=v) (W:sd e) (M:¬sd (-1)) (j:i < D.m) (f:D.bt i=e) (N:¬0 < D.g 0) :
  D.a i 0=0/\∃k,k < D.w/\sd (D.out k)/\D.a i (k+1)≠0:=by
 have z:=G.more X L W M;have ⟨O,B⟩:=h.sV A;have I:=h.fit.dE.cK;have F:D.ext gy e=D.a i 0:=by rw[<-f,vR I j,rH (fun _ _=>rfl)]
 rw[xB,F] at B;have nn:=A i j (f ▸ W);have C:D.a i 0=0:=by rw[B] at nn ⊢;grind
 refine ⟨C,akk fun p=>?_⟩;have c:=z.fit.dE.cK;have K:y.w < (y.more s e).w:=aj3 _;have l:(y.more s e).out y.w=e:=by simp[Dic.more]
 have zero:∀v,eq v->(y.more s e).at y.w 1 v=0:=fun v hv=>by unfold Dic.at;rw[iV (fun r J n=>z.nb r J (n ▸ hv)),l];exact ah0 (fun (n:v=e)=>X.ee (n ▸ hv))
 have oh:=z.fit.back _ (mH c (fun v=>if v=(y.more s e).out y.w then 1 else 0)) zero;have:=h.fit.dE.oh _ oh i j;have E:(y.more s e).ext (fun v=>if v=(y.more s e).out y.w then 1 else 0) e=1:=by have:=Yp (k:=y.w) c (t:=1) K;rw[l,ah1 rfl] at this;unfold Dic.at at this;rw[l] at this ⊢;exact this
 rw[f,E] at this;unfold Dic.rv at this;rw[C,mX fun q H=>?_] at this
 .grind
 .rcases h.JZ q H with b | b | b
  .rw[h.fz q H b i j (f ▸ W)];grind
  .have:=zero _ b;unfold Dic.at at this;rw[this];grind
  .have:D.a i (q+1)=0:=akk fun o=>p ⟨q,H,b,o⟩;rw[this];grind
def Dic.lU.flat (w:D.lU sd) (g:i < D.m) (z:D.a i 0=0):(D.bQ i k).lU sd:=by
 have y:D.fresh i k 0=0:=by unfold Dic.fresh;rw[ah0 (by omega),z];grind
 intro r b f;show 0<=(if r=i then D.fresh i k 0 else D.dT i k (D.a r) 0);by_cases h:r=i
 .rw[ah1 h,y];exact ala
 .rw[ah0 h];have c:sd (D.bt r):=by simpa only[Dic.bQ,cT,ah0 h] using f
  unfold Dic.dT;rw[ah0 (by omega),y];have:=w r b c
  grind
def Pre.dG (h:Pre (D0.more s e) D free eq sd) (l:D.lU sd) (X:zf D0 eq s e) (n:i < D.m) (o:k < D.w) (j:D.bt i = -1) (p:D.out k=e):Pre D0 (D.dG i k) free eq sd/\(D.dG i k).lU sd:=by
 have f:sk (k+1) 0=0:=by unfold sk;rw[ah1 (by omega)]
 have g:∀q,sk (k+1) (q+1)=sk k q+1:=fun q=>by unfold sk;split<;>split<;>omega
 refine ⟨⟨h.fit.dG X n o j p,fun r y=>h.nb _ (di y),fun q b=>h.JZ _ (di b),fun q b z r y c=>?_,h.fs,h.fe,h.es⟩,fun r y c=>?_⟩
 .show D.a (sk i r) (sk (k+1) (q+1))=0;rw[g];exact h.fz _ (di b) z _ (di y) c
 .show 0<=D.a (sk i r) (sk (k+1) 0);rw[f];exact l _ (di y) c
end
section
variable {P:Program}
def Tab.MW (T:Tab) (i:Nat):List Q :=
 let c:=af (af T.cells i []) 0 ah
 let l:=(T.mult (af T.cells i [])).map fun x=>x.div c
 l.set (az (af T.aT i 0 - T.n)) ((af l (az (af T.aT i 0 - T.n)) ah).sub (Q.one.div c))
inductive Eqs:Nat->Tab->Nat->Tab->Option (List Q)->Prop
 | done {T:Tab} {i:Nat}:fQ T->T.cells.length<=i->Eqs 0 T i T none
 | skip {n:Nat} {T T':Tab} {i:Nat} {r:Option (List Q)}:fQ T->i < T.cells.length->T.gm (T.aT.getD i 0)=false->Eqs n T (i+1) T' r->Eqs (n+1) T i T' r
 | kz {n k:Nat} {T T':Tab} {i:Nat} {r:Option (List Q)}:fQ T->i < T.cells.length->T.gm (T.aT.getD i 0)=true->T.yu i=(k:Int)->((T.cells.getD i []).getD (k+1) default).top≠0->Eqs n (T.dt i k) (i+1) T' r->Eqs (n+1) T i T' r
 | bad {T:Tab} {i:Nat}:fQ T->i < T.cells.length->T.gm (T.aT.getD i 0)=true->T.yu i < 0->((T.cells.getD i []).getD 0 default).top≠0->Eqs 0 T i T (some (T.MW i))
 | drop {n:Nat} {T T':Tab} {i:Nat} {r:Option (List Q)}:fQ T->i < T.cells.length->T.gm (T.aT.getD i 0)=true->T.yu i < 0->((T.cells.getD i []).getD 0 default).top=0->Eqs n (T.del i) i T' r->Eqs (n+1) T i T' r
def Eqs.w (h:Eqs n T i k r):fQ T:=by cases h<;>assumption
def Jv {T:Tab} {l:List Q} {k:Nat} (h:∀x,x∈l->QOk k x) (a:ae l=ae T.out+1):∀c,c<=ae T.out->∀x,x∈T.pE l c->QOk k x:=by
 intro c
 induction c with
 | zero =>
  intro _ x y;simp only[Tab.pE,amq,amz] at y;rw[(ajN.1 y).2];exact Mu _
 | succ c z =>
  intro w x y;rw[zS] at y;unfold te at y;split at y
  .rcases ai4 y with y | rfl
   .exact z aD x y
   .exact h _ (ec aD)
  .exact z aD x y
def mS (f:Q->Q) (l:List Q) (j:Nat):List Q:=(l.take j).map f++l.drop j
def Lu:ae (mS f l j)=ae l:=by simp[mS];omega
def Lt (h:j < ae l):af (mS f l j) j ah=af l j ah:=by unfold mS;simp only[af];rw[aiC bW];simp[aiQ (alp h)]
def Jj (h:j < ae l):mS f l (j+1)=(mS f l j).set j (f (af l j ah)):=by
 unfold mS;have e:af l j ah=l[j]:=by simp[af,h]
 have k:l.take (j+1)=l.take j++[l[j]]:=by simp[h]
 rw[ajy _ _ (by simp;omega),e,k,aii,aio,show j - ae ((l.take j).map f)=0 by simp;omega];have x:=ail h;rw[x,akt];rfl
def Ls:mS f l (ae l)=l.map f:=by simp[mS]
def Jk:mS f l 0=l:=by simp[mS]
def IP {T:Tab} {v:Int} (h:T.gm v=aq):(T.n:Int)<=v/\v < (T.n:Int)+ae T.aU:=by unfold Tab.gm at h;simp only[ah2,aiU] at h;exact h.1
def AM (H:aF) (t:Nat) (D:bD) (T':Tab) (r:Option (List Q)) (v:AV) (H':aF):Prop :=
 ∃D',bK H H' t D D'/\match r with
  | none=>v = .bM [.nil,.c (.bool aq)]/\ck H' t D' T'
  | some l=>∃a,v = .bM [.sl 4 a 0 0 (ae l),.c (.bool ar)]/\ae H<=a/\aI H' a 0=ak ⟨4,0,l.map qC⟩
structure jN (H H':aF) (t:Nat) (D:bD) (b:Nat) (x:AV):Prop where
 ob:aI H' b 0=some ⟨1,0,[[x]]⟩
 new:H.length<=b
 out:¬fJ t D b
def jN.lt (h:jN H H' t D b x):b < ae H':=aP h.ob
def jN.gS (h:jN H G t D b x) (o:bK G y t D D'):jN H y t D' b x :=
 ⟨by rw[o.aY b h.lt h.out];exact h.ob,h.new,fun k=>(o.new b k).elim h.out (fun z=>cn h.lt)⟩
def jN.aQ (h:jN H G t D b x) (k:aL G y l) (z:b∉l):jN H y t D b x :=
 ⟨by rw[k.2 b h.lt z];exact h.ob,h.new,h.out⟩
def jN.gM (h:jN H G t D b x) (K:bz->Prop):bk G b 0 K=K ⟨1,0,[[x]]⟩:=aK h.ob K
def EW {H:aF} {id ver k:Nat} {xs:List (List AV)} (h:eH H id=ak ⟨k,ver,xs⟩):aI H id ver=ak ⟨k,ver,xs⟩:=by
 unfold eH at h;unfold aI;cases x:H[id]? with
 | none=>rw[x] at h;simp at h
 | some o=>rw[x] at h;cases o with
  | none=>simp at h
  | some y=>simp at h;subst h;simp
def tf {H:aF} {id ver:Nat} {ob:bz} (h:aI H id ver=ak ob):eH H id=ak ob:=by unfold eH;rw[(dF h).1];rfl
def Bx {H:aF} {id ver n i:Nat} {xs tl:List (List AV)} (z:aI H id ver=ak ⟨1,ver,xs++tl⟩) (k:i < ae xs) (x:n=ae xs) (h:n < 1000000) :
  tv prog 158 [.sl 1 id ver 0 n,.q0 (i:Int),.q0 ((i+1:Nat):Int)] (.sl 1 id ver 0 (n - 1)) id ⟨1,ver,xs++tl⟩ ⟨1,ver,aB xs i++[.q0 0]::tl⟩ :=
 ⟨rfl,(Ek z k x h).1,fun K y=>Ek (EW y) k x h⟩
def Hh {H:aF} {id ver n i:Nat} {xs tl:List (List AV)} (z:aI H id ver=ak ⟨1,ver,xs++tl⟩) (k:i < ae xs) (x:n=ae xs) (h:n < 1000000) :
  tv prog 159 [.sl 1 id ver 0 n,.q0 (i:Int),.q0 ((i+1:Nat):Int)] (.sl 1 id ver 0 (n - 1)) id ⟨1,ver,xs++tl⟩ ⟨1,ver,aB xs i++[.nil]::tl⟩ :=
 ⟨rfl,(El z k x h).1,fun K y=>El (EW y) k x h⟩
def KY {H:aF} {id ver n i:Nat} {xs tl:List (List AV)} (z:aI H id ver=ak ⟨4,ver,xs++tl⟩) (k:i < ae xs) (x:n=ae xs) (h:n < 1000000) :
  tv prog 163 [.sl 4 id ver 0 n,.q0 (i:Int),.q0 ((i+1:Nat):Int)] (.sl 4 id ver 0 (n - 1)) id ⟨4,ver,xs++tl⟩ ⟨4,ver,aB xs i++[.q0 0,.nil,.q0 0,.nil]::tl⟩ :=
 ⟨rfl,(Hi z k x h).1,fun K y=>Hi (EW y) k x h⟩
def bK.own (h:bK H G t D z) (k:aL G F [b]) (c:ae H<=b):bK H F t D z :=
 ⟨aiJ h.len k.1,fun y x a w=>by rw[k.2 y (aiB x h.len) bW];exact h.aY y x a w,h.new⟩
@[go_sem] def drop_set {H:aF} {a:Nat} {o:Option bz}:List.drop (ae H) (H.set a o)=[]:=aO
attribute [go_sem] ah8
def zu (hd:Eqs n T 0 E r) (h:ck H t D T) :
  cR prog 127 [.ptr t 0 0 0] H (AM H t D E r):=by
 refine qc func127 Av ?_;refine uz ?_;refine Z ?_;refine aZ (fun m e L=>∃X z i b,Eqs m X i E r/\ck L t z X/\bK H L t D z/\jN H L t z (ae H) (.ptr t 0 0 0)/\jN H L t z b (.q0 (i:Nat))/\b≠ae H/\e=[(1,.ptr (ae H) 0 0 0),(4,.ptr b 0 0 0)]) (n:=n)
  ⟨T,D,0,ae H+1,hd,h.aQ (aL.app _ _ []) aO,bK.aQ (aL.app _ _ _),⟨ct,ahZ _,fun S=>cn (h.lt S)⟩,⟨by simp[aI],aD,fun S=>cn (h.lt S)⟩,aD,rfl⟩ ?_;clear hd h;rintro m _ C ⟨X,z,i,b,hd,h,ho,hx,hb,i9,rfl⟩;have hw:=hd.w;have e4:=hw.nl;have e8:=hw.rl;have d7:=hw.bl;have k8:=hw.ml;have l1:=hw.wl;have k0:=hb.lt;have l2:=hx.lt;have k9:=aP h.bF;have c0:t≠b:=fun I=>hb.out (.inl I.symm);have f0:t≠ae H:=fun I=>hx.out (.inl I.symm);have hT:∀K,bk C t 0 K=K ⟨6,0,[[.q0 (X.n:Int),z.rv,z.vb,z.vo,z.vc,z.vg]]⟩:=aK h.bF;have hB:=hb.gM;have hX:=hx.gM;have j8:∀K,gH z.vb K=K (.q0 (ae X.cells:Int)):=fun K=>by rw[h.aT.cZ.fN,ah3,d7]
 by_cases k7:(i:Int) < (ae X.cells:Int)
 .have hi:i < ae X.cells:=aD;have e1:=ws i;have next:∀(G:aF) (D2:bD) (T2:Tab) (i2:Nat),(∃m',m' < m/\Eqs m' T2 i2 E r)->ck G t D2 T2->bK H G t D D2->jN H G t D2 (ae H) (.ptr t 0 0 0) ->
    ∃f1,f1 < m/\∃X z i b,Eqs f1 X i E r/\ck (G++[ak ⟨1,0,[[.q0 (i2:Int)]]⟩]) t z X/\bK H (G++[ak ⟨1,0,[[.q0 (i2:Int)]]⟩]) t D z/\jN H (G++[ak ⟨1,0,[[.q0 (i2:Int)]]⟩]) t z (ae H) (.ptr t 0 0 0) /\
     jN H (G++[ak ⟨1,0,[[.q0 (i2:Int)]]⟩]) t z b (.q0 (i:Nat))/\b≠ae H/\([(1,.ptr (ae H) 0 0 0),(4,.ptr (ae G) 0 0 0)]:Env)=[(1,.ptr (ae H) 0 0 0),(4,.ptr b 0 0 0)]:=by rintro G D2 T2 i2 ⟨m',i6,h7⟩ B h3 h4;exact ⟨m',i6,T2,D2,i2,ae G,h7,B.aQ (aL.app _ _ []) aO,h3.trans (bK.aQ (aL.app _ _ _)),h4.aQ (aL.app _ _ []) aO,⟨ct,h3.len,fun S=>cn (B.lt S)⟩,cn h4.lt,rfl⟩
  obtain ⟨p,p1,p2⟩:=h.aT.cZ.read (et (show i < ae X.aT by omega));refine Z ?_;refine gk (Hp h e4 e8) ?_;cases hs:X.gm (af X.aT i 0) with
  | false =>
   refine Z ?_;cases hd with
   | done _ J=>omega
   | skip _ J B h3=>exact next C z _ (i+1) ⟨_,aj3 _,h3⟩ h ho hx
   | kz _ _ B _ _ _=>rw[hs] at B;simp at B
   | bad _ _ B _ _=>rw[hs] at B;simp at B
   | drop _ _ B _ _ _=>rw[hs] at B;simp at B
  | true =>
   refine Z ?_;refine dS (Fu h.out.cZ aD (fun v _=>R3 h hw hx.ob hb.ob hi v)) ?_;have c1:fW X.out (X.jT i)=X.yu i:=rfl;rw[c1];cases hd with
   | done _ J=>omega
   | skip _ _ B _=>rw[hs] at B;simp at B
   | kz _ J B h3 h4 h5 =>
    rename_i n1 k l0;have b7:(0<=(k:Int))=True:=aiq aD;have i4:k < ae X.out:=by have:=(Db X.out (X.jT i)).2;rw[c1,h3] at this;omega
    rw[h3];refine Z ?_;refine cQ (zY h hw (i:=i) (k:=k) hi i4 h4) ?_;rintro _ H5 ⟨rfl,D5,t5,o5⟩;have j7:=(hb.gS o5).gM;refine Z ?_;exact next H5 D5 _ (i+1) ⟨_,aj3 _,h5⟩ t5 (ho.trans o5) (hx.gS o5)
   | bad _ J B h3 h4 =>
    have b7:(0<=E.yu i)=False:=aie aD;have b6:(z.aV.map fun v=>[v])[i]?=ak [af z.aV i .ba]:=by simp[af,show i < ae z.aV by rw[h.cl];exact hi]
    have ⟨p3,r1,r2,r3⟩:=h.cells.cZ.wP b6;have e9:=hw.row i hi;have ⟨p4,s1,s2,s3⟩:=(h.rws i hi).wP (i:=0) (iW aD);have c9:∀(t:IntKind) (K:AV->Prop),mZ 4 (af z.aV i .ba) (.c (.int t 0)) K=K p4:=s1;generalize c7:af (af E.cells i []) 0 ah=x at *;have n1:(ae C=t)=False:=aie aD;have n2:(ae C=b)=False:=aie aD;have n3:(ae C=ae H)=False:=aie aD;simp only[go_sem,↓reduceIte,ahZ,aia,b7,hX,hB,hT,r1,r2,c9,s2,n1,n2,n3,r3,s3,ig,akg,aly,ajz];refine aH (j9 x) (by simp[bE]) rfl ?_;have b8:=hw.p8 i hi x (by rw[<-c7];exact ec (show 0 < ae (af E.cells i []) by omega));have a9:(x.top.sign=0)=False:=by rw[qM];exact aie h4
    have kc:aL C (C++[ak ⟨4,0,[qC x]⟩]) []:=aL.app _ _ _;have U:=h.aQ kc aO;have c3:∀K,bk (C++[ak ⟨4,0,[qC x]⟩]) t 0 K=K ⟨6,0,[[.q0 (E.n:Int),z.rv,z.vb,z.vo,z.vc,z.vg]]⟩:=aK U.bF;have c2:=(hb.aQ kc aO).gM;have c4:=(hx.aQ kc aO).gM;have ⟨l3,j2,j3,l4⟩:=U.cells.cZ.wP b6;refine Z6 a9 c3 c2 c4 j2 j3 ?_;refine jJ (cR.Zv (Kx U e4 e8 aD (U.rws i hi) aD)) ?_;have j6:ae (E.mult (af E.cells i []))=ae E.aU:=wM _ _ _;have f2:∀y,y∈E.mult (af E.cells i [])->QOk 100000 y:=Jv (hw.p8 i hi) aD _ (ahZ _);have a0:E.MW i=((E.mult (af E.cells i [])).map fun y=>y.div x).set (az (af E.aT i 0 - E.n)) ((af ((E.mult (af E.cells i [])).map fun y=>y.div x) (az (af E.aT i 0 - E.n)) ah).sub (Q.one.div x)):=by unfold Tab.MW;rw[c7]
    generalize E.mult (af E.cells i [])=l at *;obtain ⟨H2,a6⟩:∃H2,H2=C++[ak (⟨4,0,[qC x]⟩:bz),ak ⟨4,0,l.map qC⟩]:=⟨_,rfl⟩;have k2:aL C H2 []:=by rw[a6];exact aL.app _ _ _
    have a7:aI H2 (ae C) 0=ak ⟨4,0,[qC x]⟩:=by rw[a6];exact ct
    have a2:aI H2 (ae C+1) 0=ak ⟨4,0,(mS (fun y=>y.div x) l 0).map qC⟩:=by rw[a6,Jk];simp[aI]
    simp only[go_sem,↓reduceIte,aia,aiF,aiV,aje,aiy];rw[<-a6];have k6:ae l < 1000000:=aD;refine aZ (fun m e L=>∃c,c<=ae l/\m=ae l - c/\aL C L []/\aI L (ae C) 0=ak ⟨4,0,[qC x]⟩/\aI L (ae C+1) 0=ak ⟨4,0,(mS (fun y=>y.div x) l c).map qC⟩ /\
     e=[(1,.ptr (ae H) 0 0 0),(4,.ptr b 0 0 0),(6,.ptr (ae C) 0 0 0),(7,.sl 4 (ae C+1) 0 0 (ae l)),(63,.q0 (ae l:Int)),(64,.q0 (c:Int))]) (n:=ae l)
     ⟨0,aiL _,rfl,k2,a7,a2,rfl⟩ ?_;clear a6 k2 a7 a2;rintro m' _ Hl ⟨c,hc,rfl,kl,a7,a2,rfl⟩;have d5:∀K,bk Hl (ae C) 0 K=K ⟨4,0,[qC x]⟩:=aK a7;have ml:=Lu (f:=fun y=>y.div x) (l:=l) (j:=c);by_cases a3:(c:Int) < (ae l:Int)
    .have R:c < ae l:=aD;have e3:=ws c;have ⟨p5,u1,u2,_,uw⟩:=SlL.NV a2 (i:=c) (n:=ae l) (by rw[ah3,ml];exact R) (by rw[ah3,ml]) jC;rw[show af (List.map qC (mS (fun y=>y.div x) l c)) c []=qC (af l c ah) by have:=Lt (f:=fun y=>y.div x) R;simp only[af] at this ⊢;rw[ajp];rw[ah6 (by omega)] at this ⊢;simp only[ai9,ai3] at this ⊢;rw[this]] at u2;have c8:=f2 _ (ec R);have i7:=Jj (f:=fun y=>y.div x) R;have ⟨Hn,w1,w2,w3,w4⟩:=uw (qA ((af l c ah).div x)) rfl (sX _);generalize hy:af l c ah=y at *;refine Z4 a3 u1 u2 d5 ?_;refine aH (Cq y x (c8.mono aR) (b8.mono aR) h4) (by simp[bE]) (bE _) ?_;refine Y3 u1 w1 e3 ?_;exact ⟨ae l - (c+1),aD,c+1,R,rfl,⟨by rw[w3];exact kl.1,fun F J B w=>by rw[w4 F (by omega)];exact kl.2 F J B w⟩,by rw[w4 _ (by omega)];exact a7,by rw[i7,ajF];exact w2,rfl⟩
    .have h6:c=ae l:=aD;subst h6;rw[Ls] at a2;have tl:=h.aQ kl aO;have g6:∀K,bk Hl t 0 K=K ⟨6,0,[[.q0 (E.n:Int),z.rv,z.vb,z.vo,z.vc,z.vg]]⟩:=aK tl.bF;have g0:=(hb.aQ kl aO).gM;have g8:=(hx.aQ kl aO).gM;obtain ⟨p6,v1,v2⟩:=tl.aT.cZ.read (et (show i < ae E.aT by omega));have ⟨b1,b2⟩:=IP hs;generalize hv:af E.aT i 0=v at *;obtain ⟨o,i8⟩:∃o:Nat,v - E.n=(o:Int):=⟨az (v - E.n),aD⟩;have ew:au .i64 (v - E.n)=(o:Int):=by rw[wrap_i64 (by omega) (by omega)];exact i8
     have jz:o < ae l:=aD;rw[show az (v - E.n)=o by omega] at a0;have ⟨p5,u1,u2,_,uw⟩:=SlL.NV a2 (i:=o) (n:=ae l) (bu jz) aO jC;have i3:af (l.map fun y=>y.div x) o ah=(af l o ah).div x:=by simp[af,jz]
     rw[show af (List.map qC (l.map fun y=>y.div x)) o []=qC ((af l o ah).div x) by simp[af,jz]] at u2;rw[i3] at a0;have c8:=f2 _ (ec jz);have j1:QOk 200000 ((af l o ah).div x):=Fa aR aR c8 b8 h4;have j0:QOk 100001 (Q.one.div x):=(Fa aR aR Cn b8 h4).mono aR;generalize (af l o ah).div x=y at *;have ⟨Hn,w1,w2,w3,w4⟩:=uw (qA (y.sub (Q.one.div x))) rfl (sX _);have e7:qA (⟨1,0⟩:Q)=qA Q.one:=rfl;simp only[go_sem,↓reduceIte,ahZ,aia,a3,g6,g0,g8,v1,v2,ew,u1,u2];refine aH (ru 1 aR) rfl (bE _) ?_;rw[e7];refine Z1 d5 ?_;refine aH (Cq Q.one x (Cn.mono aR) (b8.mono aR) h4) (by simp[bE]) (bE _) ?_;refine Y ?_;refine aH (SM y (Q.one.div x) (j1.mono aR) (j0.mono aR)) (by simp[bE]) (bE _) ?_;refine Y2 u1 w1 ?_;have kn:aL C Hn []:=⟨by rw[w3];exact kl.1,fun F J B w=>by rw[w4 F (by omega)];exact kl.2 F J B w⟩;refine ⟨z,ho.trans (bK.aQ kn),ae C+1,?_,aiJ ho.len (Nat.le_succ _),?_⟩
     .rw[a0];simp
     .rw[a0,ajF];exact w2
   | drop _ J B h3 h4 h5 =>
    have b7:(0<=X.yu i)=False:=aie aD;have b6:(z.aV.map fun v=>[v])[i]?=ak [af z.aV i .ba]:=by simp[af,show i < ae z.aV by rw[h.cl];exact hi]
    have ⟨p3,r1,r2,r3⟩:=h.cells.cZ.wP b6;have e9:=hw.row i hi;have ⟨p4,s1,s2,s3⟩:=(h.rws i hi).wP (i:=0) (iW aD);have c9:∀(t:IntKind) (K:AV->Prop),mZ 4 (af z.aV i .ba) (.c (.int t 0)) K=K p4:=s1;generalize c7:af (af X.cells i []) 0 ah=x at *;have n1:(ae C=t)=False:=aie aD;have n2:(ae C=b)=False:=aie aD;have n3:(ae C=ae H)=False:=aie aD;simp only[go_sem,↓reduceIte,ahZ,aia,b7,hX,hB,hT,r1,r2,c9,s2,n1,n2,n3,r3,s3,ig,akg,aly,ajz];refine aH (j9 x) (by simp[bE]) rfl ?_;have a9:(x.top.sign=0)=True:=by rw[qM];exact aiq h4
    refine Z1 a9 ?_;obtain ⟨L,b5⟩:∃L,L=C++[ak (⟨4,0,[qC x]⟩:bz)]:=⟨_,rfl⟩;rw[<-b5];have kc:aL C L []:=by rw[b5];exact aL.app _ _ _
    have a3:ae L=ae C+1:=by rw[b5];simp
    clear b5;have U:=h.aQ kc aO;have bc:=hb.aQ kc aO;have xc:=hx.aQ kc aO;have ⟨s,A,M,f3,c5⟩:=U.aT.live (fun h0=>by have B:=akS ae h0;simp only[ah3,aiV] at B;omega);have ⟨W,a,N,d0,R⟩:=U.cells.live (fun h0=>by have B:=akS ae h0;simp only[ah3,aiV] at B;have:=U.cl;omega);have d8:=U.cl;rw[ah3] at M N;have ib:fJ t z s := .inr ⟨.b,by simp only[bD.v,M];simp[aG]⟩;have ic:fJ t z W := .inr ⟨.c,by simp only[bD.v,N];simp[aG]⟩;have tb:t≠s:=fun I=>U.top .b (by simp only[bD.v,M];simp[aG,I]);have b0:t≠W:=fun I=>U.top .c (by simp only[bD.v,N];simp[aG,I]);have b9:s≠W:=fun I=>U.sep .b .c aO s (by simp only[bD.v,M];simp[aG]) (by simp only[bD.v,N];simp[aG,I]);have xb:s≠ae H:=fun I=>xc.out (I ▸ ib);have f4:W≠ae H:=fun I=>xc.out (I ▸ ic);have bb:b≠s:=fun I=>bc.out (I ▸ ib);have f5:b≠W:=fun I=>bc.out (I ▸ ic);have j4:(s=ae H)=False:=aie xb;have j5:(W=ae H)=False:=aie f4;have c3:∀K,bk L t 0 K=K ⟨6,0,[[.q0 (X.n:Int),z.rv,.sl 1 s A 0 (ae X.aT),z.vo,.sl 1 W a 0 (ae z.aV),z.vg]]⟩:=aK (by rw[U.bF,M,N]);have c2:=bc.gM;have c4:=xc.gM;refine Z4 c3 c2 c4 e1 ?_;refine qt (Bx c5 bW aO aD) (tf c5) ?_;obtain ⟨G1,a4⟩:∃G1,G1=L.set s (ak (⟨1,A,aB (X.aT.map cN) i++[.q0 0]::f3⟩:bz)):=⟨_,rfl⟩;have d1:aI G1 t 0=ak ⟨6,0,[[.q0 (X.n:Int),z.rv,.sl 1 s A 0 (ae X.aT),z.vo,.sl 1 W a 0 (ae z.aV),z.vg]]⟩:=by rw[a4,aS (ait tb),U.bF,M,N]
    have g5:∀K,bk G1 t 0 K=K ⟨6,0,[[.q0 (X.n:Int),z.rv,.sl 1 s A 0 (ae X.aT),z.vo,.sl 1 W a 0 (ae z.aV),z.vg]]⟩:=aK d1;have e0:ae G1=ae C+1:=by rw[a4,ah8,a3]
    have h8:List.drop (ae C+1) G1=[]:=aih aD;rw[<-a4];have k1:∀o,List.drop (ae C+1) (G1.set t o)=[]:=fun o=>aih (by rw[ah8];omega);obtain ⟨G2,a5⟩:∃G2,G2=G1.set t (ak (⟨6,0,[[.q0 (X.n:Int),z.rv,.sl 1 s A 0 (ae X.aT - 1),z.vo,.sl 1 W a 0 (ae z.aV),z.vg]]⟩:bz)):=⟨_,rfl⟩;have d2:aI G2 t 0=ak ⟨6,0,[[.q0 (X.n:Int),z.rv,.sl 1 s A 0 (ae X.aT - 1),z.vo,.sl 1 W a 0 (ae z.aV),z.vg]]⟩:=by rw[a5];exact bn (aP d1)
    have g2:∀F,F≠t->F≠s->∀w,aI G2 F w=aI L F w:=fun F J B w=>by rw[a5,aS (ait J),a4,aS (ait B)]
    have g7:∀K,bk G2 (ae H) 0 K=K ⟨1,0,[[.ptr t 0 0 0]]⟩:=aK (by rw[g2 _ (ait f0) (ait xb)];exact xc.ob);have f8:∀K,bk G2 b 0 K=K ⟨1,0,[[.q0 (i:Int)]]⟩:=aK (by rw[g2 _ (ait c0) bb];exact bc.ob);have g3:∀K,bk G2 t 0 K=K ⟨6,0,[[.q0 (X.n:Int),z.rv,.sl 1 s A 0 (ae X.aT - 1),z.vo,.sl 1 W a 0 (ae z.aV),z.vg]]⟩:=aK d2;have a8:aI G2 W a=ak ⟨1,a,(z.aV.map fun v=>[v])++d0⟩:=by rw[g2 _ (ait b0) (ait b9)];exact R
    have e2:ae G2=ae C+1:=by rw[a5,ah8,e0]
    have h9:List.drop (ae C+1) G2=[]:=aih aD;simp only[go_sem,↓reduceIte,Nat.reduceLeDiff,aia,g5,h8,a3,e0,j4,ig,akg,aly,ajz,aiS,ajE,ake,ak7,aG,<-a5,g7,f8,g3,e1,h9,e2];refine qt (Hh a8 bW aO aD) (tf a8) ?_;obtain ⟨G3,a1⟩:∃G3,G3=G2.set W (ak (⟨1,a,aB (z.aV.map fun v=>[v]) i++[.nil]::d0⟩:bz)):=⟨_,rfl⟩;have d3:aI G3 t 0=ak ⟨6,0,[[.q0 (X.n:Int),z.rv,.sl 1 s A 0 (ae X.aT - 1),z.vo,.sl 1 W a 0 (ae z.aV),z.vg]]⟩:=by rw[a1,aS (ait b0),d2]
    have d6:∀K,bk G3 t 0 K=K ⟨6,0,[[.q0 (X.n:Int),z.rv,.sl 1 s A 0 (ae X.aT - 1),z.vo,.sl 1 W a 0 (ae z.aV),z.vg]]⟩:=aK d3;have c6:ae G3=ae C+1:=by rw[a1,ah8,e2]
    have i0:List.drop (ae C+1) G3=[]:=aih aD;have k3:∀o,List.drop (ae C+1) (G3.set t o)=[]:=fun o=>aih (by rw[ah8];omega);rw[<-a1];obtain ⟨V,O⟩:∃V,V=G3.set t (ak (⟨6,0,[[.q0 (X.n:Int),z.rv,.sl 1 s A 0 (ae X.aT - 1),z.vo,.sl 1 W a 0 (ae z.aV - 1),z.vg]]⟩:bz)):=⟨_,rfl⟩;have d4:aI V t 0=ak ⟨6,0,[[.q0 (X.n:Int),z.rv,.sl 1 s A 0 (ae X.aT - 1),z.vo,.sl 1 W a 0 (ae z.aV - 1),z.vg]]⟩:=by rw[O];exact bn (aP d3)
    have g4:∀F,F≠t->F≠s->F≠W->∀w,aI V F w=aI L F w:=fun F J B h3 w=>by rw[O,aS (ait J),a1,aS (ait h3),g2 F J B]
    have f6:aI V s A=ak ⟨1,A,aB (X.aT.map cN) i++[.q0 0]::f3⟩:=by rw[O,aS tb,a1,aS (ait b9),a5,aS tb,a4,bn (aP c5)]
    have f7:aI V W a=ak ⟨1,a,aB (z.aV.map fun v=>[v]) i++[.nil]::d0⟩:=by rw[O,aS b0,a1,bn (aP a8)]
    have k4:aL L V [t,s,W]:=⟨by rw[O,ah8,c6,a3];exact ahZ _,fun F _ B w=>by simp at B;exact g4 F B.1 B.2.1 B.2.2 w⟩;have t4:=U.Yz hi d7 M (by rw[N,d8]) (by rw[d8] at d4;exact d4) f6 f7 k4;have f9:∀K,bk V b 0 K=K ⟨1,0,[[.q0 (i:Int)]]⟩:=aK (by rw[g4 _ (ait c0) bb f5];exact bc.ob);have e5:au .i64 ((i:Int) - 1)=(i:Int) - 1:=wrap_i64 aD aD;have e6:au .i64 ((i:Int) - 1+1)=(i:Int):=by rw[wrap_i64 (by omega) (by omega)];omega
    have g9:b < ae V:=cn k4.1;obtain ⟨G5,b3⟩:∃G5,G5=V.set b (ak (⟨1,0,[[.q0 ((i:Int) - 1)]]⟩:bz)):=⟨_,rfl⟩;have g1:∀K,bk G5 b 0 K=K ⟨1,0,[[.q0 ((i:Int) - 1)]]⟩:=aK (by rw[b3];exact bn g9);have kb:aL V G5 [b]:=⟨by rw[b3];simp,fun F _ B w=>by simp at B;rw[b3];exact aS (ait B)⟩;have d9:List.drop (ae G2) G3=[]:=aih aD;have i5:ae V=ae C+1:=by rw[O,ah8,c6]
    have i1:List.drop (ae C+1) V=[]:=aih aD;simp only[go_sem,↓reduceIte,Nat.reduceLeDiff,ahZ,aia,d6,i0,c6,j5,ig,akg,aly,ajz,aiS,ajE,ake,ak7,aG,<-O,f9,e5,<-b3,g1,d9,i5,i1,e6];have o4:bK L V t z {z with vb := .sl 1 s A 0 (ae X.aT - 1),vc := .sl 1 W a 0 (ae X.cells - 1),aV:=aB z.aV i}:=by
     refine ⟨k4.1,fun F J B w=>k4.2 F J (by simp;exact ⟨fun I=>B (.inl I),fun I=>B (I ▸ ib),fun I=>B (I ▸ ic)⟩) w,?_⟩;rintro F (rfl | ⟨q,hq⟩)
     .exact .inl (.inl rfl)
     .left;right;cases q with
      | b=>exact ⟨.b,by simp only[bD.v,M] at hq ⊢;simpa[aG] using hq⟩
      | o=>exact ⟨.o,hq⟩
      | c=>exact ⟨.c,by simp only[bD.v,N] at hq ⊢;simpa[aG] using hq⟩
      | g=>exact ⟨.g,hq⟩
      | r j =>
       simp only[bD.v,getD_erase] at hq;split at hq
       .exact ⟨.r j,hq⟩
       .exact ⟨.r (j+1),hq⟩
    have b4:=bc.gS o4;have x4:=xc.gS o4;exact next G5 _ _ i ⟨_,aj3 _,h5⟩ (t4.aQ kb (fun F S hm=>by simp at hm;exact b4.out (hm ▸ S))) (((ho.trans (bK.aQ kc)).trans o4).own kb hb.new) (x4.aQ kb (bu (ait i9)))
 .have k5:ae X.cells<=i:=aD;cases hd with
  | done _ _ =>
   refine Z ?_;exact ⟨z,ho,rfl,h⟩
  | skip _ J _ _=>omega
  | kz _ J _ _ _ _=>omega
  | bad _ J _ _ _=>omega
  | drop _ J _ _ _ _=>omega
section
variable {e:Env}
end
def bK.put (k:aL H H' ids) (y:∀id,id∈ids->fJ t D id\/ae H<=id) (z:∀id,fJ t D' id->fJ t D id\/ae H<=id):bK H H' t D D' :=
 ⟨k.1,fun id x b w=>k.2 id x (fun a=>(y id a).elim b (fun h=>aD)) w,z⟩
def lf (t:Nat) (D:bD) (s:Slot) (a:Nat):Prop:=a∈aG (D.v s)\/¬fJ t D a
def lf.ne (h:ck H t D T) (y:lf t D s a) (z:s'≠s):a∉aG (D.v s'):=by
 intro x;rcases y with k | k
 .exact h.sep s' s z a x k
 .exact k (.inr ⟨s',x⟩)
def lf.nt (h:ck H t D T) (x:lf t D s a):a≠t:=by
 rintro rfl;rcases x with k | k
 .exact h.top s k
 .exact k (.inl rfl)
def GM {H:aF} {t a:Nat} {D D':bD} {T:Tab} {s0:Slot} (h:ck H t D T) (f:lf t D s0 a) (b:∀s,s≠s0->D'.v s=D.v s) (c:∀id,id∈aG (D'.v s0)->id=a) :
  (∀s,t∉aG (D'.v s))/\(∀s s',s≠s'->∀id,id∈aG (D'.v s)->id∉aG (D'.v s')):=by
 refine ⟨fun s g=>?_,fun s s' y id x k=>?_⟩
 .by_cases z:s=s0
  .subst z;exact f.nt h (c t g).symm
  .rw[b s z] at g;exact h.top s g
 .by_cases z:s=s0
  .subst z;have:=c id x;subst this;rw[b s' (ait y)] at k;exact f.ne h (ait y) k
  .rw[b s z] at x;by_cases w:s'=s0
   .subst w;have:=c id k;subst this;exact f.ne h z x
   .rw[b s' w] at k;exact h.sep s s' y id x k
def rh (x:∀s,s≠s0->D'.v s=D.v s) (y:∀id,id∈aG (D'.v s0)->id=a) (z:fJ t D a\/n<=a):∀id,fJ t D' id->fJ t D id\/n<=id:=by
 rintro id (rfl | ⟨s,h⟩)
 .exact .inl (.inl rfl)
 .by_cases k:s=s0
  .subst k;rw[y id h];exact z
  .rw[x s k] at h;exact .inl (.inr ⟨s,h⟩)
def ck.PK (h:ck H t D T) (f:lf t D .g a) (p:n=ae l)
  (q:aI H' t 0=ak ⟨6,0,[[.q0 (T.n:Int),D.rv,D.vb,D.vo,D.vc,.sl 4 a ver 0 n]]⟩) (w:SlL H' 4 a ver (l.map qC)) (x:aL H H' [t,a]):ck H' t {D with vg := .sl 4 a ver 0 n} {T with aM:=l}:=by
 have cK:∀s,s ≠ .g->∀y,y∈aG (D.v s)->y∉[t,a]:=fun s z y k j=>by
  simp at j;rcases j with rfl | rfl
  .exact h.top s k
  .exact f.ne h z k
 have ⟨K,X⟩:=GM (D':={D with vg := .sl 4 a ver 0 n}) h f (fun s w=>by cases s<;>first | rfl | exact absurd rfl w) (fun y k=>by simpa[bD.v,aG] using k);exact ⟨q,h.aU.aQ x (fun y k=>by rw[h.lI] at k;simp at k),h.lI,h.aT.aQ x (cK .b aO),h.out.aQ x (cK .o aO),h.cells.aQ x (cK .c aO),h.cl,fun i m=>(h.rws i m).aQ x (cK (.r i) aO),.of (w.cZ (bu p)),⟨h.live.1,vW⟩,K,X⟩
def ck.NK (h:ck H t D T) (f:lf t D .o a) (p:n=ae l)
  (q:aI H' t 0=ak ⟨6,0,[[.q0 (T.n:Int),D.rv,D.vb,.sl 1 a ver 0 n,D.vc,D.vg]]⟩) (w:SlL H' 1 a ver (l.map cN)) (x:aL H H' [t,a]):ck H' t {D with vo := .sl 1 a ver 0 n} {T with out:=l}:=by
 have cK:∀s,s ≠ .o->∀y,y∈aG (D.v s)->y∉[t,a]:=fun s z y k j=>by
  simp at j;rcases j with rfl | rfl
  .exact h.top s k
  .exact f.ne h z k
 have ⟨K,X⟩:=GM (D':={D with vo := .sl 1 a ver 0 n}) h f (fun s w=>by cases s<;>first | rfl | exact absurd rfl w) (fun y k=>by simpa[bD.v,aG] using k);exact ⟨q,h.aU.aQ x (fun y k=>by rw[h.lI] at k;simp at k),h.lI,h.aT.aQ x (cK .b aO),.inr ⟨a,ver,by rw[p];simp,w⟩,h.cells.aQ x (cK .c aO),h.cl,fun i m=>(h.rws i m).aQ x (cK (.r i) aO),h.aM.aQ x (cK .g aO),h.live,K,X⟩
def ck.NJ (h:ck H t D T) (f:lf t D .b a) (p:n=ae l)
  (q:aI H' t 0=ak ⟨6,0,[[.q0 (T.n:Int),D.rv,.sl 1 a ver 0 n,D.vo,D.vc,D.vg]]⟩) (w:SlL H' 1 a ver (l.map cN)) (x:aL H H' [t,a]):ck H' t {D with vb := .sl 1 a ver 0 n} {T with aT:=l}:=by
 have cK:∀s,s ≠ .b->∀y,y∈aG (D.v s)->y∉[t,a]:=fun s z y k j=>by
  simp at j;rcases j with rfl | rfl
  .exact h.top s k
  .exact f.ne h z k
 have ⟨K,X⟩:=GM (D':={D with vb := .sl 1 a ver 0 n}) h f (fun s w=>by cases s<;>first | rfl | exact absurd rfl w) (fun y k=>by simpa[bD.v,aG] using k);exact ⟨q,h.aU.aQ x (fun y k=>by rw[h.lI] at k;simp at k),h.lI,.inr ⟨a,ver,by rw[p];simp,w⟩,h.out.aQ x (cK .o aO),h.cells.aQ x (cK .c aO),h.cl,fun i m=>(h.rws i m).aQ x (cK (.r i) aO),h.aM.aQ x (cK .g aO),h.live,K,X⟩
def dN {α:Type} {l:List α} {i j:Nat} {x d:α} (h:i≠j):af (l.set j x) i d=af l i d:=by simp[af,ajc (ait h)]
def eu {α:Type} {l:List α} {j:Nat} {x d:α} (h:j < ae l):af (l.set j x) j d=x:=by simp[af,h]
def ck.SZ (h:ck H t D T) (C:r < ae T.cells) (p:lf t D (.r r) a) (B:n=ae l) (W:D.vc = .sl 1 ca cver 0 (ae D.aV))
  (X:SlL H' 4 a ver (l.map qC)) (A:SlL H' 1 ca cver ((D.aV.map fun v=>[v]).set r [.sl 4 a ver 0 n])) (w:aL H H' [a,ca]):ck H' t {D with aV:=D.aV.set r (.sl 4 a ver 0 n)} {T with cells:=T.cells.set r l}:=by
 have f:ca∈aG (D.v .c):=by simp only[bD.v,W];simp[aG]
 have y:=h.cl ▸ C;have J:∀s,s ≠ .r r->({D with aV:=D.aV.set r (.sl 4 a ver 0 n)}:bD).v s=D.v s:=by
  intro s X;cases s with
  | r i =>
   have:i≠r:=bu X;simp only[bD.v];exact dN this
  | _=>rfl
 have I:({D with aV:=D.aV.set r (.sl 4 a ver 0 n)}:bD).v (.r r) = .sl 4 a ver 0 n:=by simp only[bD.v];exact eu y
 have cK:∀s,s ≠ .r r->s ≠ .c->∀m,m∈aG (D.v s)->m∉[a,ca]:=fun s K q m k j=>by
  simp at j;rcases j with rfl | rfl
  .exact p.ne h K k
  .exact h.sep s .c q _ k f
 have ⟨F,G⟩:=GM (D':={D with aV:=D.aV.set r (.sl 4 a ver 0 n)}) h p J (fun m k=>by rw[I] at k;simpa[aG] using k);have E:t∉[a,ca]:=by
  intro j;simp at j;rcases j with x | x
  .exact p.nt h x.symm
  .exact h.top .c (x ▸ f)
 refine ⟨?_,h.aU.aQ w (fun m k=>by rw[h.lI] at k;simp at k),h.lI,h.aT.aQ w (cK .b aO aO),h.out.aQ w (cK .o aO aO),.inr ⟨ca,cver,?_,?_⟩,bu h.cl,fun i z=>?_,h.aM.aQ w (cK .g aO aO),⟨fun i z=>?_,h.live.2⟩,F,G⟩
 .show aI H' t 0=ak ⟨6,0,[[.q0 (T.n:Int),D.rv,D.vb,D.vo,D.vc,D.vg]]⟩;rw[w.2 t (aP h.bF) E];exact h.bF
 .show D.vc=_;rw[W];simp
 .rw[<-ajF] at A;exact A
 .simp only[ah8] at z;show SlV H' 4 (af (D.aV.set r (.sl 4 a ver 0 n)) i .ba) ((af (T.cells.set r l) i []).map qC);by_cases x:i=r
  .subst x;rw[eu y,eu z];exact X.cZ (bu B)
  .rw[dN x,dN x];exact (h.rws i z).aQ w (cK (.r i) (bu x) aO)
 .simp only[ah8] at z;show zO (af (D.aV.set r (.sl 4 a ver 0 n)) i .ba) (af (T.cells.set r l) i []);by_cases x:i=r
  .subst x;rw[eu y];exact vW
  .rw[dN x,dN x];exact h.live.1 i z
def Tab.rD (T:Tab) (i:Nat):Tab:={T with aT:=aB T.aT i,cells:=aB T.cells i,aM:=af T.cells i []}
def Slot.sg (i:Nat):Slot->Slot
 | .r j => .r (if j < i then j else j+1)
 | .g => .r i
 | s=>s
def Slot.ZL {i:Nat} {s s':Slot} (h:s.sg i=s'.sg i):s=s':=by
 cases s<;>cases s'<;>simp only[Slot.sg,Slot.r.injEq,reduceCtorEq] at h ⊢
 .split at h<;>omega
 .split at h<;>omega
 .split at h<;>split at h<;>omega
def ck.rD (h:ck H t D T) (f:i < ae T.cells) (G:ae T.aT=ae T.cells)
  (A:D.vb = .sl 1 y k 0 (ae T.aT)) (B:D.vc = .sl 1 z cver 0 (ae T.cells))
  (J:aI H' t 0=ak ⟨6,0,[[.q0 (T.n:Int),D.rv,.sl 1 y k 0 (ae T.aT - 1),D.vo,.sl 1 z cver 0 (ae T.cells - 1),af D.aV i .ba]]⟩)
  (p:aI H' y k=ak ⟨1,k,aB (T.aT.map cN) i++N::X⟩) (q:aI H' z cver=ak ⟨1,cver,aB (D.aV.map fun v=>[v]) i++O::W⟩) (m:aL H H' [t,y,z]) :
  ck H' t {D with vb := .sl 1 y k 0 (ae T.aT - 1),vc := .sl 1 z cver 0 (ae T.cells - 1),vg:=af D.aV i .ba,aV:=aB D.aV i} (T.rD i):=by
 have L:y∈aG (D.v .b):=by simp only[bD.v,A];simp[aG]
 have M:z∈aG (D.v .c):=by simp only[bD.v,B];simp[aG]
 have a:=h.cl;have cK:∀s,s ≠ .b->s ≠ .c->∀w,w∈aG (D.v s)->w∉[t,y,z]:=by
  intro s E F w x C;simp at C;rcases C with rfl | rfl | rfl
  .exact h.top s x
  .exact h.sep s .b E _ x L
  .exact h.sep s .c F _ x M
 have hv:∀s,aG (({D with vb := .sl 1 y k 0 (ae T.aT - 1),vc := .sl 1 z cver 0 (ae T.cells - 1),vg:=af D.aV i .ba,aV:=aB D.aV i}:bD).v s)=aG (D.v (s.sg i)):=by
  intro s;cases s with
  | b=>simp only[bD.v,A,Slot.sg];rfl
  | o=>rfl
  | c=>simp only[bD.v,B,Slot.sg];rfl
  | g=>rfl
  | r j=>simp only[bD.v,getD_erase,Slot.sg];split<;>rfl
 refine ⟨J,h.aU.aQ m (fun w x=>by rw[h.lI] at x;simp at x),h.lI,.inr ⟨y,k,?_,N::X,?_⟩,h.out.aQ m (cK .o aO aO),.inr ⟨z,cver,?_,O::W,?_⟩,?_,fun j l=>?_,.of ((h.rws i f).aQ m (cK (.r i) aO aO)),⟨fun j l=>?_,h.live.1 i f⟩,fun s=>?_,fun s R K w x=>?_⟩
 .simp only[Tab.rD,ah3,aiP (show i < ae T.aT by omega)]
 .simp only[Tab.rD];rw[<-qH];exact p
 .simp only[ah3,aiP (show i < ae D.aV by omega),a]
 .simp only;rw[<-qH];exact q
 .simp only[Tab.rD];rw[aiP (by omega),aiP f,a]
 .simp only[Tab.rD] at l ⊢;rw[aiP f] at l;rw[getD_erase,getD_erase];split
  .exact (h.rws j aD).aQ m (cK (.r j) aO aO)
  .exact (h.rws (j+1) aD).aQ m (cK (.r (j+1)) aO aO)
 .simp only[Tab.rD] at l ⊢;rw[aiP f] at l;rw[getD_erase,getD_erase];split
  .exact h.live.1 j aD
  .exact h.live.1 (j+1) aD
 .rw[hv];exact h.top _
 .rw[hv] at x ⊢;exact h.sep _ _ (fun I=>K (Slot.ZL I)) w x
end
end Go.Fx
