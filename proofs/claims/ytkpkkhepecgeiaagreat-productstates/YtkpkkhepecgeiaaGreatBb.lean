/- A state of the product is allowed or initial exactly when its two parts are; ProductStates returns true whatever its arguments are: part 2 of 10. No condition. -/
import Derived.Test.YtkpkkhepecgeiaaGreatBa
import Derived.RangeFuncRecord
set_option linter.all false
set_option maxRecDepth 8000
set_option maxHeartbeats 9000000
set_option autoImplicit true
set_option relaxedAutoImplicit true
namespace Go.Fx
open List renaming length->ae,getD->af,replicate->aA,eraseIdx->aB,range->aC
open Inhabited renaming default->ah
open Option renaming some->ak,none->an
open Bool renaming true->aq,false->ar
open Go.IntKind renaming wrap->au
open Int renaming natAbs->ay,toNat->az
section
variable {P:Program} {dl:List Deferred} {fo:Option Nat} {N:Nat} {I:Imm} {β:Bet} {e:Env} {H H':aE} {a:Act} {w:World} {o:Oper} {v:AV}
def zQ {k:Nat}:∀{xs:List (List AV)} (_:∀x,x∈xs->ae x=k) {m:Nat} {a:AV},xs.flatten[m]?=ak a->∃i j,cJ xs i j=ak a/\m=i*k+j
 | [],_,m,a,e=>by simp at e
 | x::r,h,m,a,e=>by
  have g:=h x aK;rw[Zb] at e;rcases Xe m (ae x) with z | z
  .rw[Xc z] at e;exact ⟨0,m,by simpa[cJ] using e,aD⟩
  .rw[Xk z] at e;have ⟨i,j,b,f⟩:=zQ (xs:=r) (fun y c=>h y (by simp[c])) e;exact ⟨i+1,j,by simpa[cJ] using b,by rw[XF];omega⟩
def gp (I:Imm) (β:Bet) (c:Array Value) (off:Nat) (F:List AV):Prop:=∀(m:Nat) a v,F[m]?=ak a->c[off+m]?=ak v->Rel I β a v
def dG.flat (h:dG I β w B ob) (s:B.k=ob.k) (t:B.eS=ar):∃c E,w.heap[B.b]?=ak (.cells c E (0,0))/\(∀o,I B.b o=an)/\B.off+B.cap*B.k<=c.size/\ae ob.xs<=B.cap /\
  (∀x,x∈ob.xs->ae x=ob.k/\x.all bh=aq)/\gp I β c B.off ob.xs.flatten:=by unfold dG at h;rw[WX (by simp[t])] at h;have ⟨c,E,g,l,n,p,y,q⟩:=h;refine ⟨c,E,g,l,n,p,y,fun m a v z f=>?_⟩;obtain ⟨i,j,r,rfl⟩:=zQ (fun x K=>(y x K).1) z;exact q i j a v r (by rw[s,<-XY] at *;exact f)
def dG.Jq {E:TypeId} (p:B.k=ob.k) (q:B.eS=ar) (f:w.heap[B.b]?=ak (.cells c E (0,0))) (g:∀o,I B.b o=an) (l:B.off+B.cap*B.k<=c.size) (m:ae ob.xs<=B.cap)
  (h:∀x,x∈ob.xs->ae x=ob.k/\x.all bh=aq) (n:gp I β c B.off ob.xs.flatten):dG I β w B ob:=by unfold dG;rw[WX (by simp[q])];refine ⟨c,E,f,g,l,m,h,fun i j a v y z=>?_⟩;exact n _ a v (gE (fun x r=>(h x r).1) y) (by rw[<-p,<-XY];exact z)
def gp.mono (h:gp I β c off F) (z:I.le k) (b:β.le f):gp k f c off F :=
 fun m a v x y=>(h m a v x y).mono z b
def JF (h:q+ae cs<=ae F):ae (eN F q cs)=ae F:=by simp[eN];omega
def gp.put (h:gp I β c off F) (z:bJ I β cs vs) (i:q+ae cs<=ae F) (y:off+q+ae vs<=c.size):gp I β (cn c (off+q) vs) off (eN F q cs):=by
 intro m a v k x;have g:=z.1;rw[z7 _ _ _ y] at x;simp only[eN] at k;by_cases b:m < q
 .rw[WX (by omega)] at x;rw[Xc (by simp;omega),Xc (by simp;omega),List.getElem?_take_of_lt b] at k;exact h m a v k x
 .by_cases f:m < q+ae cs
  .rw[W0 aD] at x;rw[Xc cE,Xk cE] at k;simp only[XI] at k;rw[show m - min q (ae F)=m - q by omega] at k;rw[show off+m - (off+q)=m - q by omega] at x;exact z.2 _ a v k x
  .rw[WX aD] at x;rw[Xk cE,YU] at k;simp only[Xn,XI] at k;rw[show q+ae cs+(m - (min q (ae F)+ae cs))=m by omega] at k;exact h m a v k x
def gp.snoc (h:gp I β c off F) (z:bJ I β cs vs) (y:off+ae F+ae vs<=c.size):gp I β (cn c (off+ae F) vs) off (F++cs):=by
 intro m a v k x;have f:=z.1;rw[z7 _ _ _ y] at x;by_cases b:m < ae F
 .rw[WX aD] at x;rw[Xc b] at k;exact h m a v k x
 .rw[Xk aD] at k;have hm:=(W9.1 k).1;rw[W0 (by omega),show off+m - (off+ae F)=m - ae F by omega] at x;exact z.2 _ a v k x
def gp.drop (h:gp I β c off F):gp I β c (off+q) (F.drop q):=by intro m a v k x;rw[YU] at k;exact h (q+m) a v k (by rw[<-XY];exact x)
def KX {xs:List (List AV)} {k i b:Nat} {x cs:List AV} (h:∀y,y∈xs->ae y=k) (c:xs[i]?=ak x) (m:b+ae cs<=k):(xs.set i (eN x b cs)).flatten=eN xs.flatten (i*k+b) cs:=by
 induction xs generalizing i with
 | nil=>simp at c
 | cons y r g =>
  have n:=h y aK;cases i with
  | zero =>
   simp at c;subst c;simp only[ZP,Zb,eN,abQ,Xb];rw[YP (by omega),aax,show b+ae cs - ae y=0 by omega];simp
  | succ i =>
   simp at c;simp only[List.set_cons_succ,Zb];rw[g (fun z f=>h z (by simp[f])) c];simp only[eN];have j:y.take (ae y+(i*k+b))=y:=Xq aD;have l:y.drop (ae y+(i*k+b)+ae cs)=[]:=ZN aD;rw[show (i+1)*k+b=ae y+(i*k+b) by rw[XF];omega,List.take_append,aax,j,l,aae,show ae y+(i*k+b)+ae cs - ae y=i*k+b+ae cs by omega];simp
def Cv {xs:List (List AV)} {k:Nat} (h:∀y,y∈xs->ae y=k) (n:Nat):(xs.take n).flatten=xs.flatten.take (n*k):=by
 induction xs generalizing n with
 | nil=>simp
 | cons y r b =>
  cases n with
  | zero=>simp
  | succ n =>
   simp only[List.take_succ_cons,Zb];have c:y.take ((n+1)*k)=y:=Xq (by rw[h y aK,XF];omega);rw[b (fun z x=>h z (by simp[x])),List.take_append,h y aK,show (n+1)*k - k=n*k by rw[XF];omega,c]
def wY {xs:List (List AV)} {k:Nat} (h:∀y,y∈xs->ae y=k) (n:Nat):(xs.drop n).flatten=xs.flatten.drop (n*k):=by
 induction xs generalizing n with
 | nil=>simp
 | cons y r b =>
  cases n with
  | zero=>simp
  | succ n =>
   simp only[List.drop_succ_cons,Zb];have c:y.drop ((n+1)*k)=[]:=ZN (by rw[h y aK,XF];omega);rw[b (fun z x=>h z (by simp[x])),aax,h y aK,show (n+1)*k - k=n*k by rw[XF];omega,c];simp
def ti {xs ys:List (List AV)} {k n:Nat} (h:∀y,y∈xs->ae y=k) (x:∀y,y∈ys->ae y=k):(xs.take n++ys++xs.drop (n+ae ys)).flatten=eN xs.flatten (n*k) ys.flatten:=by rw[aab,aab,Cv h,wY h,eN,c9 x,XF]
def nL (s:Sim I β H w) {id:Nat} {ob:bC} {B:Blk} (i:H[id]?=ak (ak ob)) (r:β id ob.ver=ak B) (l:B.eS=ar) {c:Array Value} {E:TypeId} (W:w.heap[B.b]?=ak (.cells c E (0,0)))
  (y:bC) (z:Blk) (f:Bet) (C:f=β/\y.ver=ob.ver/\z=B\/f=ey β id (ob.ver+1) z/\y.ver=ob.ver+1) (j:z.b=B.b) (m:z.eS=ar) (t:z.k=y.k) {q:Nat} {vs:List Value}
  (n:z.off+z.cap*z.k<=c.size) (g:ae y.xs<=z.cap) (p:∀x,x∈y.xs->ae x=y.k/\x.all bh=aq) (A:gp I f (cn c q vs) z.off y.xs.flatten) :
  Sim I f (H.set id (ak y)) (gA w B.b (cn c q vs) E)/\Ext I β H w I f (H.set id (ak y)) (gA w B.b (cn c q vs) E):=by
 refine s.rU i r y z f C t (by simp[gA]) (fun b X h=>?_) rfl rfl rfl (fun _ => .inl ⟨l,j⟩) ?_
 .rw[vA,WX];rintro ⟨K,_⟩;rcases h with h | h
  .simp[l] at h
  .exact h K
 .refine dG.Jq t m (c:=cn c q vs) (E:=E) ?_ ?_ (by rw[Ju];exact n) g p A
  .rw[j,vA,W0 ⟨rfl,gJ W⟩]
  .intro o;rw[j];exact Own.HM s ⟨id,ob,B,i,r,l,rfl⟩ o
def Da (h:l.all p=aq) (y:cs.all p=aq):(eN l q cs).all p=aq:=by
 simp only[eN,Ze,WZ];refine ⟨⟨?_,y⟩,?_⟩<;>rw[W6] at h ⊢<;>intro x k
 .exact h x (YW k)
 .exact h x (Yv k)
def RG (h:bB P o.op (.st x y k)=aq) (s:bH dl N I β e H a w) (hv:hv (.st x y k) e H=ak (v,H')):Post I β H w v H' ((execOp a.eval o).run P w):=by
 cases ho:o.op<;>simp only[ho,bB,W3,WZ,X2] at h;rename_i t U m;have ⟨⟨hk,h1⟩,h2⟩:=h;have r1:=s.x h1;have r2:=s.x h2;simp only[Fx.hv] at hv;generalize x.ev e=A at *;split at hv
 .rename_i id ver i l;have ⟨g,a1,hv⟩:=W5.1 hv;have ⟨xx,J,hv⟩:=W5.1 hv;split at hv<;>simp at hv;rename_i hb;have ⟨n,a5,f⟩:=hb;obtain ⟨rfl,rfl⟩:=hv;have ⟨B,hB,hn,e1⟩:=r1.qN;obtain ⟨W,rfl⟩:=ct a1;have ⟨B',g1,R,g3⟩:=s.bm.obj id g W;rw[hB] at g1;cases g1;have ⟨c,E,M,f2,f3,f4,O,f6⟩:=g3.flat R hn;have T:=r2.cellsOf (nG (p:=bh) f rfl);have L:=O xx (XJ J);have hi:=(W9.1 J).1;have F:(a.eval m).cells.toList.length=k:=by rw[<-T.1];exact n
  have C:(i+1)*B.k<=B.cap*B.k:=XK _ aD;rw[XF] at C;have a4:B.off+(i*B.k+l)+(a.eval m).cells.toList.length<=c.size:=by rw[F];omega
  have V:=c9 (fun x J=>(O x J).1);have r:(i+1)*g.k<=ae g.xs*g.k:=XK _ aD;rw[XF] at r;have D:=f6.put (q:=i*g.k+l) T (by rw[V,n];omega) (by rw[<-R];exact a4);obtain ⟨s',U⟩:=nL s.bm W hB hn M ⟨g.k,g.ver,g.xs.set i (eN xx l (y.ev e).cells)⟩ B β (.inl ⟨rfl,rfl,rfl⟩) rfl hn R (q:=B.off+(i*g.k+l)) (vs:=(a.eval m).cells.toList) f3 (by simpa using f4) (by
    intro z hz;rcases Yq hz with h | h
    .exact O z h
    .subst h;exact ⟨by rw[JF aD];exact L.1,Da L.2 f⟩) (by
    rw[KX (fun y hy=>(O y hy).1) J aD];exact D);refine ⟨.skip,if (a.eval m).cells.toList.isEmpty then w else gA w B.b (cn c (B.off+(i*g.k+l)) (a.eval m).cells.toList) E,I,β,?_,?_⟩
  .have a3:=nV (P:=P) (b:=B.b) (E:=E) (a.eval m).cells.toList w c (B.off+i*B.k+l) 0 M (fun v hv=>by
    have ⟨j,S⟩:=ZC.1 hv;have a0:j < (y.ev e).cells.length:=by rw[T.1];exact (W9.1 S).1
    have K:=W7 a0;exact (T.2 j _ v K S).tR (dY f K)) aD;have G:(a.eval m).cells.size=k:=bk F;simp only[execOp,ho,Instr.storeAt,Instr.sureAddr,e1,storeVar,Sem.run_bind,run_sizeOf hk,Result.andThen_ok,Sem.run_pure,G,aaf,not_true_eq_false,YC,a3];rw[show B.off+i*B.k+l+0=B.off+(i*g.k+l) by rw[R];omega]
  .cases X:(a.eval m).cells.toList.isEmpty with
   | false=>simp only[W3,YC];exact ⟨U,s',.aY,aK⟩
   | true =>
    have h0:(a.eval m).cells.toList=[]:=bk X;have a2:gA w B.b (cn c (B.off+(i*g.k+l)) []) E=w:=by
     simp only[cn,gA];have:w.heap.setIfInBounds B.b (Obj.cells c E (0,0))=w.heap:=by
      apply aaH;intro j;rw[Xl];split
      .rename_i S;subst S;rw[M];simp[gJ M]
      .rfl
     rw[this]
    rw[h0,a2] at s' U;simp only[Yj];exact ⟨U,s',.aY,aK⟩
 .simp at hv
def GJ (l:mI I β w b off cs):∃vs:List Value,(∀w',w'.heap=w.heap->(loadCells ⟨b,off,an⟩ (ae cs)).run P w' = .ok vs.toArray w')/\bJ I β cs vs:=by
 let vs:=(aC (ae cs)).map fun j=>(w.cell? ⟨b,off+j,an⟩).getD undef;have x:∀(j:Nat) a,cs[j]?=ak a->∃v,w.cell? ⟨b,off+j,an⟩=ak v/\Rel I β a v/\vs[j]?=ak v:=by intro j a g;have ⟨v,k,y⟩:=l j a g;have c:=(W9.1 g).1;exact ⟨v,k,y,by simp[vs,c,k]⟩
 have h:ae vs=ae cs:=by simp[vs]
 refine ⟨vs,?_,h.symm,fun j a v i f=>?_⟩
 .intro w' m;rw[<-h];refine CV vs (fun j v e=>?_);have c:j < ae cs:=h ▸ (W9.1 e).1;have ⟨n,k,_,z⟩:=x j _ (W7 c);rw[z] at e;cases e;rw[<-k];simp[World.cell?,m]
 .have ⟨n,k,y,z⟩:=x j a i;rw[z] at f;cases f;exact y
def mI.drop (h:mI I β w b off cs):mI I β w b (off+q) (cs.drop q):=by intro j a e;rw[YU] at e;have ⟨v,k,x⟩:=h _ a e;exact ⟨v,by rw[XY];exact k,x⟩
def mI.take (h:mI I β w b off cs):mI I β w b off (cs.take q):=by
 intro j a e;rw[Zi] at e;split at e
 .exact h j a e
 .simp at e
def gp.row {b:Nat} {c:Array Value} {E:TypeId} {x:Nat × Nat} {off:Nat} {F:List AV} (h:gp I β c off F) (y:w.heap[b]?=ak (.cells c E x)) (z:off+ae F<=c.size):mI I β w b off F:=by intro j a e;have f:j < ae F:=(W9.1 e).1;have k:c[off+j]?=ak c[off+j]:=Xp aD;exact ⟨_,BN y k,h j a _ e k⟩
def sV (s:Sim I β H w) {k:Nat} {y:AV} {ys:List (List AV)} {rv:Value} (h:ik k H y=ak ys) (M:Rel I β y rv):∃p cap,rv = .slice p (ae ys) cap/\ae ys<=cap/\(∀x,x∈ys->ae x=k/\x.all bh=aq) /\
  ∃vs:List Value,(∀w',w'.heap=w.heap->(Builtin.firstCells k (ae ys) rv).run P w' = .ok vs.toArray w')/\bJ I β ys.flatten vs:=by
 cases y with
 | nil =>
  simp[ik] at h;subst h;rw[M.jH];exact ⟨an,0,rfl,aK,aK,[],fun _ _=>rfl,.nil _ _⟩
 | seq k' f xs =>
  simp only[ik] at h;split at h<;>simp at h;rename_i r;subst r;subst h;obtain ⟨p,cap,rfl,_,t,h5⟩:=M.ku;by_cases C:xs=[]
  .subst C;refine ⟨p,cap,rfl,aK,aK,[],fun _ _=>?_,.nil _ _⟩;cases p<;>simp[Builtin.firstCells,loadCells,loadCellsFrom]
  .obtain ⟨b,off,vs,rfl,r,hI,hR⟩:=h5 C;have g:mI I β w b off xs.flatten:=by intro m a e;obtain ⟨i,j,J,rfl⟩:=zQ (fun x z=>(r x z).1) e;exact ⟨_,by rw[<-XY];exact s.ef.cell (hI i j a J),(hR i j a J).mono (.refl _) (Jl _)⟩
   have ⟨us,W,S⟩:=GJ (P:=P) g;rw[c9 (fun x z=>(r x z).1)] at W;exact ⟨_,cap,rfl,t,r,us,W,S⟩
 | sl k' id ver i n =>
  simp only[ik] at h;have ⟨K,a0,R⟩:=W5.1 h;split at R<;>simp at R;rename_i hb;subst R;obtain ⟨rfl,r,t⟩:=hb;obtain ⟨B,p,hB,rfl,rfl,a1,hp⟩:=M.kj;obtain ⟨U,rfl⟩:=ct a0;have ⟨B',g1,g2,F⟩:=s.obj id K U;rw[hB] at g1;cases g1;have A:ae ((K.xs.drop i).take n)=n:=cE;by_cases L:B.eS=aq
  .have G:K.xs=[]/\B.cap=0:=by unfold dG at F;rw[W0 L] at F;exact F
   have V:n=0:=by have:=G.1;simp[this] at t;omega
   subst V;refine ⟨p,B.cap - i,aK,aK,aK,[],fun _ _=>?_,bk (bJ.nil I β)⟩;cases p<;>simp[Builtin.firstCells,loadCells,loadCellsFrom]
  .have L:B.eS=ar:=bk L;have ⟨c,E,f1,f2,f3,f4,O,f6⟩:=F.flat g2 L;have X:∀x,x∈(K.xs.drop i).take n->ae x=B.k/\x.all bh=aq:=by intro x z;have:=O x (Yv (YW z));rw[r] at this;exact this
   by_cases G:n=0
   .subst G;refine ⟨p,B.cap - i,aK,aK,aK,[],fun _ _=>?_,bk (bJ.nil I β)⟩;cases p<;>simp[Builtin.firstCells,loadCells,loadCellsFrom]
   .rcases hp with ⟨_,rfl⟩ | ⟨J,_⟩
    .have T:=c9 (fun x z=>(O x z).1);have g:=f6.row f1 (by rw[T,<-g2];have:ae K.xs*B.k<=B.cap*B.k:=XK _ f4;omega);have l:=(g.drop (q:=i*B.k)).take (q:=n*B.k);have D:∀x,x∈K.xs->ae x=B.k:=fun x z=>by rw[(O x z).1,r]
     rw[<-wY D,<-Cv (fun x z=>D x (Yv z))] at l;have ⟨us,W,S⟩:=GJ (P:=P) l;rw[c9 (fun x z=>(X x z).1)] at W;exact ⟨_,_,by rw[A],aD,X,us,W,S⟩
    .exact absurd J G
 | c v =>
  cases v with
  | slice a n cap =>
   cases n with
   | zero =>
    simp[ik] at h;subst h;rw[M.c7.1];refine ⟨_,_,rfl,aK,aK,[],fun _ _=>?_,.nil _ _⟩;cases a<;>simp[Builtin.firstCells,loadCells,loadCellsFrom]
   | succ n=>simp[ik] at h
  | _=>simp[ik] at h
 | _=>simp[ik] at h
def Cz (oK:Nat):∀(r c:Nat),c<=oK->Builtin.growBy oK r c<=oK+(oK+768) / 4
 | 0,c,h=>by unfold Builtin.growBy;omega
 | r+1,c,h=>by
  unfold Builtin.growBy;split
  .omega
  .by_cases k:c+(c+768) / 4<=oK
   .exact Cz oK r _ k
   .cases r with
    | zero=>unfold Builtin.growBy;omega
    | succ r=>unfold Builtin.growBy;rw[W0 aD];omega
def nextslicecap_le (h:cap < oK):Builtin.nextslicecap oK cap<=2*oK+192:=by
 unfold Builtin.nextslicecap;split
 .omega
 .split
  .omega
  .have:=Cz oK 4 cap aD;omega
def DP {c:Call} {x y:Opd} (s:bH dl N I β e H a w) (h:iN c.args.toList [x,y]=aq):∃f g,c.args.map a.eval=#[f,g]/\Rel I β (x.ev e) f/\Rel I β (y.ev e) g:=by
 have z:=fF s.env h;have b:=z.1
 match k:c.args.toList.map a.eval with
 | [p,q] =>
  rw[k] at z;exact ⟨p,q,by apply Zx;simp[k],z.head,z.tail.head⟩
 | []=>simp[k] at b
 | [_]=>simp[k] at b
 | _::_::_::_=>simp[k] at b
def run_append_room (K:jA P c 0=ak E) (z:(jA P c 1).isSome=aq) (X:du P E=ak k)
  (f:c.args.map a.eval=#[.slice p n cap,s]) (g:s = .slice q m D) (r:(Builtin.firstCells k m s).run P w = .ok vs.toArray w) (h:n+m<=cap)
  (j:∀b,p=ak b->(storeCells (b.add (n*k)) vs).run P w = .ok () w') (A:p=an->w'=w) (B:TypeId) :
  (Builtin.append_ c.argTypes B #[.slice p n cap,s]).run P w = .ok (.slice p (n+m) cap) w':=by
 have ⟨t,W,i⟩:=W5.1 K;have ⟨C,y⟩:=YQ.1 z;have ⟨F,l,x⟩:=W5.1 y;subst g;simp only[Builtin.append_,W,l,ZU,ZK,YV,Sem.run_bind,run_underlying (db i),run_underlying (db x),Result.andThen_ok,run_sizeOf X,Sem.run_pure,Builtin.lenOf,W3,YC,X9,Yj];rw[W0 h];simp only[Sem.run_bind,r,Result.andThen_ok];cases p with
 | none=>rw[A rfl];rfl
 | some b=>simp[j b rfl]
def run_append_grow {c:Call} {E k:Nat} {p:Option Addr} {n cap m:Nat} {O:Value} {R vs:List Value} {q:Option Addr} {V:Nat} (hE:jA P c 0=ak E) (s:(jA P c 1).isSome=aq) (B:iY P E k 4096=aq)
  (C:O = .slice q m V) (G:∀w',w'.heap=w.heap->(Builtin.firstCells k n (.slice p n cap)).run P w' = .ok R.toArray w') (J:∀w',w'.heap=w.heap->(Builtin.firstCells k m O).run P w' = .ok vs.toArray w')
  (x:cap < n+m) (S:n+m<=4294967296) (ty:TypeId) :
  ∃nc rest w',(Builtin.append_ c.argTypes ty #[.slice p n cap,O]).run P w = .ok (.slice (ak ⟨w.heap.size,0,an⟩) (n+m) nc) w'/\n+m<=nc/\rest.size=(nc - (n+m))*k /\
   w'.heap=w.heap.push (.cells (R.toArray++vs.toArray++rest) E)/\w'.os=w.os/\w'.tape=w.tape/\w'.output=w.output:=by
 have ⟨hk,a0,⟨nb,W,U,f⟩,zv,M,L⟩:=jB B;have ⟨i,X,z⟩:=Xi.1 W;have ⟨t,ht,D⟩:=W5.1 hE;have ⟨E',r⟩:=YQ.1 s;have ⟨t',F,g⟩:=W5.1 r;let nc:=(Question.appendCap (n+m) cap E).cut (w.tape w.drawn (.appendCap (n+m) cap E));have A:n+m<=nc:=by show n+m<=n+m+_;omega
 refine ⟨nc,Builtin.zeroCells zv.cells (nc - (n+m)),{{w with drawn:=w.drawn+1} with heap:=w.heap.push (.cells (R.toArray++vs.toArray++Builtin.zeroCells zv.cells (nc - (n+m))) E)},?_,A,by simp[Builtin.zeroCells,L],rfl,rfl,rfl,rfl⟩;have j:=G {w with drawn:=w.drawn+1} rfl;have l:=J {w with drawn:=w.drawn+1} rfl;subst C;simp only[Builtin.append_,ht,F,ZU,ZK,YV,Sem.run_bind,run_underlying (db D),run_underlying (db g),Result.andThen_ok,run_sizeOf hk,Sem.run_pure,Builtin.lenOf,W3,YC,X9,Yj];rw[WX aD];have b:¬(((n+m:Nat):Int)>IntKind.i64.max):=by have:IntKind.i64.max=9223372036854775807:=aS;rw[this];omega
 have y:=nextslicecap_le x;have T:Builtin.nextslicecap (n+m) cap*nb<=2 ^ 48:=by have h1:=ZD y f;omega
 simp only[Sem.run_bind,run_typeInfo X,z,Result.andThen_ok];rw[WX (fun h=>b h.1)];simp only[Sem.run_bind,run_typeInfo X,z,Result.andThen_ok];rw[WX aD];have K:(choose (.appendCap (n+m) cap E)).run P w = .ok nc {w with drawn:=w.drawn+1}:=by rw[run_choose];rfl
 simp only[Sem.run_bind,K,Result.andThen_ok,run_typeInfo X,run_askRoom,j,l,sQ M,Sem.run_pure,newRow,run_newObj]
def PJ (h:bB P o.op (.nj x lo hi mx k)=aq) (s:bH dl N I β e H a w) (hv:hv (.nj x lo hi mx k) e H=ak (v,H')):Post I β H w v H' ((execOp a.eval o).run P w):=by
 cases ho:o.op<;>simp only[ho,bB,W3,WZ] at h;rename_i t x' J W L;have ⟨⟨⟨⟨K,h1⟩,h2⟩,h3⟩,R⟩:=h;have ⟨E,hE,K⟩:=eD K;simp at K;have r1:=s.x h1;cases mx with
 | some m=>simp[Fx.hv] at hv
 | none =>
  have D:L=an:=by unfold kN at R;split at R<;>simp_all
  subst D;simp only[Fx.hv] at hv;generalize x.ev e=A at *;cases A with
  | sl k' id ver i n =>
   simp only at hv;have ⟨M,F,f⟩:=W5.1 hv;split at f
   case isFalse=>simp at f
   rename_i hk;have ⟨g,hh,G⟩:=W5.1 f;have ⟨b,hl,q⟩:=W5.1 G;simp at q;obtain ⟨rfl,rfl⟩:=q;subst hk;obtain ⟨B,p,X,rfl,e1,a2,hp⟩:=r1.kj;obtain ⟨C,rfl⟩:=ct F;have ⟨B',O,g2,r⟩:=s.bm.obj id M C;rw[X] at O;cases O;have V:ae M.xs<=B.cap:=by
    unfold dG at r;split at r
    .rw[r.1];simp
    .have ⟨c,E,_,_,_,T,_⟩:=r;exact T
   have a1:=il hl (XE _);have a0:g<=B.cap - i:=by
    rcases ny hh with ⟨_,rfl⟩ | ⟨_,_,_,_,_,_,T,rfl⟩
    .omega
    .omega
   have j:=qE (P:=P) (w:=w) s hE K h2 h3 (p:=p) (len:=n) (cap:=B.cap - i) (m:=max (ae M.xs - i) n) (h:=g) (l:=b) (by
    rcases ny hh with ⟨rfl,rfl⟩ | ⟨y,kk,z,rfl,S,h7,h8,rfl⟩
    .rfl
    .simp only[bM,S,intOf?];rw[W0 ⟨h7,by omega⟩]) aD hl;refine .same (rv := .slice (if B.cap - i=b then p else p.map (·.add (b*B.k))) (g - b) (B.cap - i - b)) s.bm ?_ (by
     have e2:(execOp a.eval o)=(do pure (.value (<-Instr.sliceAt t (a.eval x') (J.map a.eval) (W.map a.eval) an)):Sem Next):=by simp[execOp,ho]
     rw[e2,Sem.run_bind,e1,j];rfl);by_cases U:B.cap - i=b
   .rw[W0 U,show g - b=0 by omega,show B.cap - i - b=0 by omega];exact .rP X aD
   .rw[WX U];rcases hp with ⟨hn,rfl⟩ | ⟨h5,S⟩
    .have:=Rel.sl (I:=I) (i:=i+b) (n:=g - b) X hn aD;rw[XL,kp,show B.off+i*B.k+b*B.k=B.off+(i+b)*B.k by rw[XF];omega,show B.cap - i - b=B.cap - (i+b) by omega];exact this
    .omega
  | _=>simp at hv
def GL {id k:Nat} {ob:bC} {xs:List (List AV)} {B:Blk} (x:H[id]?=ak (ak ob)):∀(i v:Nat),(H.set id (ak ⟨k,ob.ver+1,xs⟩))[i]?=H[i]?->ey β id (ob.ver+1) B i v=β i v:=by
 intro i v h;by_cases y:i=id
 .subst y;rw[aak (W9.1 x).1,x] at h;simp only[aap] at h;have:=ZW bC.ver h;simp at this
 .simp[ey,y]
def Ss (c:Rel I β x g) (h:(∃k f xs,x = .seq k f xs)\/x = .nil\/∃k id ver i n,x = .sl k id ver i n):∃p n cap,g = .slice p n cap/\n<=cap/\(p=an\/∃b,p=ak b):=by
 rcases h with ⟨k,f,xs,rfl⟩ | rfl | ⟨k,id,ver,i,n,rfl⟩
 .have ⟨p,cap,z,_,y,_⟩:=c.ku;exact ⟨p,_,cap,z,y,by cases p<;>simp⟩
 .exact ⟨an,0,0,c.jH,aD,.inl rfl⟩
 .have ⟨B,p,_,_,z,y,_⟩:=c.kj;exact ⟨p,n,_,z,aD,by cases p<;>simp⟩
def DQ {k:Nat} {A:AV} {ys:List (List AV)} {rx:Value} {vs:List Value} {R:Result Next} (s:bH dl N I β e H a w) (r1:Rel I β A rx) (c3:0 < k) (t:∀x,x∈ys->ae x=k/\x.all bh=aq) (r:bJ I β ys.flatten vs)
  (F:∀p n cap w',rx = .slice p n cap->n+ae ys<=cap->(∀b,p=ak b->(storeCells (b.add (n*k)) vs).run P w = .ok () w')->(p=an->w'=w)->R = .ok (.value (.slice p (n+ae ys) cap)) w')
  {E:TypeId} (a6:∀p n cap (D:List Value),rx = .slice p n cap->(∀w',w'.heap=w.heap->(Builtin.firstCells k n (.slice p n cap)).run P w' = .ok D.toArray w')->cap < n+ae ys->n+ae ys<=4294967296 ->
   ∃C rest w',R = .ok (.value (.slice (ak ⟨w.heap.size,0,an⟩) (n+ae ys) C)) w'/\n+ae ys<=C/\rest.size=(C - (n+ae ys))*k/\w'.heap=w.heap.push (.cells (D.toArray++vs.toArray++rest) E)/\w'.os=w.os/\w'.tape=w.tape/\w'.output=w.output)
  (hv:hU k H A ys=ak (v,H')):Post I β H w v H' R:=by
 have T:ae vs=ae ys*k:=by rw[<-r.1,c9 (fun x K=>(t x K).1)]
 have grow:∀(p:Option Addr) (n cap:Nat) (xs:List (List AV)) (D:List Value),rx = .slice p n cap->n=ae xs->(∀x,x∈xs->ae x=k/\x.all bh=aq)->bJ I β xs.flatten D ->
   (∀w',w'.heap=w.heap->(Builtin.firstCells k n (.slice p n cap)).run P w' = .ok D.toArray w')->cap < n+ae ys->n+ae ys<=4294967296 ->
   ∃C rest w',R = .ok (.value (.slice (ak ⟨w.heap.size,0,an⟩) (n+ae ys) C)) w'/\n+ae ys<=C/\w'.heap=w.heap.push (.cells ((D++vs).toArray++rest) E)/\w'.os=w.os/\w'.tape=w.tape/\w'.output=w.output /\
    C*k<=((D++vs).toArray++rest).size/\bJ I β (xs++ys).flatten (D++vs)/\(∀x,x∈xs++ys->ae x=k/\x.all bh=aq):=by
  intro p n cap xs D a8 hn a0 U M O z;have ⟨C,rest,w',g1,g2,g3,g4,g5,g6,g7⟩:=a6 p n cap D a8 M O z;have xu:ae D=n*k:=by rw[<-U.1,c9 (fun x K=>(a0 x K).1),hn]
  refine ⟨C,rest,w',g1,g2,by rw[g4];simp,g5,g6,g7,?_,aab ▸ U.append r,?_⟩
  .simp only[Array.size_append,List.size_toArray,Xn,xu,T,g3];have:C*k=(n+ae ys)*k+(C - (n+ae ys))*k:=by rw[<-XF];congr 1;omega
   rw[this,XF];omega
  .intro x K;rcases Yc.1 K with h | h
   .exact a0 x h
   .exact t x h
 have b9:∀(D:List Value) (rest:Array Value) (j:Nat) v,D[j]?=ak v->(D.toArray++rest)[j]?=ak v:=by intro D rest j v e;have hj:=(W9.1 e).1;rw[YY (by simpa using hj)];simpa using e
 unfold hU at hv;split at hv
 ·
  rename_i a3;have h0:ys=[]:=bk a3;subst h0;have c5:vs=[]:=by apply Xy;simpa using T
  subst c5;have done:∀p n cap,rx = .slice p n cap->n<=cap->R = .ok (.value rx) w:=by intro p n cap a8 J;have:=F p n cap w a8 (bk J) (fun b hb=>by simp[storeCells]) (fun _=>rfl);rw[a8];simpa using this
  cases A with
  | nil =>
   simp at hv;obtain ⟨rfl,rfl⟩:=hv;exact .same s.bm r1 (done an 0 0 r1.jH aD)
  | seq k' f xs =>
   simp at hv;obtain ⟨rfl,rfl⟩:=hv;have ⟨p,cap,e1,_,J,_⟩:=r1.ku;exact .same s.bm r1 (done _ _ _ e1 J)
  | sl k' id ver i n =>
   simp at hv;obtain ⟨rfl,rfl⟩:=hv;have ⟨B,p,_,_,e1,J,_⟩:=r1.kj;exact .same s.bm r1 (done _ _ _ e1 aD)
  | _=>simp at hv
 .rename_i a3;have c6:0 < ae ys:=by
   cases ys with
   | nil=>simp at a3
   | cons _ _=>simp
  cases A with
  | nil =>
   simp only at hv;split at hv<;>simp at hv;rename_i z;obtain ⟨rfl,rfl⟩:=hv;have ⟨C,rest,w',g1,g2,g3,g4,g5,g6,g7,g8,g9⟩:=grow an 0 0 [] [] r1.jH rfl aK (bk (bJ.nil I β)) (fun _ _=>rfl) aD aD;have ⟨d7,s',x',d4,b7⟩:=xE s.bm (k:=k) (cap:=C) g3 g4 g5 g6 g8 (b9 _ _) g9 (bk g2) g7;refine ⟨_,w',_,_,g1,bk x',bk s',?_,qK b7⟩;have:=Rel.sl (I:=I) (i:=0) (n:=0+ae ys) d4 rfl (bk g2);simpa[qj] using this
  | seq k' f xs =>
   cases f with
   | false=>simp at hv
   | true =>
    simp only at hv;split at hv<;>simp at hv;rename_i z;obtain ⟨rfl,z⟩:=z;obtain ⟨rfl,rfl⟩:=hv;have ⟨p,cap,e1,hf,_,_⟩:=r1.ku;have b6:ik k' H (.seq k' aq xs)=ak xs:=by simp[ik]
    have ⟨p',c0,e2,_,a0,D,M,U⟩:=sV (P:=P) s.bm b6 r1;rw[e1] at e2 M;cases e2;have ⟨C,rest,w',g1,g2,g3,g4,g5,g6,g7,g8,g9⟩:=grow p (ae xs) cap xs D e1 rfl a0 U M (by rw[hf rfl];omega) z;have ⟨d7,s',x',d4,b7⟩:=xE s.bm (k:=k') (cap:=C) g3 g4 g5 g6 g8 (b9 _ _) g9 (bk g2) g7;refine ⟨_,w',_,_,g1,x',s',?_,qK b7⟩;have:=Rel.sl (I:=I) (i:=0) (n:=ae xs+ae ys) d4 rfl (bk g2);simpa[qj] using this
  | sl k' id ver i n =>
   simp only at hv;have ⟨g,c4,S⟩:=W5.1 hv;have ⟨B,p,hB,c1,e1,d5,hp⟩:=r1.kj;have ⟨G,y⟩:=ct c4;have ⟨B',f1,f2,f3⟩:=s.bm.obj id g G;rw[y,hB] at f1;cases f1;rw[<-y] at hB;split at S
   .rename_i a9;have ⟨a7,a9⟩:=a9;split at S<;>simp at S;rename_i z;have ⟨z,W⟩:=z;obtain ⟨rfl,rfl⟩:=S;have X:B.k=k:=by rw[c1,a7]
    by_cases O:n+ae ys<=B.cap - i
    ·
     rcases hp with ⟨hn,rfl⟩ | ⟨h5,h6⟩
     case inr=>omega
     have ⟨c',E',t1,t2,t3,t4,t5,t6⟩:=f3.flat f2 hn;have a2:ae (g.xs.drop i)=n:=cE;have a5:∀x,x∈g.xs->ae x=k:=fun x K=>by rw[(t5 x K).1,W]
     have c2:(g.xs.drop i).flatten.length=n*k:=by rw[c9 (fun x K=>a5 x (Yv K)),a2]
     have L:(i+n+ae ys)*k<=B.cap*k:=XK _ aD;rw[XF,XF] at L;rw[X] at t3;have d2:B.off+i*k+n*k+ae vs<=c'.size:=by rw[T];omega
     have J:=pM (s.bm.ver id g (g.ver+1) G aD) ⟨B.b,B.off+i*k,B.cap - i,k,ar⟩;have d1:gp I (ey β id (g.ver+1) ⟨B.b,B.off+i*k,B.cap - i,k,ar⟩) (cn c' (B.off+i*k+n*k) vs) (B.off+i*k) ((g.xs.drop i)++ys).flatten:=by have h1:=t6.drop (q:=i*k);rw[<-wY a5] at h1;have h2:=h1.snoc r (c2 ▸ d2);rw[c2,<-aab] at h2;exact h2.mono (.refl _) J
     have ⟨s',x'⟩:=nL s.bm G hB hn t1 ⟨k,g.ver+1,g.xs.drop i++ys⟩ ⟨B.b,B.off+i*k,B.cap - i,k,ar⟩ _ (.inr ⟨rfl,rfl⟩) rfl rfl rfl (q:=B.off+i*k+n*k) (vs:=vs)
      (by simp only;rw[Nat.sub_mul];omega) cE (by
       intro x K;rcases Yc.1 K with h | h
       .have:=t5 x (Yv h);rw[W] at this;exact this
       .exact t x h) d1;have V:=nV (P:=P) (b:=B.b) (E:=E') vs w c' (B.off+i*k+n*k) 0 t1 (fun v hv=>by have ⟨j,hj⟩:=ZC.1 hv;have b2:=r.1 ▸ (W9.1 hj).1;have a1:=W7 b2;refine (r.2 j _ v a1 hj).tR ?_;have ⟨l,b3,b4⟩:=aaA.1 (XJ a1);exact W6.1 (t l b3).2 _ b4) aD;have b5:vs.isEmpty=ar:=by
      cases vs with
      | nil =>
       have:0 < ae ys*k:=Nat.mul_pos c6 c3;simp at T;omega
      | cons _ _=>rfl
     simp only[b5,W3,YC,aaI] at V;have a4:=F _ _ _ _ e1 O (fun b hb=>by cases hb;rw[kp,X];exact V) (fun h=>by simp at h);refine ⟨_,_,_,_,a4,by rw[<-y];exact x',by rw[<-y];exact s',?_,by rw[<-y];exact GL G⟩;have b8:ey β id (g.ver+1) ⟨B.b,B.off+i*k,B.cap - i,k,ar⟩ id (ver+1)=ak ⟨B.b,B.off+i*k,B.cap - i,k,ar⟩:=by rw[<-y];simp[ey]
     have:=Rel.sl (I:=I) (i:=0) (n:=n+ae ys) b8 rfl cE;simpa[qj,X] using this
    ·
     have b6:ik k H (.sl k' id ver i n)=ak (g.xs.drop i):=by simp only[ik,c4,Xr];rw[W0 ⟨a7,W,aD⟩,Xq cE]
     have ⟨p',c0,e2,_,a0,D,M,U⟩:=sV (P:=P) s.bm b6 r1;have a2:ae (g.xs.drop i)=n:=cE;rw[e1] at e2 M;rw[a2] at e2 M;cases e2;have ⟨C,rest,w',g1,g2,g3,g4,g5,g6,g7,g8,g9⟩:=grow p n (B.cap - i) (g.xs.drop i) D e1 a2.symm a0 U M aD z;have J:=pM (s.bm.ver id g (g.ver+1) G aD) ⟨w.heap.size,0,C,k,ar⟩;have ⟨s',x'⟩:=s.bm.rU (w':=w') G hB ⟨k,g.ver+1,g.xs.drop i++ys⟩ ⟨w.heap.size,0,C,k,ar⟩ _ (.inr ⟨rfl,rfl⟩) rfl (by simp[g3]) (fun b hb _=>g3 ▸ k9 _ _ hb) g4 g5 g6 (fun _ => .inr (WY _))
      (dG.Jq (c:=(D++vs).toArray++rest) (E:=E) rfl rfl (by rw[g3];simp) (fun o=>s.bm.ef.xF (WY _) o) (bk g7) (by simp only[Xn,a2];exact g2) g9 (by intro m av v' h1 h2;simp only[Xb] at h2;have ⟨d6,h3,h4⟩:=g8.get h1;have:=b9 _ rest _ _ h3;rw[this] at h2;cases h2;exact h4.mono (.refl _) J));refine ⟨_,w',_,_,g1,by rw[<-y];exact x',by rw[<-y];exact s',?_,by rw[<-y];exact GL G⟩;have b8:ey β id (g.ver+1) ⟨w.heap.size,0,C,k,ar⟩ id (ver+1)=ak ⟨w.heap.size,0,C,k,ar⟩:=by rw[<-y];simp[ey]
     have:=Rel.sl (I:=I) (i:=0) (n:=n+ae ys) b8 rfl (by simpa using g2);simpa[qj] using this
   .split at S<;>simp at S;rename_i b1;have ⟨a7,b1,W⟩:=b1;obtain ⟨rfl,rfl⟩:=S;have X:B.k=k:=by rw[c1,a7]
    have c7:ae g.xs<=B.cap:=by
     unfold dG at f3;split at f3
     .rw[f3.1];simp
     .have ⟨c,E,_,_,_,h9,_⟩:=f3;exact h9
    rcases hp with ⟨hn,rfl⟩ | ⟨h5,h6⟩
    case inr=>omega
    have ⟨c',E',t1,t2,t3,t4,t5,t6⟩:=f3.flat f2 hn;have a5:∀x,x∈g.xs->ae x=k:=fun x K=>by rw[(t5 x K).1,W]
    have c8:=c9 a5;have d3:=c9 (fun x K=>(t x K).1);have L:(i+n+ae ys)*k<=ae g.xs*k:=XK _ b1;have d0:ae g.xs*k<=B.cap*k:=XK _ c7;rw[XF] at L;rw[X] at t3;have b0:=t6.put (q:=(i+n)*k) r (by rw[d3,c8];exact L) (by rw[T];omega);rw[<-ti a5 (fun x K=>(t x K).1)] at b0;have ⟨s',x'⟩:=nL s.bm G hB hn t1 ⟨k,g.ver,g.xs.take (i+n)++ys++g.xs.drop (i+n+ae ys)⟩ B β (.inl ⟨rfl,rfl,rfl⟩) rfl hn X (q:=B.off+(i+n)*k) (vs:=vs) (X ▸ t3) cE (by
      intro x K;simp only[Yc] at K;have tt:∀x,x∈g.xs->ae x=k/\x.all bh=aq:=fun x K=>by have:=t5 x K;rw[W] at this;exact this
      rcases K with (h | h) | h
      .exact tt x (YW h)
      .exact t x h
      .exact tt x (Yv h)) b0;have V:=nV (P:=P) (b:=B.b) (E:=E') vs w c' (B.off+i*k+n*k) 0 t1 (fun v hv=>by have ⟨j,hj⟩:=ZC.1 hv;have b2:=r.1 ▸ (W9.1 hj).1;have a1:=W7 b2;refine (r.2 j _ v a1 hj).tR ?_;have ⟨l,b3,b4⟩:=aaA.1 (XJ a1);exact W6.1 (t l b3).2 _ b4) (by rw[T];rw[XF] at L;omega);have b5:vs.isEmpty=ar:=by
     cases vs with
     | nil =>
      have:0 < ae ys*k:=Nat.mul_pos c6 c3;simp at T;omega
     | cons _ _=>rfl
    simp only[b5,W3,YC,aaI] at V;rw[show B.off+i*k+n*k=B.off+(i+n)*k by rw[XF];omega] at V;have a4:=F _ _ _ _ e1 aD (fun b hb=>by cases hb;rw[kp,X,show B.off+i*k+n*k=B.off+(i+n)*k by rw[XF];omega];exact V) (fun h=>by simp at h);simp only[XC] at s' x';refine ⟨_,_,_,_,a4,y ▸ x',y ▸ s',?_,fun _ _ _=>rfl⟩;have:=Rel.sl (I:=I) (i:=i) (n:=n+ae ys) hB hn aD;rw[X,y] at this;rw[X];exact this
  | _=>simp at hv
def PE (h:bB P o.op (.app x y k)=aq) (s:bH dl N I β e H a w) (hv:hv (.app x y k) e H=ak (v,H')):Post I β H w v H' ((execOp a.eval o).run P w):=by
 cases J:o.op<;>simp only[J,bB,W3,WZ] at h;rename_i c;have ⟨⟨⟨G,O⟩,j⟩,V⟩:=h;have m:c.callee = .builtin .append:=by unfold gR at G;split at G<;>simp_all
 have ⟨E,F,r⟩:=eD O;have ⟨S,A,_⟩:=jB r;obtain ⟨rx,L,b,r1,r2⟩:=DP s V;simp only[Fx.hv] at hv;have ⟨ys,D,hv⟩:=W5.1 hv;have ⟨q,cy,K,R,W,vs,X,t⟩:=sV (P:=P) s.bm D r2;have fin:∀rv w',(Builtin.append_ c.argTypes o.type #[rx,L]).run P w = .ok rv w'->(execOp a.eval o).run P w = .ok (.value rv) w':=by intro rv w' T;simp[execOp,J,resolve,m,b,invoke,builtin,T]
 refine DQ (P:=P) (E:=E) s r1 A W t (fun p n cap w' i z B U=>?_) (fun p n cap us i C z l=>?_) hv
 .have f:c.args.map a.eval=#[.slice p n cap,L]:=by rw[b,i]
  exact fin _ _ (i ▸ run_append_room F j S f K (X w rfl) z B U o.type)
 .have ⟨nc,rest,w',M,g⟩:=run_append_grow F j r K C X z l o.type;exact ⟨nc,rest,w',fin _ _ (i ▸ M),g⟩
def LD (hE:jA P c 0=ak E) (L:iJ (c.argTypes[1]?) (fun t=>xA P t .i64)=aq) (U:iY P E k 4096=aq) (hz:mH P E z=aq) (R:0<=m) (a5:m<=4294967296) (ty:TypeId) :
  ∃vs:List Value,(∀I β,bJ I β (aA m.toNat z).flatten vs) /\
   (n+m.toNat<=cap->∀w',(∀b,p=ak b->(storeCells (b.add (n*k)) vs).run P w = .ok () w')->(p=an->w'=w)->(Builtin.append_ c.argTypes ty #[.slice p n cap,.int .i64 m]).run P w = .ok (.slice p (n+m.toNat) cap) w') /\
   (∀J:List Value,(∀w',w'.heap=w.heap->(Builtin.firstCells k n (.slice p n cap)).run P w' = .ok J.toArray w')->cap < n+m.toNat->n+m.toNat<=4294967296 ->
    ∃nc rest w',(Builtin.append_ c.argTypes ty #[.slice p n cap,.int .i64 m]).run P w = .ok (.slice (ak ⟨w.heap.size,0,an⟩) (n+m.toNat) nc) w'/\n+m.toNat<=nc/\rest.size=(nc - (n+m.toNat))*k /\
     w'.heap=w.heap.push (.cells (J.toArray++vs.toArray++rest) E)/\w'.os=w.os/\w'.tape=w.tape/\w'.output=w.output):=by
 have ⟨hk,O,⟨nb,S,a4,W⟩,zv,r,g⟩:=jB U;have ⟨i,K,f⟩:=Xi.1 S;have ⟨t,ht,B⟩:=W5.1 hE;have ⟨t',C,l⟩:=eD L;have D:P.underlying t'=ak (.int .i64):=by unfold xA at l;split at l<;>simp_all
 have ⟨a7,a6,G,a1⟩:=rN (P:=P) (w:=w) hz;rw[r] at G;cases G;have y:au .i64 m=m:=pP aD aD;have q:¬(m*(nb:Int)>2 ^ 48):=by have:m*(nb:Int)<=m*4096:=Xs aD R;omega
 have A:∀I β,bJ I β (aA m.toNat z).flatten (Builtin.zeroCells zv.cells m.toNat).toList:=by intro I β;have:=vN (n:=m.toNat) (a1 I β) g O;rw[<-g] at this;exact this
 have j:∀w',(if m.toNat*k=0 then pure #[] else do pure (Builtin.zeroCells (<-zeroValue E).cells m.toNat):Sem (Array Value)).run P w' = .ok (Builtin.zeroCells zv.cells m.toNat) w':=by
  intro w';split
  .rename_i h0;have:Builtin.zeroCells zv.cells m.toNat=#[]:=by simp[Builtin.zeroCells,g,h0]
   rw[this];rfl
  .simp[sQ r]
 refine ⟨(Builtin.zeroCells zv.cells m.toNat).toList,A,fun x w' V hw=>?_,fun J a0 x a2=>?_⟩
 .simp only[Builtin.append_,ht,C,ZU,ZK,YV,Sem.run_bind,run_underlying (db B),run_underlying D,Result.andThen_ok,run_sizeOf hk,Sem.run_pure,Yj,Yy,W3,YC,asInt,asIntOf,y];rw[WX aD];simp only[Sem.run_bind,run_typeInfo K,f,Result.andThen_ok];rw[WX q];simp only[Sem.run_bind,Sem.run_pure,Result.andThen_ok];rw[W0 x];simp only[Sem.run_bind,j,Result.andThen_ok];cases p with
  | none=>rw[hw rfl];rfl
  | some b=>simp[V b rfl]
 .let nc:=(Question.appendCap (n+m.toNat) cap E).cut (w.tape w.drawn (.appendCap (n+m.toNat) cap E));have T:n+m.toNat<=nc:=by show n+m.toNat<=n+m.toNat+_;omega
  refine ⟨nc,Builtin.zeroCells zv.cells (nc - (n+m.toNat)),{{w with drawn:=w.drawn+1} with heap:=w.heap.push (.cells (J.toArray++(Builtin.zeroCells zv.cells m.toNat).toList.toArray++Builtin.zeroCells zv.cells (nc - (n+m.toNat))) E)},?_,T,by simp[Builtin.zeroCells,g],rfl,rfl,rfl,rfl⟩;have F:=a0 {w with drawn:=w.drawn+1} rfl;simp only[Builtin.append_,ht,C,ZU,ZK,YV,Sem.run_bind,run_underlying (db B),run_underlying D,Result.andThen_ok,run_sizeOf hk,Sem.run_pure,Yj,Yy,W3,YC,asInt,asIntOf,y];rw[WX aD];simp only[Sem.run_bind,run_typeInfo K,f,Result.andThen_ok];rw[WX q];simp only[Sem.run_bind,Sem.run_pure,Result.andThen_ok];rw[WX aD];have X:¬(((n+m.toNat:Nat):Int)>IntKind.i64.max):=by have:IntKind.i64.max=9223372036854775807:=aS;rw[this];omega
  have s:=nextslicecap_le x;have a3:Builtin.nextslicecap (n+m.toNat) cap*nb<=2 ^ 48:=by have h1:=ZD s W;omega
  simp only[Sem.run_bind,run_typeInfo K,f,Result.andThen_ok];rw[WX (fun h=>X h.1)];simp only[Sem.run_bind,run_typeInfo K,f,Result.andThen_ok];rw[WX aD];have M:(choose (.appendCap (n+m.toNat) cap E)).run P w = .ok nc {w with drawn:=w.drawn+1}:=by rw[run_choose];rfl
  simp only[Sem.run_bind,M,Result.andThen_ok,run_typeInfo K,run_askRoom,F,j,sQ r,Sem.run_pure,newRow,run_newObj]
def Ox (h:bB P o.op (.mM x y k z)=aq) (s:bH dl N I β e H a w) (hv:hv (.mM x y k z) e H=ak (v,H')):Post I β H w v H' ((execOp a.eval o).run P w):=by
 cases ho:o.op<;>simp only[ho,bB,W3,WZ] at h;rename_i c;have ⟨⟨⟨hc,h0⟩,L⟩,U⟩:=h;have W:c.callee = .builtin .append:=by unfold gR at hc;split at hc<;>simp_all
 have ⟨E,hE,j⟩:=eD h0;simp only[WZ] at j;have ⟨j,hz⟩:=j;have ⟨hk,M,_⟩:=jB j;obtain ⟨rx,ry,t,F,r2⟩:=DP s U;simp only[Fx.hv] at hv;generalize y.ev e=B at *;split at hv
 .rename_i m;split at hv
  case isFalse=>simp at hv
  rename_i hb;have ⟨O,R,a0,V⟩:=hb;have J:=r2.c7.1;subst J;have fin:∀rv w',(Builtin.append_ c.argTypes o.type #[rx,.int .i64 m]).run P w = .ok rv w'->(execOp a.eval o).run P w = .ok (.value rv) w':=by intro rv w' hr;simp[execOp,ho,resolve,W,t,invoke,builtin,hr]
  obtain ⟨p0,n0,X,D⟩:∃p n cap,rx = .slice p n cap:=by
   generalize x.ev e=A at *;cases A with
   | nil=>exact ⟨_,_,_,F.jH⟩
   | seq k' f xs=>obtain ⟨p,cap,G,_⟩:=F.ku;exact ⟨_,_,_,G⟩
   | sl k' id ver i n=>obtain ⟨B,p,_,_,G,_⟩:=F.kj;exact ⟨_,_,_,G⟩
   | _=>unfold hU at hv;split at hv<;>simp at hv
  subst D;have ⟨vs,C,q,l⟩:=LD (P:=P) (w:=w) (p:=p0) (n:=n0) (cap:=X) hE L j hz O R o.type;refine DQ (P:=P) (E:=E) (vs:=vs) s F M (fun x U=>X7 U ▸ ⟨a0,V⟩) (C I β) (fun p n cap w' K b S hw=>?_) (fun p n cap us K T b r=>?_) hv
  .cases K;simp only[Ym] at b ⊢;exact fin _ _ (q b w' S hw)
  .cases K;simp only[Ym] at b r ⊢;have ⟨nc,rest,w',g1,g⟩:=l us T b r;exact ⟨nc,rest,w',fin _ _ g1,g⟩
 .simp at hv
def PG (h:bB P o.op (.q9 x z)=aq) (s:bH dl N I β e H a w) (hv:hv (.q9 x z) e H=ak (v,H')):Post I β H w v H' ((execOp a.eval o).run P w):=by
 cases ho:o.op<;>simp only[ho,bB,W3,WZ] at h;rename_i c;have ⟨⟨hc,M⟩,D⟩:=h;have S:c.callee = .builtin .clear:=by unfold gR at hc;split at hc<;>simp_all
 have ⟨E,hE,hz⟩:=eD M;have ⟨t,ht,a1⟩:=W5.1 hE;have rs:=fF s.env D;simp only[XD,Yi] at rs;have f:∃rv,c.args.map a.eval=#[rv]/\Rel I β (x.ev e) rv:=by
  have hl:=rs.1
  match hm:c.args.toList.map a.eval with
  | [rv]=>exact ⟨rv,by apply Zx;simp[hm],by rw[hm] at rs;exact rs.head⟩
  | []=>simp[hm] at hl
  | _::_::_=>simp[hm] at hl
 have ⟨rv,f,r1⟩:=f;have ⟨zv,b6,_,a5⟩:=rN (w:=w) hz;have fin:∀w',(Builtin.clear_ c.argTypes o.type #[rv]).run P w = .ok (.tuple #[]) w'->(execOp a.eval o).run P w = .ok (.value (.tuple #[])) w':=by intro w' hr;simp[execOp,ho,resolve,S,f,invoke,builtin,hr]
 have nothing:∀p cap,rv = .slice p 0 cap->(Builtin.clear_ c.argTypes o.type #[rv]).run P w = .ok (.tuple #[]) w:=by intro p cap b5;cases p<;>simp[Builtin.clear_,ht,run_underlying (db a1),b5]
 simp only[Fx.hv] at hv;generalize x.ev e=A at *;cases A with
 | nil =>
  simp at hv;obtain ⟨rfl,rfl⟩:=hv;exact .same s.bm .aY (fin _ (nothing an 0 r1.jH))
 | sl k' id ver i n =>
  simp only at hv;have ⟨ob,b4,J⟩:=W5.1 hv;split at J<;>simp at J;rename_i hb;have ⟨b2,L,a6⟩:=hb;obtain ⟨rfl,rfl⟩:=J;have ⟨B,p,hB,b8,e1,b7,hp⟩:=r1.kj;have ⟨W,y⟩:=ct b4;have ⟨B',f1,O,f3⟩:=s.bm.obj id ob W;rw[y,hB] at f1;cases f1;rw[<-y] at hB;by_cases V:n=0
  .subst V;refine ⟨.value (.tuple #[]),w,I,β,fin _ (nothing _ _ e1),?_,?_,.aY,fun _ _ _=>rfl⟩
   all_goals (
    have:H.set id (ak ⟨ob.k,ver,ob.xs.take i++(aA 0 z++ob.xs.drop (i+0))⟩)=H:=by
     have a0:(⟨ob.k,ver,ob.xs.take i++(aA 0 z++ob.xs.drop (i+0))⟩:bC)=ob:=by rw[<-y];simp
     rw[a0];apply ZF;intro j;rw[yu];split
     .rename_i F;subst F;rw[W0 (W9.1 W).1,W]
     .rfl)
   .rw[this];exact .refl _ _ _ _
   .rw[this];exact s.bm
  .rcases hp with ⟨hn,rfl⟩ | ⟨h5,h6⟩
   case inr=>exact absurd h5 V
   have ⟨c',E',t1,t2,t3,t4,t5,t6⟩:=f3.flat O hn;have a7:=fun x D=>(t5 x D).1;have r:∀x,x∈aA n z->ae x=ob.k:=fun x D=>X7 D ▸ L;have a8:=c9 a7;have X:zv.cells.size=ob.k:=by have:=(a5 I β).1;simp at this;omega
   let vs:=(Builtin.zeroCells zv.cells n).toList;have g:bJ I β (aA n z).flatten vs:=by
    by_cases b0:0 < ob.k
    .have:=vN (n:=n) (a5 I β) X b0;rw[<-X] at this;exact this
    .have M:ob.k=0:=aD;refine ⟨by simp[vs,Builtin.zeroCells,X,M,L],fun j a v e1 _=>?_⟩;have:(aA n z).flatten.length=0:=by rw[c9 r,M];simp
     have F:=(W9.1 e1).1;omega
   have a4:ae vs=n*ob.k:=by rw[<-g.1,c9 r];simp
   have U:(i+n)*ob.k<=ae ob.xs*ob.k:=XK _ b2;have b3:ae ob.xs*ob.k<=B.cap*ob.k:=XK _ t4;rw[XF] at U;rw[O] at t3;have K:=t6.put (q:=i*ob.k) g (by rw[c9 r,a8];simp;omega) (by rw[a4];omega);rw[<-ti a7 r] at K;simp only[Ym] at K;have ⟨s',x'⟩:=nL s.bm W hB hn t1 ⟨ob.k,ob.ver,ob.xs.take i++aA n z++ob.xs.drop (i+n)⟩ B β (.inl ⟨rfl,rfl,rfl⟩) rfl hn O (q:=B.off+i*ob.k) (vs:=vs) (O ▸ t3) cE (by
     intro x D;simp only[Yc] at D;rcases D with (h | h) | h
     .exact t5 x (YW h)
     .rw[X7 h];exact ⟨L,a6⟩
     .exact t5 x (Yv h)) K;have a2:=nV (P:=P) (b:=B.b) (E:=E') vs w c' (B.off+i*ob.k) 0 t1 (fun v hv=>by have ⟨j,F⟩:=ZC.1 hv;have a9:j < (aA n z).flatten.length:=g.1 ▸ (W9.1 F).1;have R:=W7 a9;refine (g.2 j _ v R F).tR ?_;have ⟨l,b1,T⟩:=aaA.1 (XJ R);rw[X7 b1] at T;exact W6.1 a6 _ T) (by rw[a4];omega);have G:gA w B.b c' E'=w:=by
    simp only[gA];have:w.heap.setIfInBounds B.b (Obj.cells c' E' (0,0))=w.heap:=by
     apply aaH;intro j;rw[Xl];split
     .rename_i F;subst F;rw[t1];simp[gJ t1]
     .rfl
    rw[this]
   have a3:(storeCells ⟨B.b,B.off+i*B.k,an⟩ vs).run P w = .ok () (gA w B.b (cn c' (B.off+i*ob.k) vs) E'):=by
    rw[O];cases C:vs.isEmpty with
    | false=>simp only[C,W3,YC,aaI] at a2;exact a2
    | true =>
     have M:vs=[]:=bk C;rw[M];simp only[cn,G];rfl
   simp only[XC] at s' x';refine ⟨.value (.tuple #[]),_,I,β,fin _ ?_,y ▸ x',y ▸ s',.aY,fun _ _ _=>rfl⟩;rw[e1];obtain ⟨m,rfl⟩:∃m,n=m+1:=⟨n - 1,aD⟩;simp only[Builtin.clear_,ht,ZU,ZK,Sem.run_bind,run_underlying (db a1),Result.andThen_ok,b6];have:=a3;simp only[vs] at this;rw[this];rfl
 | _=>simp at hv
def PH (h:bB P o.op (.tJ x y k)=aq) (s:bH dl N I β e H a w) (hv:hv (.tJ x y k) e H=ak (v,H')):Post I β H w v H' ((execOp a.eval o).run P w):=by
 cases ho:o.op<;>simp only[ho,bB,W3,WZ] at h;rename_i c;have ⟨⟨hc,h0⟩,X⟩:=h;have a1:c.callee = .builtin .copy:=by unfold gR at hc;split at hc<;>simp_all
 have ⟨E,hE,hz⟩:=eD h0;have ⟨t,ht,b6⟩:=W5.1 hE;simp only[iY,WZ,X2,Xm] at hz;have ⟨⟨⟨b7,c4⟩,_⟩,_⟩:=hz;have rs:=fF s.env X;simp only[XD,Yi] at rs;have g:∃rv rw,c.args.map a.eval=#[rv,rw]/\Rel I β (x.ev e) rv/\Rel I β (y.ev e) rw:=by
  have hl:=rs.1
  match V:c.args.toList.map a.eval with
  | [rv,rw]=>exact ⟨rv,rw,by apply Zx;simp[V],by rw[V] at rs;exact rs.head,by rw[V] at rs;exact rs.tail.head⟩
  | []=>simp[V] at hl
  | [_]=>simp[V] at hl
  | _::_::_::_=>simp[V] at hl
 have ⟨rv,a5,g,r1,r2⟩:=g;have fin:∀n w',(Builtin.copy_ c.argTypes o.type #[rv,a5]).run P w = .ok (goInt n) w'->(execOp a.eval o).run P w = .ok (.value (goInt n)) w':=by intro n w' hr;simp[execOp,ho,resolve,a1,g,invoke,builtin,hr]
 simp only[Fx.hv] at hv;generalize x.ev e=A at *;generalize y.ev e=Y at *;split at hv
 case h_2=>simp at hv
 rename_i k' id ver i n k2 f r;have ⟨ob,b5,S⟩:=W5.1 hv;split at S<;>simp at S;rename_i hb;obtain ⟨rfl,rfl,J,b2,c0⟩:=hb;obtain ⟨rfl,rfl⟩:=S;have ⟨B,p,hB,c3,e1,c1,hp⟩:=r1.kj;have ⟨C,z⟩:=ct b5;have ⟨B',f1,f2,f3⟩:=s.bm.obj id ob C;rw[z,hB] at f1;cases f1;rw[<-z] at hB;have ⟨q,cap,e2,_,F,vs,a7,m⟩:=sV (P:=P) (k:=k2) s.bm (show ik k2 H (.seq k2 f r)=ak r by simp[ik]) r2;have W:=a7 w rfl;have T:=c9 fun x X=>(F x X).1;have D:ae vs=ae r*k2:=by rw[<-m.1,T]
 have a2:=XV c0;have run:∀w',(match p with | some a=>(storeCells a vs).run P w | none => .ok () w) = .ok () w'->(Builtin.copy_ c.argTypes o.type #[rv,a5]).run P w = .ok (goInt (ae r)) w':=by intro w' K;rw[e1,e2] at *;cases p<;>simp[Builtin.copy_,ht,run_underlying (db b6),Builtin.lenOf,a2,run_sizeOf b7,W] at K ⊢<;>simp[K]
 by_cases b4:n=0
 .have b9:r=[]:=Xy aD;subst b9;have b8:=Xy (bk D);subst b8;refine ⟨.value (goInt 0),w,I,β,fin _ _ (run w (by cases p<;>rfl)),?_,?_,.aY,fun _ _ _=>rfl⟩
  all_goals (
   have:H.set id (ak ⟨ob.k,ver,ob.xs.take i++([]++ob.xs.drop (i+ae ([]:List (List AV))))⟩)=H:=by
    have a3:(⟨ob.k,ver,ob.xs.take i++([]++ob.xs.drop (i+ae ([]:List (List AV))))⟩:bC)=ob:=by rw[<-z];simp
    rw[a3];apply ZF;intro j;rw[yu];split
    .rename_i U;subst U;rw[W0 (W9.1 C).1,C]
    .rfl)
  .rw[this];exact .refl _ _ _ _
  .rw[this];exact s.bm
 .rcases hp with ⟨hn,rfl⟩ | ⟨h5,h6⟩
  case inr=>exact absurd h5 b4
  have ⟨c',E',t1,t2,t3,t4,t5,t6⟩:=f3.flat f2 hn;have a6:=fun x X=>(t5 x X).1;have M:∀x,x∈r->ae x=ob.k:=fun x X=>by rw[(F x X).1,J]
  have a8:=c9 a6;have c2:(i+n)*ob.k<=ae ob.xs*ob.k:=XK _ b2;have O:(i+ae r)*ob.k<=(i+n)*ob.k:=XK _ aD;have b3:ae ob.xs*ob.k<=B.cap*ob.k:=XK _ t4;rw[XF i (ae r)] at O;rw[f2] at t3;rw[<-J] at T D;have L:=t6.put (q:=i*ob.k) m (by rw[T,a8];omega) (by rw[D];omega);rw[<-ti a6 M] at L;have ⟨s',x'⟩:=nL s.bm C hB hn t1 ⟨ob.k,ob.ver,ob.xs.take i++r++ob.xs.drop (i+ae r)⟩ B β (.inl ⟨rfl,rfl,rfl⟩) rfl hn f2 (q:=B.off+i*ob.k) (vs:=vs) (f2 ▸ t3) cE (by
    intro x X;simp only[Yc] at X;rcases X with (h | h) | h
    .exact t5 x (YW h)
    .exact ⟨M x h,(F x h).2⟩
    .exact t5 x (Yv h)) L;have K:=nV (P:=P) (b:=B.b) (E:=E') vs w c' (B.off+i*ob.k) 0 t1 (fun v hv=>by have ⟨j,U⟩:=ZC.1 hv;have a9:j < ae r.flatten:=m.1 ▸ (W9.1 U).1;have a0:=W7 a9;refine (m.2 j _ v a0 U).tR ?_;have ⟨l,b0,b1⟩:=aaA.1 (XJ a0);exact W6.1 (F l b0).2 _ b1) (by rw[D];omega);have R:gA w B.b c' E'=w:=by
   simp only[gA];have:w.heap.setIfInBounds B.b (Obj.cells c' E' (0,0))=w.heap:=by
    apply aaH;intro j;rw[Xl];split
    .rename_i U;subst U;rw[t1];simp[gJ t1]
    .rfl
   rw[this]
  have a4:(storeCells ⟨B.b,B.off+i*B.k,an⟩ vs).run P w = .ok () (gA w B.b (cn c' (B.off+i*ob.k) vs) E'):=by
   rw[f2];cases G:vs.isEmpty with
   | false=>simp only[G,W3,YC,aaI] at K;exact K
   | true =>
    have h0:vs=[]:=bk G;rw[h0];simp only[cn,R];rfl
  simp only[XC] at s' x';exact ⟨.value (goInt (ae r)),_,I,β,fin _ _ (run _ a4),z ▸ x',z ▸ s',.aY,fun _ _ _=>rfl⟩
def K8 (h:bB P o.op f=aq) (s:bH dl N I β e H a w) (b:hv f e H=ak (v,H')):Post I β H w v H' ((execOp a.eval o).run P w):=by
 cases f with
 | new k z=>exact PI h s b
 | nz x=>exact Oy h s b
 | qe k p=>exact PF h s b
 | ld x g k=>exact Oz h s b
 | st x y k=>exact RG h s b
 | mk k z l c=>exact RF h s b
 | nj x j i m k=>exact PJ h s b
 | app x y k=>exact PE h s b
 | q9 x z=>exact PG h s b
 | mM x n k z=>exact Ox h s b
 | tJ x y k=>exact PH h s b
 | _=>simp[Fx.hv] at b
def F5 (h:bB P o.op x=aq) (s:bH dl N I β e H a w) (k:eO x e H=ak (v,H')):Post I β H w v H' ((execOp a.eval o).run P w):=by
 unfold eO at k;split at k
 .rename_i u y;simp at k;obtain ⟨rfl,rfl⟩:=k;exact Ly h s y
 .exact K8 h s k
end
section
def mL (P:Program) (f:FuncId):Prop:=∃fn,P.funcs[f]?=ak fn/\(fn.name== "runtime.NumGoroutine")=ar/\fn.body.isNone=ar
def bK (P:Program) (f:FuncId) (args:List AV) (H:aE) (r:AV) (H':aE):Prop :=
 mL P f/\∀I β w vs,Sim I β H w->bJ I β args vs->Calls P f vs.toArray w fun e w'=>∃rv I' β',e = .returned rv/\Ext I β H w I' β' H' w'/\Sim I' β' H' w'/\Rel I' β' r rv
structure bA where
 dst:Option Nat
 op:AOp
 g:Option (Nat × Bool)
abbrev d (n:Nat) (o:AOp):bA:=⟨ak n,o,an⟩
abbrev dg (n:Nat) (o:AOp) (s:Nat) (b:Bool):bA:=⟨ak n,o,ak (s,b)⟩
abbrev u (o:AOp):bA:=⟨an,o,an⟩
structure Obl where
 f:FuncId
 args:List AV
 H:aE
 r:AV
 H':aE
def Obl.ok (P:Program) (o:Obl):Prop:=bK P o.f o.args o.H o.r o.H'
def dU (o:AOp) (e:Env):Option (FuncId × List AV) :=
 match o with
 | .call f args=>ak (f,args.map (·.ev e))
 | .iW f args=>ak (f,args.map (·.ev e))
 | .jz x args=>match x.ev e with
  | .fn f first caps=>ak (f,first++args.map (·.ev e)++caps)
  | _=>an
 | _=>an
def dF (d:Option Nat) (v:AV) (e:Env):Env :=
 match d with
 | some d=>(d,v)::e
 | none=>e
def dD (g:Option (Nat × Bool)) (e:Env):Option Bool :=
 match g with
 | none=>ak aq
 | some (t,want)=>match lk t e with
  | .c (.bool b)=>ak (b==want)
  | .bI []=>ak ar
  | _=>an
def LC:List bA->Env->aE->List (AV × Option aE)->Option (Env × aE × List Obl)
 | [],e,H,os=>match os with
  | []=>ak (e,H,[])
  | _=>an
 | o::r,e,H,os =>
  match dD o.g e with
  | some ar=>LC r (dF o.dst (.bI []) e) H os
  | some aq=>match dU o.op e with
   | some (f,args)=>match os with
    | (v,h)::os'=>(LC r (dF o.dst v e) (h.getD H) os').map fun x=>(x.1,x.2.1,⟨f,args,H,v,h.getD H⟩::x.2.2)
    | []=>an
   | none=>match eO o.op e H with
    | some (v,H')=>LC r (dF o.dst v e) H' os
    | none=>an
  | none=>an
def ns (P:Program) (o:AOp) (e:Env) (H:aE) (v:AV) (H':aE):Prop :=
 match dU o e with
 | some (f,args)=>bK P f args H v H'
 | none=>eO o e H=ak (v,H')
def Fb (ops:Array Oper) (j:Nat):Option Nat:=(ops[j]?).bind (·.dst)
def gj (P:Program) (N:Nat) (ops:Array Oper) (o:Oper) (ao:bA):Bool :=
 decide (o.dst=ao.dst)&&(match ao.dst with | some d=>decide (d < N) | none=>aq)&&bB P o.op ao.op &&
 (match o.guard,ao.g with
  | none,an=>aq
  | some (j,b),ak (t,b')=>b==b'&&decide (Fb ops j=ak t)
  | _,_=>ar)
def ea (P:Program) (N:Nat) (ops:Array Oper):List Oper->List bA->Bool
 | [],[]=>aq
 | o::r,a::s=>gj P N ops o a&&ea P N ops r s
 | _,_=>ar
variable {P:Program} {dl:List Deferred} {fo:Option Nat} {N:Nat} {I:Imm} {β:Bet} {e:Env} {H H':aE} {a:Act} {w:World} {o:Oper} {v:AV}
def FR (fo:Option Nat):Fence:={Fence.wide with round:=fo}
def K4 (h:Calls P f args w R):CallsIn (FR fo) n P f args w R:=(callsIn_wide (n:=n)).2 h
def yY (h:bB P o.op k=aq) (x:k ≠ .bad) (c:Call):o.op ≠ .defer c:=by intro y;rw[y] at h;cases k<;>first | exact x rfl | simp[bB] at h
def mz (t:Nat) (d:Option Nat) (v:AV) (e:Env):lk t (dF d v e)=if d=ak t then v else lk t e:=by
 cases d with
 | none=>simp[dF]
 | some d=>simp only[dF,lk];by_cases h:d=t<;>simp[h]
def bH.put (s:bH dl N I β e H a w) {k:Imm} {y:Bet} {w':World} (x:Ext I β H w k y H' w') (s':Sim k y H' w') {d:Option Nat} {rv:Value} (b:∀t,d=ak t->t < N) (c:Rel k y v rv):bH dl N k y (dF d v e) H' (a.put d rv) w':=by
 refine ⟨s',?_,fun t=>?_,?_⟩
 .cases d<;>simp[Act.put,s.size]
 .rw[mz];cases d with
  | none=>simp only[Act.put];rw[WX aK];exact (s.env t).mono x.ef x.n6
  | some d =>
   have:=b d rfl;simp only[Act.put];by_cases h:d=t
   .subst h;rw[W0 rfl];simp only[W8,ZJ (by rw[s.size];exact this),XT];exact c
   .rw[WX (by simp[h])];have z:(a.tmps.setIfInBounds d rv).getD t undef=a.tmps.getD t undef:=by simp only[W8,Xl,WX h]
    rw[z];exact (s.env t).mono x.ef x.n6
 .cases d<;>simp[Act.put,s.mu]
def im (h:gj P N ops o k=aq):o.dst=k.dst/\(∀t,o.dst=ak t->t < N)/\bB P o.op k.op=aq:=by simp only[gj,WZ,Xm] at h;refine ⟨h.1.1.1,fun t y=>?_,h.1.2⟩;have x:=h.1.1.2;rw[<-h.1.1.1,y] at x;simpa using x
def yK:Rel I β (.bI []) undef := .bI (vs:=[]) rfl (fun j a v e=>by simp at e)
def eB (h:gj P N ops o K=aq) (s:bH dl N I β e H a w) (y:dD K.g e=ak b):Region.wanted o (yielded ops a.tmps)=b:=by
 simp only[gj,WZ] at h;have i:=h.2;unfold Region.wanted;split at i
 .rename_i m n;rw[m];rw[n] at y;simp[dD] at y;simp[y]
 .rename_i j f t q m n;rw[m];rw[n] at y;simp at i;obtain ⟨rfl,k⟩:=i;simp only[dD] at y;split at y
  case h_3=>simp at y
  case h_2 z =>
   simp at y;have c:=s.env t;rw[z] at c;have ⟨W,x,hv⟩:=c.uf;have p:=Xy hv.1.symm;subst p;simp only[yielded];unfold Fb at k;rw[k];simp only[Xr];rw[y];rw[W8] at x;cases l:a.tmps[t]? with
   | none=>rfl
   | some u=>rw[l] at x;simp at x;rw[x];rfl
  simp at y;rename_i r z;have c:=s.env t;rw[z] at c;have x:=c.c7.1;have X:a.tmps[t]?=ak (.bool r):=by
   rw[W8] at x;cases l:a.tmps[t]? with
   | none=>rw[l] at x;simp[undef] at x
   | some u=>rw[l] at x;simp at x;rw[x]
  simp only[yielded];unfold Fb at k;rw[k];simp only[Xr,X];rw[<-y];cases r<;>cases f<;>rfl
 .simp at i
def nF (h:mL P f) (args:Array Value):(callFunc f args).run P w = .ok (.enter f args) w:=by have ⟨z,k,x,y⟩:=h;unfold callFunc;simp only[Sem.run_bind,run_program,Result.andThen_ok,k];rw[WX (by simpa using x),WX (by simp[y])];rfl
def Rel.tM {f:FuncId} {x y:List AV} {u:Value} (h:Rel I β (.fn f x y) u):∃vf vc:List Value,u = .func (.func f) vf.toArray vc.toArray/\bJ I β x vf/\bJ I β y vc:=by cases h;exact ⟨_,_,rfl,⟨‹_›,‹_›⟩,⟨‹_›,‹_›⟩⟩
def iV {ops:Array Oper} {X:bA} (h:gj P N ops o X=aq) (s:bH dl N I β e H a w) {f:FuncId} {args:List AV} (k:dU X.op e=ak (f,args)) (n:mL P f) {R:Ending->World->Prop}
  (l:∀vs,bJ I β args vs->Calls P f vs.toArray w R) {Q:Exit->Act->World->Prop} {next:Act->World->Prop} (hR:∀K w',R K w'->∃rv,K = .returned rv/\next (a.put o.dst rv) w'):o.wpIn (FR fo) 0 P a w next Q:=by
 have ⟨T,E,i⟩:=im h;unfold Oper.wpIn;refine ⟨fun _ _=>trivial,?_⟩;rw[Oper.semAt_eq _ _ _ (yY i (fun D=>by rw[D] at k;simp[dU] at k))];have key:∀vs:List Value,bJ I β args vs->(execOp a.eval o).run P w = .ok (.enter f vs.toArray) w->o.uponIn (FR fo) 0 P a next Q ((execOp a.eval o).run P w):=by intro vs G q;rw[q,Oper.uponIn_enter];refine ⟨fun h=>by simp[FR,Fence.wide] at h,K4 ((l vs G).mono ?_)⟩;intro K w' F;obtain ⟨rv,rfl,W⟩:=hR K w' F;exact W
 cases j:X.op with
 | call g B =>
  rw[j] at k i;simp[dU] at k;obtain ⟨rfl,rfl⟩:=k;cases m:o.op<;>simp only[m,bB,W3,WZ] at i;rename_i c;have ⟨z,b⟩:=i;have z:c.callee = .value (.func g):=by unfold ym at z;split at z<;>simp_all
  have t:=fF s.env b;refine key _ t ?_;have p:c.args.map a.eval=(c.args.toList.map a.eval).toArray:=by apply Zx;simp
  simp only[execOp,m,resolve,z,Sem.run_bind];have:a.eval (.func g) = .func (.func g) #[] #[]:=rfl;simp only[this,Deferred.ofValue,Sem.run_pure,Result.andThen_ok,invoke,p];have:=nF (w:=w) n (c.args.toList.map a.eval).toArray;simpa using this
 | iW g B =>
  rw[j] at k i;simp[dU] at k;obtain ⟨rfl,rfl⟩:=k;cases m:o.op<;>simp only[m,bB,W3,WZ] at i;rename_i c;have ⟨z,b⟩:=i;have z:c.callee = .value (.func g):=by unfold ym at z;split at z<;>simp_all
  have t:=fF s.env b;refine key _ t ?_;have p:c.args.map a.eval=(c.args.toList.map a.eval).toArray:=by apply Zx;simp
  simp only[execOp,m,resolve,z,Sem.run_bind];have:a.eval (.func g) = .func (.func g) #[] #[]:=rfl;simp only[this,Deferred.ofValue,Sem.run_pure,Result.andThen_ok,invoke,p];have:=nF (w:=w) n (c.args.toList.map a.eval).toArray;simpa using this
 | jz x B =>
  rw[j] at k i;simp only[dU] at k;split at k<;>simp at k;rename_i g first A W
  obtain ⟨rfl,rfl⟩:=k;cases m:o.op<;>simp only[m,bB,W3,WZ] at i;rename_i c;have ⟨z,b⟩:=i;have z:∃y,c.callee = .value y/\cT y x=aq:=by unfold BM at z;split at z<;>simp_all
  have ⟨y,z,J⟩:=z;have r1:=s.x J;rw[W] at r1;have ⟨S,O,C,M,L⟩:=r1.tM;have t:=fF s.env b;have r:=(M.append t).append L;refine key _ (bk r) ?_;have p:c.args.map a.eval=(c.args.toList.map a.eval).toArray:=by apply Zx;simp
  simp only[execOp,m,resolve,z,Sem.run_bind];simp only[C,Deferred.ofValue,Sem.run_pure,Result.andThen_ok,invoke,p];have:=nF (w:=w) n ((S.toArray++(c.args.toList.map a.eval).toArray)++O.toArray);rw[this];simp
 | _=>rw[j] at k;simp[dU] at k
def jJ {ops:Array Oper} {f:bA} (h:gj P N ops o f=aq) (s:bH dl N I β e H a w) (c:eO f.op e H=ak (v,H')) {Q:Exit->Act->World->Prop} {next:Act->World->Prop}
  (i:∀rv y x w',Ext I β H w y x H' w'->Sim y x H' w'->Rel y x v rv->(∀id ver,H'[id]?=H[id]?->x id ver=β id ver)->next (a.put o.dst rv) w'):o.wpIn (FR fo) 0 P a w next Q:=by
 have ⟨q,n,z⟩:=im h;unfold Oper.wpIn;refine ⟨fun _ _=>trivial,?_⟩;rw[Oper.semAt_eq _ _ _ (yY z (fun m=>by rw[m] at c;simp[eO,pv,hv] at c))];have ⟨p,w',y,x,b,l,j,k,g⟩:=F5 z s c;rw[b];cases p with
 | value rv=>exact i rv y x w' l j k g
 | skip=>exact i undef y x w' l j k g
 | _=>exact k.elim
def EH {ops:Array Oper} {j:bA} (h:gj P N ops o j=aq) (s:bH dl N I β e H a w) (i:ns P j.op e H v H') {Q:Exit->Act->World->Prop} {next:Act->World->Prop}
  (p:∀rv z b w',Ext I β H w z b H' w'->bH dl N z b (dF j.dst v e) H' (a.put o.dst rv) w'->next (a.put o.dst rv) w'):o.wpIn (FR fo) 0 P a w next Q:=by
 have ⟨n,c,_⟩:=im h;unfold ns at i;split at i
 .rename_i f args y;have ⟨l,x⟩:=i;refine iV h s y l (fun r q=>x I β w r s.bm q) ?_;rintro t w' ⟨rv,z,b,rfl,g,m,k⟩;exact ⟨rv,rfl,p rv z b w' g (n ▸ s.put g m c k)⟩
 .exact jJ h s i fun rv z b w' g m k _=>p rv z b w' g (n ▸ s.put g m c k)
def Out (dl:List Deferred) (N:Nat) (I:Imm) (β:Bet) (H:aE) (w:World) (e':Env) (H':aE) (a':Act) (w':World):Prop:=∃I' β',Ext I β H w I' β' H' w'/\bH dl N I' β' e' H' a' w'
def Out.step {c:Env} {k:aE} {z:Imm} {f:Bet} {b:Act} {w' y:World} (x:Ext I β H w z f H' w') (h:Out dl N z f H' w' c k b y):Out dl N I β H w c k b y:=by have ⟨g,l,j,i⟩:=h;exact ⟨g,l,x.trans j,i⟩
def gM (P:Program) (ao:bA) (e:Env) (H:aE) (v:AV) (H':aE):Prop :=
 (dD ao.g e=ak aq/\ns P ao.op e H v H')\/(dD ao.g e=ak ar/\v = .bI []/\H'=H)
def vL {ops:Array Oper} {i:Nat} {rest:List Nat} (l:ops[i]?=ak o) {y:bA} (h:gj P N ops o y=aq) (s:bH dl N I β e H a w) (b:gM P y e H v H') {Q:Exit->Act->World->Prop}
  (j:∀f k x w',Ext I β H w k x H' w'->bH dl N k x (dF y.dst v e) H' f w'->wpOpsIn (FR fo) 0 P ops Q rest f w'):wpOpsIn (FR fo) 0 P ops Q (i::rest) a w:=by
 simp only[wpOpsIn,l];rcases b with ⟨c,b⟩ | ⟨c,rfl,rfl⟩
 .rw[W0 (eB h s c)];exact (EH h s b fun rv k x w' p n=>j _ k x w' p n)
 .rw[WX (by rw[eB h s c];simp)];have ⟨g,z,_⟩:=im h;rw[g];exact ⟨fun _ _=>trivial,j _ I β w (.refl _ _ _ _) (s.put (.refl _ _ _ _) s.bm (fun t m=>z t (g ▸ m)) yK)⟩
def eh {ops:Array Oper}:∀{l:List Oper} {m:List bA},ea P N ops l m=aq->ae l=ae m/\∀(i:Nat) o k,l[i]?=ak o->m[i]?=ak k->gj P N ops o k=aq
 | [],[],_=>⟨rfl,fun i o k e=>by simp at e⟩
 | o::r,k::s,h=>by
  simp only[ea,WZ] at h;have ⟨z,b⟩:=eh h.2;refine ⟨by simp[z],fun i c y e x=>?_⟩;cases i with
  | zero=>simp at e x;subst e x;exact h.1
  | succ i=>simp at e x;exact b i c y e x
 | [],_::_,h=>by simp[ea] at h
 | _::_,[],h=>by simp[ea] at h
end
def Opd.cK:Opd->List Nat
 | .t n=>[n]
 | .k _=>[]
def AOp.cK:AOp->List Nat
 | .mv x | .box x | .nz x | .nc x | .un _ x | .cv _ x | .fa x _ | .fd x _ _ _ | .ex x _ | .len x | .fj _ x | .ld x _ _ | .xB x _ _ | .q9 x _ | .AN _ x=>x.cK
 | .pick c a b=>c.cK++a.cK++b.cK
 | .new _ _ | .bad=>[]
 | .mM x n _ _=>x.cK++n.cK
 | .tJ x n _=>x.cK++n.cK
 | .bd _ ps=>ps.flatMap fun p=>p.2.2.cK
 | .bs _ ps | .qe _ ps=>ps.flatMap Opd.cK
 | .st x y _ | .bin _ x y | .beq _ x y | .mk _ _ x y | .vX x y _ | .CF x y _ _ | .ix x y _ _ _ | .app x y _ | .Cr _ _ x y=>x.cK++y.cK
 | .mf _ a b=>a.flatMap Opd.cK++b.flatMap Opd.cK
 | .A9 _ _ x=>x.cK
 | .nj x lo hi m _=>x.cK++lo.toList.flatMap Opd.cK++hi.toList.flatMap Opd.cK++m.toList.flatMap Opd.cK
 | .call _ l | .iW _ l=>l.flatMap Opd.cK
 | .jz x l=>x.cK++l.flatMap Opd.cK
 | .mx l | .mn l=>l.flatMap Opd.cK
def AOp.reads:AOp->Bool
 | .ld _ _ _ | .nj _ _ _ _ _ | .call _ _ | .jz _ _=>aq
 | _=>ar
def AOp.cP:AOp->Bool
 | .new _ _ | .nz _ | .qe _ _ | .st _ _ _ | .mk _ _ _ _ | .app _ _ _ | .q9 _ _ | .mM _ _ _ _ | .tJ _ _ _ | .iW _ _=>aq
 | _=>ar
def cW (l:List Nat) (e e2:Env):Prop:=∀t,t∈l->lk t e=lk t e2
def cW.ev {x:Opd} {e y:Env} (h:cW x.cK e y):x.ev e=x.ev y:=by
 cases x with
 | t n=>exact h n (by simp[Opd.cK])
 | k a=>rfl
def cW.left (h:cW (l++m) e k):cW l e k:=fun t x=>h t (by simp[x])
def cW.right (h:cW (l++m) e k):cW m e k:=fun t x=>h t (by simp[x])
def cW.Ml {l:List Opd} {e k:Env} (h:cW (l.flatMap Opd.cK) e k) {x:Opd} (z:x∈l):x.ev e=x.ev k :=
 cW.ev fun t y=>h t (Zz.2 ⟨x,z,y⟩)
def cW.maps {l:List Opd} {e k:Env} (h:cW (l.flatMap Opd.cK) e k):l.map (Opd.ev e)=l.map (Opd.ev k):=YE fun _ x=>h.Ml x
def kW {o:Option Opd} {e k:Env} {m d:Nat} (h:cW (o.toList.flatMap Opd.cK) e k):bM e m d o=bM k m d o:=by
 cases o with
 | none=>rfl
 | some x=>simp only[bM];rw[h.Ml (x:=x) aK]
def Ir {e h:Env} {lo y x:Option Opd} {k:Nat} {v:AV} (b:cW (lo.toList.flatMap Opd.cK) e h) (c:cW (y.toList.flatMap Opd.cK) e h) (f:cW (x.toList.flatMap Opd.cK) e h) :
  lq e lo y x k v=lq h lo y x k v:=by
 have z:=fun m d=>kW (m:=m) (d:=d) b;have w:=fun m d=>kW (m:=m) (d:=d) c;cases x with
 | none=>cases v<;>simp only[lq,z,w]
 | some m =>
  have a:=fun g d=>kW (m:=g) (d:=d) f;cases v<;>simp only[lq,z,w,a]
def Lx {o:AOp} {e m:Env} (h:cW o.cK e m):pv o e=pv o m:=by
 cases o with
 | mv x=>simp only[pv,h.ev]
 | pick c a b=>simp only[pv,h.left.left.ev,h.left.right.ev,h.right.ev]
 | new k z=>rfl
 | box x=>simp only[pv,h.ev]
 | nz x=>rfl
 | bd z j =>
  have q:=fun p w=>cW.ev fun t H=>h t (Zz.2 ⟨p,w,H⟩);have s:j.map (fun p=>(p.1,p.2.1,p.2.2.ev e))=j.map (fun p=>(p.1,p.2.1,p.2.2.ev m)):=YE fun p w=>by rw[q p w]
  have v:j.all (fun p=>eC (p.2.2.ev e))=j.all (fun p=>eC (p.2.2.ev m)):=by rw[ZT,W6,W6];exact ⟨fun g p w=>by rw[<-q p w];exact g p w,fun g p w=>by rw[q p w];exact g p w⟩
  simp only[pv,s,v]
 | bs k j =>
  have q:∀p,p∈j->p.ev e=p.ev m:=fun p w=>h.Ml w;have s:j.map (fun p=>(p.ev e).cells)=j.map (fun p=>(p.ev m).cells):=YE fun p w=>by rw[q p w]
  have v:j.all (fun p=>(p.ev e).cells.all cN&&(p.ev e).cells.length==k)=j.all (fun p=>(p.ev m).cells.all cN&&(p.ev m).cells.length==k):=by rw[ZT,W6,W6];exact ⟨fun g p w=>by rw[<-q p w];exact g p w,fun g p w=>by rw[q p w];exact g p w⟩
  simp only[pv,s,v]
 | qe k j=>rfl
 | ld x r k=>rfl
 | st x y k=>rfl
 | nc x=>simp only[pv,h.ev]
 | bin K x y=>simp only[pv,h.left.ev,h.right.ev]
 | beq n x y=>simp only[pv,h.left.ev,h.right.ev]
 | un K x=>simp only[pv,h.ev]
 | cv k x=>simp only[pv,h.ev]
 | mf f x y=>simp only[pv];rw[show (x.map fun y=>y.ev e)=x.map (Opd.ev e) from rfl,show (y.map fun y=>y.ev e)=y.map (Opd.ev e) from rfl,h.left.maps,h.right.maps]
 | mk k z l c=>rfl
 | A9 k z l=>simp only[pv,h.ev]
 | nj x A X mx k=>simp only[pv,h.left.left.left.ev];exact Ir h.left.left.right h.left.right h.right
 | fa x o=>simp only[pv,h.ev]
 | fd x o r k=>simp only[pv,h.ev]
 | vX x i k=>simp only[pv,h.left.ev,h.right.ev]
 | CF x i n k=>simp only[pv,h.left.ev,h.right.ev]
 | ix x i n k r=>simp only[pv,h.left.ev,h.right.ev]
 | ex x i=>simp only[pv,h.ev]
 | call f l=>rfl
 | iW f l=>rfl
 | xB x r k=>simp only[pv,h.ev]
 | jz x l=>rfl
 | len x=>simp only[pv,h.ev]
 | app x y k=>rfl
 | mx l=>simp only[pv,h.maps]
 | mn l=>simp only[pv,h.maps]
 | fj n x=>simp only[pv,h.ev]
 | Cr n W x y=>simp only[pv,h.left.ev,h.right.ev]
 | AN t x=>simp only[pv,h.ev]
 | q9 x z=>rfl
 | mM x n k z=>rfl
 | tJ x n k=>rfl
 | bad=>rfl
def K7 (h:cW o.cK e a):hv o e H=hv o a H:=by
 cases o with
 | nz x=>simp only[hv,h.ev]
 | qe k b =>
  have f:∀p,p∈b->p.ev e=p.ev a:=fun p w=>h.Ml w;have q:b.map (fun p=>(p.ev e).cells)=b.map (fun p=>(p.ev a).cells):=YE fun p w=>by rw[f p w]
  have r:b.all (fun p=>(p.ev e).cells.all bh&&(p.ev e).cells.length==k)=b.all (fun p=>(p.ev a).cells.all bh&&(p.ev a).cells.length==k):=by rw[ZT,W6,W6];exact ⟨fun g p w=>f p w ▸ g p w,fun g p w=>f p w ▸ g p w⟩
  simp only[hv,q,r]
 | ld x t k=>simp only[hv,h.ev]
 | st x y k=>simp only[hv,h.left.ev,h.right.ev]
 | mk k z l c=>simp only[hv,h.left.ev,h.right.ev]
 | nj x K v s k =>
  cases s with
  | some m=>rfl
  | none =>
   have i:=fun m d=>kW (m:=m) (d:=d) h.left.left.right;have j:=fun m d=>kW (m:=m) (d:=d) h.left.right;simp only[hv,h.left.left.left.ev,i,j]
 | app x y k=>simp only[hv,h.left.ev,h.right.ev]
 | mM x n k z=>simp only[hv,h.left.ev,h.right.ev]
 | tJ x n k=>simp only[hv,h.left.ev,h.right.ev]
 | q9 x z=>simp only[hv,h.ev]
 | _=>rfl
def ph (h:cW o.cK e k):eO o e H=eO o k H:=by simp only[eO,Lx h,K7 h]
def q8 (h:cW o.cK e k):dU o e=dU o k:=by
 cases o with
 | call f l=>simp only[dU];rw[show (l.map fun y=>y.ev e)=l.map (Opd.ev e) from rfl,cW.maps h]
 | iW f l=>simp only[dU];rw[show (l.map fun y=>y.ev e)=l.map (Opd.ev e) from rfl,cW.maps h]
 | jz x l=>simp only[dU,h.left.ev];rw[show (l.map fun y=>y.ev e)=l.map (Opd.ev e) from rfl,h.right.maps]
 | _=>rfl
def nJ (g:Option (Nat × Bool)):List Nat:=g.toList.map (·.1)
def gM.yl (h:gM P k e H v H') (z:cW k.op.cK e y) (w:cW (nJ k.g) e y):gM P k y H v H':=by
 have b:dD k.g e=dD k.g y:=by
  cases a:k.g with
  | none=>rfl
  | some x=>simp only[dD];rw[w x.1 (by simp[nJ,a])]
 unfold gM ns at *;rw[<-b,<-q8 z,<-ph z];exact h
def gM.BI (h:gM P x e H v c) (w:x.op.reads=ar) (a:x.op.cP=ar) (G:aE):gM P x e G v G:=by
 rcases h with ⟨y,k⟩ | ⟨y,rfl,rfl⟩
 .refine .inl ⟨y,?_⟩;unfold ns at *;cases z:x.op<;>simp[z,AOp.reads,AOp.cP] at w a<;>simp only[z,dU] at k ⊢<;>simp only[eO] at k ⊢<;>(split at k<;>first | (simp at k;obtain ⟨rfl,rfl⟩:=k;rename_i b;simp[b]) | (simp[hv] at k))
 .exact .inr ⟨y,rfl,rfl⟩
def gM.aQ (h:gM P a e H v c) (g:a.op.cP=ar) (i:∀f args,dU a.op e≠ak (f,args)):c=H:=by
 rcases h with ⟨j,y⟩ | ⟨j,rfl,rfl⟩
 .unfold ns at y;split at y
  .rename_i f args z;exact absurd z (i f args)
  .unfold eO at y;split at y
   .simp at y;exact y.2.symm
   .cases b:a.op<;>simp[b,AOp.cP] at g<;>simp only[b,hv] at y<;>first | (simp at y;done) | skip
    .split at y
     .have ⟨u,_,w⟩:=Xi.1 y;simp at w;exact w.2.symm
     .have ⟨n,_,y⟩:=W5.1 y;have ⟨x,_,y⟩:=W5.1 y;have ⟨u,_,w⟩:=Xi.1 y;simp at w;exact w.2.symm
     .simp at y
    .rename_i x r p l k;cases l with
     | some m=>simp at y
     | none =>
      simp only at y;split at y
      .have ⟨n,_,y⟩:=W5.1 y;split at y
       .have ⟨o,_,y⟩:=W5.1 y;have ⟨q,_,y⟩:=W5.1 y;simp at y;exact y.2.symm
       .simp at y
      .simp at y
 .rfl
section
variable {P:Program} {dl:List Deferred} {fo:Option Nat} {N:Nat} {I:Imm} {β:Bet} {e:Env} {H H':aE} {a:Act} {w:World} {o:Oper} {v:AV}
def bn (o:Oper):List Nat:=(o.after.toList.filter (Region.binds .any)).map (·.on)
def gQ:List (List Nat)->List Nat->List Nat
 | [],acc=>acc
 | es::r,acc=>gQ r (acc++[es.foldl (fun s j=>s ||| 2 ^ j ||| acc.getD j 0) 0])
def ie (b:List Nat) (i j:Nat):Bool:=(b.getD (max i j) 0).testBit (min i j)
def dy:Nat->List (List Nat)->Bool
 | _,[]=>aq
 | i,es::r=>es.all (fun j=>decide (j < i))&&dy (i+1) r
def gK (x y:bA):Bool :=
 match x.dst with
 | none=>ar
 | some t=>y.op.cK.contains t || (nJ y.g).contains t || decide (y.dst=ak t)
def fv (md:List Nat) (i:Nat):Bool:=md.contains i
def Js (b:List Nat) (md:List Nat) (aops:List bA) (i j:Nat):Bool :=
 match aops[i]?,aops[j]? with
 | some x,ak y=>i==j || ((!gK x y || ie b i j)&&(!(fv md i&&(fv md j || y.op.reads)) || ie b i j))
 | _,_=>aq
def gz (E:List (List Nat)) (md:List Nat) (aops:List bA):Bool :=
 dy 0 E&&decide (ae E=ae aops) &&
 (aC (ae aops)).all (fun i=>(match aops[i]? with | some x => !x.op.cP || fv md i | none=>aq)&&(aC (ae aops)).all fun j=>Js (gQ E []) md aops i j)
def Down (E:List (List Nat)) (S:Nat->Bool):Prop:=∀(i:Nat) es,E[i]?=ak es->S i=aq->∀j,j∈es->S j=aq
def AK {S:Nat->Bool} (acc:List Nat) (x:∀i j,(acc.getD i 0).testBit j=aq->S i=aq->S j=aq):∀(c:List Nat) (s:Nat),(∀j,s.testBit j=aq->S j=aq)->(∀j,j∈c->S j=aq) ->
  ∀j,(c.foldl (fun s j=>s ||| 2 ^ j ||| acc.getD j 0) s).testBit j=aq->S j=aq
 | [],s,b,_,j,z=>b j z
 | k::r,s,b,f,j,z=>by
  simp only[List.foldl_cons] at z;refine AK acc x r _ (fun i y=>?_) (fun i y=>f i (by simp[y])) j z;rw[abG,abG] at y;simp only[YJ] at y;rcases y with (h | h) | h
  .exact b i h
  .grind
  .exact x k i h (f k aK)
def Ao {S:Nat->Bool}:∀(r pre:List (List Nat)) (acc:List Nat),ae acc=ae pre->Down (pre++r) S->(∀i j,(acc.getD i 0).testBit j=aq->S i=aq->S j=aq) ->
  ∀i j,((gQ r acc).getD i 0).testBit j=aq->S i=aq->S j=aq
 | [],pre,acc,_,_,k=>k
 | es::r,pre,acc,c,z,k=>by
  refine Ao r (pre++[es]) _ (by simp[c]) (bk z) ?_;intro i j x b;rcases Xe i (ae acc) with h | h
  .have:(acc++[es.foldl (fun s j=>s ||| 2 ^ j ||| acc.getD j 0) 0]).getD i 0=acc.getD i 0:=by grind
   rw[this] at x;exact k i j x b
  .rcases aag h with y | y
   .have f:(pre++es::r)[i]?=ak es:=by rw[<-y,c];simp
    have:(acc++[es.foldl (fun s j=>s ||| 2 ^ j ||| acc.getD j 0) 0]).getD i 0=es.foldl (fun s j=>s ||| 2 ^ j ||| acc.getD j 0) 0:=by rw[<-y];simp[XZ]
    rw[this] at x;exact AK acc k es 0 aK (z i es f b) j x
   .have:(acc++[es.foldl (fun s j=>s ||| 2 ^ j ||| acc.getD j 0) 0]).getD i 0=0:=by grind
    rw[this] at x;simp at x
structure mq (P:Program) (md:List Nat) (aops:List bA) (E:Nat->Env) (G:Nat->aE) (V:Nat->AV):Prop where
 step:∀(i:Nat) ao,aops[i]?=some ao->gM P ao (E i) (G i) (V i) (G (i+1))
 env:∀(i:Nat) ao,aops[i]?=some ao->E (i+1)=dF ao.dst (V i) (E i)
 heap:∀(i:Nat),i < aops.length->fv md i=false->G (i+1)=G i
inductive qW (P:Program) (md:List Nat):Nat->List bA->Env->aE->Env->aE->Prop
 | nil {i:Nat} {e:Env} {H:aE}:qW P md i [] e H e H
 | cons {i:Nat} {ao:bA} {r:List bA} {e e':Env} {H H1 H':aE} {v:AV}:gM P ao e H v H1->(fv md i=false->H1=H)->qW P md (i+1) r (dF ao.dst v e) H1 e' H'->qW P md i (ao::r) e H e' H'
def qW.fn {md:List Nat}:∀{r:List bA} {k:Nat} {e x:Env} {H H':aE},qW P md k r e H x H'->∃(E:Nat->Env) (G:Nat->aE) (V:Nat->AV),E 0=e/\G 0=H/\E (ae r)=x/\G (ae r)=H' /\
  (∀(i:Nat) ao,r[i]?=ak ao->gM P ao (E i) (G i) (V i) (G (i+1)))/\(∀(i:Nat) ao,r[i]?=ak ao->E (i+1)=dF ao.dst (V i) (E i))/\(∀i,i < ae r->fv md (k+i)=ar->G (i+1)=G i)
 | [],k,e,x,H,H',h=>by cases h;exact ⟨fun _=>e,fun _=>H,fun _ => .aY,rfl,rfl,rfl,rfl,fun i ao h=>by simp at h,fun i ao h=>by simp at h,fun i h=>by simp at h⟩
 | ao::r,k,e,x,H,H',h=>by
  cases h with
  | cons p hm b =>
   rename_i c v;have ⟨E,G,V,f,g,y,z,l,m,n⟩:=qW.fn b;refine ⟨fun i=>match i with | 0=>e | j+1=>E j,fun i=>match i with | 0=>H | j+1=>G j,fun i=>match i with | 0=>v | j+1=>V j,rfl,rfl,y,z,?_,?_,?_⟩
   .grind
   .grind
   .grind
def e8 (aops:List bA) (V:Nat->AV) (e:Env) (S:Nat->Bool):Nat->Nat->AV
 | 0,t=>lk t e
 | k+1,t=>if S k=aq/\(aops[k]?).bind (·.dst)=ak t then V k else e8 aops V e S k t
def fY (md:List Nat) (G:Nat->aE) (S:Nat->Bool):Nat->aE
 | 0=>G 0
 | k+1=>if S k=aq/\fv md k=aq then G (k+1) else fY md G S k
section
variable {md:List Nat} {aops:List bA} {E:Nat->Env} {G:Nat->aE} {V:Nat->AV} {ed:List (List Nat)}
def jq (k:gz ed md aops=aq) (f:aops[i]?=ak x) (g:aops[j]?=ak y) (z:i≠j) :
  (gK x y=aq->ie (gQ ed []) i j=aq)/\(fv md i=aq->(fv md j=aq\/y.op.reads=aq)->ie (gQ ed []) i j=aq):=by
 simp only[gz,WZ] at k;have b:=W6.1 k.2 i (by simp;exact (W9.1 f).1);rw[WZ] at b;have c:=W6.1 b.2 j (by simp;exact (W9.1 g).1);simp only[Js,f,g,YJ,WZ,X2] at c;rcases c with h | ⟨l,m⟩
 .exact absurd h z
 .grind
def jO (b:List Nat) (i j:Nat):ie b i j=ie b j i:=by simp only[ie,Nat.max_comm,Nat.min_comm]
def ff (S:Nat->Bool) (x:Down ed S) (z:i < j) (h:ie (gQ ed []) i j=aq) (y:S j=aq):S i=aq:=by unfold ie at h;rw[Nat.max_eq_right aD,XV aD] at h;exact Ao ed [] [] rfl (bk x) (fun i j k _=>by simp at k) j i h y
def Fq (r:gz ed md aops=aq) (s:mq P md aops E G V) (q:Down ed S) (X:aops[i]?=ak K) (p:S i=ar)
  (l:Down ed fun j=>S j || j==i) (z:∀(j:Nat) x,aops[j]?=ak x->j≠i->x.dst=ak t->ie (gQ ed []) i j=aq) :
  ∀k,k<=ae aops->e8 aops V (E 0) S k t=lk t (E (min k i)):=by
 intro k
 induction k with
 | zero=>intro _;simp[e8]
 | succ k m =>
  intro W;have m:=m aD;have f:aops[k]?=ak (aops[k]'aD):=W7 _;rw[e8,f,Xr,m];by_cases b:k < i
  .rw[show min (k+1) i=k+1 by omega,show min k i=k by omega,s.env k _ f,mz];by_cases y:aops[k].dst=ak t
   .have:=z k _ f aD y;rw[jO] at this;have c:=ff _ l b this aK;simp only[YJ,X2] at c;rw[W0 y,W0 ⟨c.resolve_right (by omega),y⟩]
   .rw[WX y,WX (fun h=>y h.2)]
  .rw[show min (k+1) i=i by omega,show min k i=i by omega,WX];rintro ⟨n,c⟩;rcases aag (aaW b) with g | g
   .subst g;simp[p] at n
   .have:=ff S q g (z k _ f aD c) n;simp[p] at this
def BT (y:gz ed md aops=aq) (K:mq P md aops E G V) (t:Down ed S) (n:aops[i]?=ak s) (p:S i=ar)
  (f:Down ed fun j=>S j || j==i) (q:fv md i=aq\/s.op.reads=aq):∀k,k<=ae aops->fY md G S k=G (min k i):=by
 intro k
 induction k with
 | zero=>intro _;simp[fY]
 | succ k g =>
  intro X;have g:=g aD;have r:aops[k]?=ak (aops[k]'aD):=W7 _;rw[fY,g];by_cases x:k < i
  .rw[show min (k+1) i=k+1 by omega,show min k i=k by omega];by_cases b:fv md k=aq
   .have:=(jq y r n aD).2 b q;have z:=ff _ f x this aK;simp only[YJ,X2] at z;rw[W0 ⟨z.resolve_right (by omega),b⟩]
   .rw[WX (fun h=>b h.2),K.heap k (by omega) (by simpa using b)]
  .rw[show min (k+1) i=i by omega,show min k i=i by omega,WX];rintro ⟨l,z⟩;rcases aag (aaW x) with c | c
   .subst c;simp[p] at l
   .have m:=(jq y r n aD).2 z q;rw[jO] at m;have:=ff S t c m l;simp[p] at this
def yP (b:mq P md aops E G V) (y:∀i,i < ae aops->S i=aq) (t:Nat):∀k,k<=ae aops->e8 aops V (E 0) S k t=lk t (E k):=by
 intro k
 induction k with
 | zero=>intro _;rfl
 | succ k c =>
  intro f;have x:aops[k]?=ak (aops[k]'aD):=W7 _;rw[e8,x,Xr,c aD,b.env k _ x,mz];by_cases h:aops[k].dst=ak t
  .rw[W0 ⟨y k aD,h⟩,W0 h]
  .rw[WX (fun z=>h z.2),WX h]
def k8 (z:mq P md aops E G V) (x:∀i,i < ae aops->S i=aq):∀k,k<=ae aops->fY md G S k=G k:=by
 intro k
 induction k with
 | zero=>intro _;rfl
 | succ k b =>
  intro c;rw[fY,b aD];by_cases h:fv md k=aq
  .rw[W0 ⟨x k aD,h⟩]
  .rw[WX (fun y=>h y.2),z.heap k aD (by simpa using h)]
def Ce (z:gz ed md aops=aq) (l:Down ed S) (m:aops[i]?=ak x) (n:S i=ar) (t:Nat):∀k,k<=ae aops ->
  e8 aops V (E 0) (fun j=>S j || j==i) k t=if i < k/\x.dst=ak t then V i else e8 aops V (E 0) S k t:=by
 intro k
 induction k with
 | zero=>intro _;simp[e8]
 | succ k p =>
  intro q;have b:aops[k]?=ak (aops[k]'aD):=W7 _;rw[e8,b,Xr,p aD,e8,b,Xr];by_cases f:k=i
  .grind
  .have g:(S k || k==i)=S k:=by simp[f]
   rw[g];by_cases h:S k=aq/\aops[k].dst=ak t
   .rw[W0 h];by_cases c:i < k+1/\x.dst=ak t
    .have y:i < k:=aD;have:gK x aops[k]=aq:=by simp[gK,c.2,h.2]
     have:=(jq z m b aD).1 this;have:=ff S l y this h.1;simp[n] at this
    .rw[WX c,W0 h]
   .grind
def oG (y:gz ed md aops=aq) (f:Down ed S) (g:aops[i]?=ak p) (l:S i=ar):∀k,k<=ae aops ->
  fY md G (fun j=>S j || j==i) k=if i < k/\fv md i=aq then G (i+1) else fY md G S k:=by
 intro k
 induction k with
 | zero=>intro _;simp[fY]
 | succ k n =>
  intro q;have m:aops[k]?=ak (aops[k]'aD):=W7 _;rw[fY,n aD,fY];by_cases b:k=i
  .grind
  .have c:(S k || k==i)=S k:=by simp[b]
   rw[c];by_cases h:S k=aq/\fv md k=aq
   .rw[W0 h];by_cases z:i < k+1/\fv md i=aq
    .have x:i < k:=aD;have:=(jq y g m aD).2 z.2 (.inl h.2);have:=ff S f x this h.1;simp[l] at this
    .rw[WX z,W0 h]
   .grind
end
def iI (ops:Array Oper):∀(fuel t:Nat) (h:Array Bool) (acc:List Nat),Region.linearise.go .any ops fuel t h acc=acc.reverse++Region.linearise.go .any ops fuel t h []
 | 0,t,h,acc=>by simp[Region.linearise.go]
 | fuel+1,t,h,acc=>by
  simp only[Region.linearise.go];split
  .rename_i i _;rw[iI ops fuel _ _ (i::acc),iI ops fuel _ _ [i]];simp
  .simp
def filter_lt {p q:Nat->Bool} (k:∀x,q x=aq->p x=aq) {i:Nat} (c:p i=aq) (f:q i=ar):∀{l:List Nat},i∈l->ae (l.filter q) < ae (l.filter p)
 | [],h=>by simp at h
 | x::r,h=>by
  have b:∀l:List Nat,ae (l.filter q)<=ae (l.filter p):=by
   intro l
   induction l with
   | nil=>simp
   | cons y s m =>
    simp only[aaX];by_cases z:q y=aq
    .rw[W0 z,W0 (k y z)];simpa using m
    .grind
  by_cases j:x=i
  .grind
  .have g:i∈r:=by simp at h;rcases h with h | h;exact absurd h.symm j;exact h
   have:=filter_lt k c f g;simp only[aaX];by_cases z:q x=aq
   .rw[W0 z,W0 (k x z)];simpa using this
   .grind
def Nn {ops:Array Oper} {aops:List bA} {md:List Nat} (hc:ea P N ops ops.toList aops=aq) (K:gz (ops.toList.map bn) md aops=aq) {E:Nat->Env} {G:Nat->aE} {V:Nat->AV} (O:mq P md aops E G V) {Q:Exit->Act->World->Prop} :
  ∀(fuel t:Nat) (y:Array Bool) (e:Env) (H:aE) (I:Imm) (β:Bet) (a:Act) (w:World),y.size=ops.size->ae ((aC ops.size).filter fun i => !y.getD i aq)<=fuel->Down (ops.toList.map bn) (fun i=>y.getD i ar) ->
   (∀s,lk s e=e8 aops V (E 0) (fun i=>y.getD i ar) (ae aops) s)->H=fY md G (fun i=>y.getD i ar) (ae aops)->bH dl N I β e H a w ->
   (∀a' w',Out dl N I β H w (E (ae aops)) (G (ae aops)) a' w'->Q .normal a' w')->wpOpsIn (FR fo) 0 P ops Q (Region.linearise.go .any ops fuel t y []) a w:=by
 have ⟨a7,a6⟩:=eh hc;have b7:ops.size=ae aops:=bk a7;intro fuel
 induction fuel with
 | zero =>
  intro t y e H I β a w b2 a4 z he hH s hq;have b:∀i,i < ae aops->y.getD i ar=aq:=by
   intro i hi;cases hl:y.getD i ar with
   | true=>rfl
   | false =>
    have:i∈(aC ops.size).filter fun i => !y.getD i aq:=by
     simp only[XR,X5];refine ⟨aD,?_⟩;have:y.getD i aq=y.getD i ar:=by simp[W8,show i < y.size by omega]
     rw[this,hl];rfl
    have:=aal this;omega
  simp only[Region.linearise.go,aaB,wpOpsIn];refine hq a w ⟨I,β,?_,?_⟩
  .rw[hH,k8 O b _ (WY _)];exact .refl _ _ _ _
  .refine ⟨?_,s.size,fun t=>?_,s.mu⟩
   .have:=s.bm;rw[hH,k8 O b _ (WY _)] at this;exact this
   .have:=s.env t;rw[he,yP O b t _ (WY _)] at this;exact this
 | succ fuel ih =>
  intro t y e H I β a w b2 a4 z he hH s hq;have a1:∀i,i < ae aops->y.getD i aq=y.getD i ar:=by intro i hi;simp[W8,show i < y.size by omega]
  simp only[Region.linearise.go];split
  .rename_i i a2;rw[iI];have R:=XJ a2;simp only[XR,X5,WZ,Yd] at R;have ⟨A,c,X⟩:=R;have B:i < ae aops:=aD;have C:=Xp A;have n:=W7 B;rw[a1 i B] at c;rw[C] at X;simp only[XL,XT] at X;have a0:∀j,j∈bn ops[i]->y.getD j ar=aq:=by intro j J;simp only[bn,Xf,XR] at J;obtain ⟨ed,⟨U,h2⟩,rfl⟩:=J;have:=YA.1 X ed (bk U);simpa[h2] using this
   have b3:(ops.toList.map bn)[i]?=ak (bn ops[i]):=by simp[C]
   have b0:∀j,(y.setIfInBounds i aq).getD j ar=(y.getD j ar || j==i):=by
    intro j;simp only[W8,Xl];by_cases h:i=j
    .subst h;simp[show i < y.size by omega]
    .rw[WX h];simp[show ¬j=i from fun h'=>h h'.symm]
   have L:=funext b0;have f:Down (ops.toList.map bn) (fun j=>y.getD j ar || j==i):=by
    intro j T J b1 k hk;simp only[YJ,X2] at b1 ⊢;rcases b1 with h | h
    .exact .inl (z j T J h k hk)
    .subst h;rw[b3] at J;cases J;exact .inl (a0 k hk)
   have M:=O.step i _ n;have F:∀l:List Nat,(∀s,s∈l->∀(j:Nat) x,aops[j]?=ak x->j≠i->x.dst=ak s->gK x aops[i]=aq)->cW l (E i) e:=by intro l hl s hs;have:=Fq K O z n c f (t:=s) (fun j x J a9 W=>by have:=(jq K J n a9).1 (hl s hs j x J a9 W);rw[jO] at this;exact this) (ae aops) (WY _);rw[he,this,ZA (by omega)]
   have U:cW aops[i].op.cK (E i) e:=F _ fun s hs j x _ _ W=>by simp[gK,W,hs]
   have h2:cW (nJ aops[i].g) (E i) e:=F _ fun s hs j x _ _ W=>by simp[gK,W,hs]
   have b5:gj P N ops ops[i] aops[i]=aq:=a6 i _ _ (by simp[C]) n;have c1:(aops[i].op.cP=aq->fv md i=aq):=by intro hw;simp only[gz,WZ] at K;have U:=W6.1 K.2 i (bk B);rw[WZ,n] at U;have:=U.1;simpa[hw] using this
   obtain ⟨H1,c0,b4⟩:∃H1,gM P aops[i] e H (V i) H1/\H1=fY md G (fun j=>y.getD j ar || j==i) (ae aops):=by
    by_cases a3:fv md i=aq\/aops[i].op.reads=aq
    .have hh:=BT K O z n c f a3 (ae aops) (WY _);rw[ZA (by omega)] at hh;refine ⟨G (i+1),?_,?_⟩
     .have:=M.yl U h2;rw[hH,hh];exact this
     .rw[oG K z n c (ae aops) (WY _)];by_cases hm:fv md i=aq
      .rw[W0 ⟨B,hm⟩]
      .rw[WX (fun h=>hm h.2),hh,O.heap i B (by simpa using hm)]
    .have hm:=fun h=>a3 (.inl h);have hr:aops[i].op.reads=ar:=bk (fun h=>a3 (.inr h));have c2:aops[i].op.cP=ar:=by
      cases c3:aops[i].op.cP with
      | false=>rfl
      | true=>exact absurd (c1 c3) hm
     refine ⟨H,(M.yl U h2).BI hr c2 H,?_⟩;rw[oG K z n c (ae aops) (WY _),WX (fun h=>hm h.2),hH]
   refine vL C b5 s c0 fun a' I' c8 w' x' s'=>?_;refine ih (t / _) (y.setIfInBounds i aq) (dF aops[i].dst (V i) e) H1 I' c8 a' w' (bk b2) ?_ (by rw[L];exact f) ?_ (by rw[L];exact b4) s' (fun c6 c7 ho=>hq _ _ (ho.step x'))
   .have:=filter_lt (p:=fun j => !y.getD j aq) (q:=fun j => !(y.setIfInBounds i aq).getD j aq) (i:=i) (l:=aC ops.size) (fun x hx=>by
     simp only[W8,Xl] at hx ⊢;by_cases h:i=x
     .subst h;simp[show i < y.size by omega] at hx
     .rw[WX h] at hx;exact hx) (by rw[a1 i B,c];rfl) (by simp[W8,show i < y.size by omega]) (bk A);omega
   .intro s';rw[L,Ce K z n c s' (ae aops) (WY _),mz];by_cases hd:aops[i].dst=ak s'
    .rw[W0 hd,W0 ⟨B,hd⟩]
    .rw[WX hd,WX (fun h=>hd h.2),he]
  .rename_i D;have a5:((aC ops.size).filter fun i => !y.getD i aq&&((ops[i]?).map (·.after.all fun e => !Region.binds .any e || y.getD e.on ar)).getD ar)=[]:=by
    cases b9:((aC ops.size).filter fun i => !y.getD i aq&&((ops[i]?).map (·.after.all fun e => !Region.binds .any e || y.getD e.on ar)).getD ar) with
    | nil=>rfl
    | cons x r =>
     rw[b9] at D;have:t % ae (x::r) < ae (x::r):=aaz _ aK;rw[W7 this] at D;simp at D
   have b:∀i,i < ae aops->y.getD i ar=aq:=by
    intro i
    induction i using Nat.strongRecOn with
    | _ i c5 =>
     intro hi;cases hl:y.getD i ar with
     | true=>rfl
     | false =>
      exfalso;have A:i < ops.size:=aD;have C:=Xp A;have a8:∀j,j∈bn ops[i]->j < i:=by
       have S:=K;simp only[gz,WZ] at S;have gen:∀(l:List (List Nat)) (k:Nat),dy k l=aq->∀(m:Nat) T,l[m]?=ak T->∀j,j∈T->j < k+m:=by
        intro l
        induction l with
        | nil=>intro k _ m T h;simp at h
        | cons x r c4 =>
         intro k hk m T h j J;simp only[dy,WZ] at hk;cases m with
         | zero=>simp at h;subst h;have:=W6.1 hk.1 j J;simpa using this
         | succ m=>have:=c4 (k+1) hk.2 m T (bk h) j J;omega
       intro j J;have:=gen _ 0 S.1.1 i (bn ops[i]) (by simp[C]) j J;omega
      have:i∈((aC ops.size).filter fun i => !y.getD i aq&&((ops[i]?).map (·.after.all fun e => !Region.binds .any e || y.getD e.on ar)).getD ar):=by
       simp only[XR,X5,WZ,Yd];refine ⟨A,by rw[a1 i hi];exact hl,?_⟩;rw[C];simp only[XL,XT];refine YA.2 fun ed b6=>?_;cases hb:Region.binds .any ed with
       | false=>rfl
       | true =>
        have hm:ed.on∈bn ops[i]:=by simp only[bn,Xf,XR];exact ⟨ed,⟨bk b6,hb⟩,rfl⟩
        have b8:=a8 _ hm;simp[c5 _ b8 aD]
      rw[a5] at this;simp at this
   simp only[aaB,wpOpsIn];refine hq a w ⟨I,β,?_,?_⟩
   .rw[hH,k8 O b _ (WY _)];exact .refl _ _ _ _
   .refine ⟨?_,s.size,fun t=>?_,s.mu⟩
    .have:=s.bm;rw[hH,k8 O b _ (WY _)] at this;exact this
    .have:=s.env t;rw[he,yP O b t _ (WY _)] at this;exact this
def bJ.OM {l:List AV} {vs:List Value} {β2:Bet} (h:ae l=ae vs):bJ I β2 (l.map fun _ => .aY) vs:=by refine ⟨by simp[h],fun j a v k y=>?_⟩;rw[Ys] at k;obtain ⟨x,z,rfl⟩:=Xi.1 k;exact .aY
section out
variable {ρ:Nat->Nat} {β1:Bet} (hβ:∀id ver B,β1 id ver=some B->β (ρ id) ver=some B)
include hβ
def Rel.Ih {a:AV} {v:Value} (h:Rel I β1 a v):Rel I β (Ih ρ a) v:=by
 cases h with
 | c g=>exact .c g
 | nil=>exact .nil
 | gF g=>exact .gF g
 | seq z k x y b i=>exact .seq z k x y b i
 | fp z f k x=>exact .fp z f k x
 | ptr k x=>exact .ptr (hβ _ _ _ k) x
 | sl k x y=>exact .sl (hβ _ _ _ k) x y
 | rP k x=>exact .rP (hβ _ _ _ k) x
 | fn k x y b =>
  have g1:=bJ.OM (I:=I) (β2:=β) k;have g2:=bJ.OM (I:=I) (β2:=β) x;exact .fn g1.1 g2.1 g1.2 g2.2
 | agg _ _=>exact .aY
 | bI _ _=>exact .aY
 | aY=>exact .aY
end out
def Rel.JP {c:Imm} {g β2:Bet} {k id ver i n:Nat} {B:Blk} (y:β id ver=ak B) (x:β.le g) (f:β.le β2) {v:Value} (h:Rel c g (.sl k id ver i n) v):Rel c β2 (.sl k id ver i n) v:=by
 cases h with
 | sl z b j=>have:=x _ _ _ y;rw[z] at this;cases this;exact .sl (f _ _ _ y) b j
 | rP z b=>have:=x _ _ _ y;rw[z] at this;cases this;exact .rP (f _ _ _ y) b
def Ay {α δ γ:Type} {l:List α} {m:List δ} (h:ae l=ae m) {k:List γ} (z:ae l=ae k) {j:Nat} {x:γ} (e:k[j]?=ak x):∃y,m[j]?=ak y :=
 ⟨_,W7 (by have:=(W9.1 e).1;omega)⟩
def Rel.gw {r p:Imm} {n β2:Bet} {D:Value} {x:AV} (s:Rel r β x D) (y:β.le n) (f:β.le β2) {v:Value} (h:Rel p n x v):Rel p β2 x v:=by
 induction s generalizing v n β2 with
 | c _=>exact h.b8 rfl _
 | nil=>exact h.b8 rfl _
 | gF _=>exact h.b8 rfl _
 | seq _ _ _ _ _ _=>exact h.b8 rfl _
 | fp _ _ _ _=>exact h.b8 rfl _
 | ptr i X =>
  cases h with
  | ptr t K=>have:=y _ _ _ i;rw[t] at this;cases this;exact .ptr (f _ _ _ i) K
 | sl i X L=>exact h.JP i y f
 | rP i J=>exact h.JP i y f
 | fn m C _ _ l A =>
  obtain ⟨O,M,rfl,z,q⟩:=h.tM;refine .fn z.1 q.1 (fun j a v k b=>?_) (fun j a v k b=>?_)
  .have ⟨u,g⟩:=Ay m rfl k;exact l j a u k g y f (z.2 j a v k b)
  .have ⟨u,g⟩:=Ay C rfl k;exact A j a u k g y f (q.2 j a v k b)
 | agg m _ l =>
  obtain ⟨F,rfl,z⟩:=h.ot;refine .agg z.1 (fun j a v k b=>?_);have ⟨u,g⟩:=Ay m rfl k;exact l j a u k g y f (z.2 j a v k b)
 | bI m _ l =>
  obtain ⟨F,rfl,z⟩:=h.uf;refine .bI z.1 (fun j a v k b=>?_);have ⟨u,g⟩:=Ay m rfl k;exact l j a u k g y f (z.2 j a v k b)
 | aY=>exact .aY
def dG.gw (z:dG I β w B ob) (M:B.k=ob.k) (b:β.le O) (L:β.le β2) (h:dG n O w' B ob):dG n β2 w' B ob:=by
 unfold dG at z h ⊢;split
 .rename_i f;rw[W0 f] at h;exact h
 .rename_i f;rw[WX f] at z h;have ⟨c,E,s,t,K,X,A,C⟩:=h;have ⟨l,S,T,U,f3,q,m,r⟩:=z;refine ⟨c,E,s,t,K,X,A,fun i j a v y p=>?_⟩;have D:=gE (fun x g=>(m x g).1) y;have F:=(W9.1 D).1;rw[c9 (fun x g=>(m x g).1),<-M] at F;have h3:ae ob.xs*B.k<=B.cap*B.k:=XK _ q;have J:l[B.off+i*B.k+j]?=ak l[B.off+i*B.k+j]:=Xp aD;exact (r i j a _ y J).gw b L (C i j a v y p)
def LJ (s:Sim I β K w) (C:Ext I β K w I' O (K++[ak ob]) w') (s':Sim I' O (K++[ak ob]) w') (hh:K[h]?=ak an) (hn:∀ver,β h ver=an)
  (q:∀id ver,id≠ae K->O id ver=β id ver) (hc:ob.xs.all (fun x=>x.all (ck (ae K)))=aq) :
  ∃β2,Sim I' β2 (K.set h (ak ob)) w'/\Ext I β K w I' β2 (K.set h (ak ob)) w'/\(∀ver,β2 h ver=O (ae K) ver)/\(∀id ver,id≠h->β2 id ver=β id ver):=by
 have a0:=(W9.1 hh).1;let β2:Bet:=fun id ver=>if id=h then O (ae K) ver else β id ver;have b1:∀ver,β2 h ver=O (ae K) ver:=fun ver=>by simp[β2]
 have T:∀id ver,id≠h->β2 id ver=β id ver:=fun id ver p=>by simp[β2,p]
 have t:β.le β2:=fun id ver B f=>by
  by_cases y:id=h
  .subst y;rw[hn] at f;simp at f
  .rw[T _ _ y];exact f
 have D:∀(id:Nat) k,(K.set h (ak ob))[id]?=ak (ak k)->(id=h/\k=ob)\/(id≠h/\K[id]?=ak (ak k)):=by
  intro id k y;by_cases m:id=h
  .subst m;rw[aak a0] at y;simp at y;exact .inl ⟨rfl,y.symm⟩
  .rw[XS (Xg m)] at y;exact .inr ⟨m,y⟩
 have F:(K++[ak ob])[ae K]?=ak (ak ob):=aK;have J:∀{id:Nat} {k},K[id]?=ak (ak k)->(K++[ak ob])[id]?=ak (ak k)/\id < ae K:=fun {id k} y=>by have:=(W9.1 y).1;exact ⟨Xc this ▸ y,this⟩
 have sig:∀(id:Nat) k,(K.set h (ak ob))[id]?=ak (ak k)->∃X,(K++[ak ob])[X]?=ak (ak k)/\(∀ver,β2 id ver=O X ver)/\((id=h/\X=ae K)\/(id≠h/\X=id/\id < ae K)):=by
  intro id k y;rcases D id k y with ⟨rfl,rfl⟩ | ⟨p,y⟩
  .exact ⟨ae K,F,b1,.inl ⟨rfl,rfl⟩⟩
  .have ⟨z,l⟩:=J y;exact ⟨id,z,fun ver=>by rw[T _ _ p,q _ _ aD],.inr ⟨p,rfl,l⟩⟩
 refine ⟨β2,⟨s'.ef,fun id k y=>?_,fun id X a3 a4 B B' z l c1 c2 n1 n2 f=>?_,fun id ver B f=>?_,fun id k n y hv=>?_⟩,⟨C.ef,t,Xa ▸ WY _,C.size,C.os,C.tape,C.output,C.frame,fun b f=>?_⟩,b1,T⟩
 .rcases D id k y with ⟨rfl,rfl⟩ | ⟨p,y⟩
  .have ⟨B,q1,S,A⟩:=s'.obj _ _ F;refine ⟨B,by rw[b1];exact q1,S,?_⟩;unfold dG at A ⊢;split
   .rename_i M;rw[W0 M] at A;exact A
   .rename_i M;rw[WX M] at A;have ⟨c,E,L,g2,g3,g4,g5,g6⟩:=A;refine ⟨c,E,L,g2,g3,g4,g5,fun i j a v e1 e2=>?_⟩;have m:ck (ae K) a=aq:=by unfold cJ at e1;have ⟨x,hx,a1⟩:=W5.1 e1;exact dY (W6.1 hc x (XJ hx)) a1
    have r:=g6 i j a v e1 e2;have f:∀id ver B,id < ae K->O id ver=ak B->β2 id ver=ak B:=fun id ver B a2 f=>by rw[q _ _ aD] at f;exact t _ _ _ f
    cases r with
    | c g=>exact .c g
    | nil=>exact .nil
    | gF g=>exact .gF g
    | seq vs z l h3 h4 h5=>exact .seq vs z l h3 h4 h5
    | fp vs h0 z l=>exact .fp vs h0 z l
    | ptr z l=>simp[ck] at m;exact .ptr (f _ _ _ m z) l
    | sl z l h3=>simp[ck] at m;exact .sl (f _ _ _ m z) l h3
    | rP z l=>simp[ck] at m;exact .rP (f _ _ _ m z) l
    | fn z l h3 h4 =>
     simp only[ck,WZ,abr] at m;obtain ⟨rfl,rfl⟩:=m;exact .fn z l (fun j a v e=>by simp at e) (fun j a v e=>by simp at e)
    | aY=>exact .aY
    | _=>simp[ck] at m
  .have ⟨z,l⟩:=J y;have ⟨B,q1,S,A⟩:=s'.obj _ _ z;have ⟨B0,p1,p2,p3⟩:=s.obj _ _ y;have:=C.n6 _ _ _ p1;rw[q1] at this;cases this;exact ⟨B,T _ _ p ▸ p1,S,p3.gw p2 C.n6 t A⟩
 .have ⟨i1,L,U,z1⟩:=sig _ _ z;have ⟨i2,g2,k2,z2⟩:=sig _ _ l;rw[U] at c1;rw[k2] at c2;have:=s'.inj _ _ _ _ _ _ L g2 c1 c2 n1 n2 f;omega
 .rw[Xa];by_cases y:id=h
  .omega
  .rw[T _ _ y] at f;exact s.gw _ _ _ f
 .have ⟨i1,L,U,_⟩:=sig _ _ y;rw[U];exact s'.ver _ _ n L hv
 .have ⟨id,k,B,q1,S,A,q4⟩:=f;have ⟨i1,L,U,_⟩:=sig _ _ q1;rw[U] at S;exact C.own b ⟨i1,k,B,L,S,A,q4⟩
def NH (s:Sim I β H w) (n:Nat):Sim I β (H++aA n an) w/\Ext I β H w I β (H++aA n an) w:=by
 have k:∀(id:Nat) x,(H++aA n (an:Option bC))[id]?=ak (ak x)->H[id]?=ak (ak x):=by
  intro id x h;rcases Xe id (ae H) with y | y
  .rw[Xc y] at h;exact h
  .rw[Xk y,YH] at h;split at h<;>simp at h
 refine ⟨⟨s.ef,fun id x h=>s.obj id x (k _ _ h),fun id j x l B p h z=>s.inj _ _ _ _ _ _ (k _ _ h) (k _ _ z),fun id ver B h=>by have:=s.gw id ver B h;simp;omega,fun id x m h=>s.ver _ _ m (k _ _ h)⟩,
  ⟨.refl _,.refl _,aK,WY _,rfl,rfl,rfl,fun _ _ _=>⟨rfl,fun _=>rfl⟩,fun b i=>?_⟩⟩;have ⟨id,x,B,y,c,f,g⟩:=i;exact .inl ⟨id,x,B,k _ _ y,c,f,g⟩
def aF:AV->List Nat
 | .ptr id _ _ _=>[id]
 | .sl _ id _ _ _=>[id]
 | _=>[]
def gT (o:AOp) (e:Env):List Nat :=
 match o with
 | .ld x _ _=>aF (x.ev e)
 | .st x _ _=>aF (x.ev e)
 | .nj x _ _ _ _=>aF (x.ev e)
 | .q9 x _=>aF (x.ev e)
 | .app x y _=>aF (x.ev e)++aF (y.ev e)
 | .mM x _ _ _=>aF (x.ev e)
 | .tJ x _ _=>aF (x.ev e)
 | _=>[]
def nN (n:Nat):List Nat->List Nat
 | []=>[n]
 | l=>l
def gG (o:AOp) (e:Env) (n:Nat):List Nat :=
 match o with
 | .st x _ _=>aF (x.ev e)
 | .q9 x _=>aF (x.ev e)
 | .app x _ _=>nN n (aF (x.ev e))
 | .mM x _ _ _=>nN n (aF (x.ev e))
 | .tJ x _ _=>aF (x.ev e)
 | .new _ _ | .nz _ | .qe _ _ | .mk _ _ _ _=>[n]
 | .iW _ l=>(l.map (Opd.ev e)).flatMap aF
 | _=>[]
inductive Loc (o:AOp) (e:Env) (G:aE) (v:AV) (G':aE) (K:aE):Prop
 | same:G'=G->eO o e K=some (v,K)->Loc o e G v G' K
 | rU (id:Nat) (ob ob':bC):id∈gG o e G.length->G[id]?=some (some ob)->K[id]?=some (some ob)->G'=G.set id (some ob')->eO o e K=some (v,K.set id (some ob'))->Loc o e G v G' K
 | alloc (ob:bC) (f:Nat->AV):G.length∈gG o e G.length->(∀(ρ:Nat->Nat) n,Ih ρ (f n)=f (ρ n))->G'=G++[some ob]->v=f G.length->eO o e K=some (f K.length,K++[some ob])->Loc o e G v G' K
def Gd {o:AOp} {e:Env} {G K:aE} {v:AV} {m:aE} {k:Nat} (A:AV) (ys:List (List AV)) (r:∀id,id∈aF A->∀ver,aH K id ver=aH G id ver) (c:gG o e (ae G)=nN (ae G) (aF A))
  (h:hU k G A ys=ak (v,m)) (b:∀{x},hU k K A ys=ak x->eO o e K=ak x):Loc o e G v m K:=by
 unfold hU at h;split at h
 .rename_i y;split at h<;>simp at h<;>(obtain ⟨rfl,rfl⟩:=h;exact .same rfl (b (by unfold hU;rw[W0 y])))
 .rename_i y;cases A with
  | nil =>
   simp only at h;split at h<;>simp at h;rename_i l;obtain ⟨rfl,rfl⟩:=h;exact .alloc ⟨k,0,ys⟩ (fun n => .sl k n 0 0 (ae ys)) (by rw[c];simp[aF,nN]) (fun _ _=>rfl) rfl rfl (b (by unfold hU;rw[WX y];simp only;rw[W0 l]))
  | seq s f q =>
   cases f with
   | false=>simp at h
   | true =>
    simp only at h;split at h<;>simp at h;rename_i l;obtain ⟨rfl,rfl⟩:=h;exact .alloc ⟨k,0,q++ys⟩ (fun n => .sl k n 0 0 (ae q+ae ys)) (by rw[c];simp[aF,nN]) (fun _ _=>rfl) rfl rfl (b (by unfold hU;rw[WX y];simp only;rw[W0 l]))
  | sl s id ver i n =>
   simp only at h;have ⟨p,z,h⟩:=W5.1 h;have hk:=r id (by simp[aF]) ver;rw[z] at hk;split at h
   .rename_i g;split at h<;>simp at h;rename_i j;obtain ⟨rfl,rfl⟩:=h;exact .rU id p _ (by rw[c];simp[aF,nN]) (ct z).1 (ct hk).1 rfl (b (by unfold hU;rw[WX y];simp only[hk,Xr];rw[W0 g,W0 j]))
   .rename_i g;split at h<;>simp at h;rename_i j;obtain ⟨rfl,rfl⟩:=h;exact .rU id p _ (by rw[c];simp[aF,nN]) (ct z).1 (ct hk).1 rfl (b (by unfold hU;rw[WX y];simp only[hk,Xr];rw[WX g,W0 j,XC]))
  | _=>simp at h
def xV {e:Env} {G K:aE} {v:AV} {J:aE} {o:AOp} (h:eO o e G=ak (v,J)) (s:∀id,id∈gT o e->∀ver,aH K id ver=aH G id ver):Loc o e G v J K:=by
 unfold eO at h;split at h
 .rename_i u M;simp at h;obtain ⟨rfl,rfl⟩:=h;exact .same rfl (by simp[eO,M])
 .rename_i M;have r:∀{x},hv o e K=ak x->eO o e K=ak x:=fun {x} b=>by simp[eO,M,b]
  cases o with
  | new k z =>
   simp only[hv] at h;split at h<;>simp at h;rename_i q;obtain ⟨rfl,rfl⟩:=h;exact .alloc ⟨k,0,[z]⟩ (fun n => .ptr n 0 0 0) (by simp[gG]) (fun _ _=>rfl) rfl rfl (r (by simp only[hv];rw[W0 q]))
  | nz x =>
   simp only[hv] at h;split at h<;>simp at h;rename_i q;obtain ⟨rfl,rfl⟩:=h;exact .alloc ⟨(x.ev e).cells.length,0,[(x.ev e).cells]⟩ (fun n => .ptr n 0 0 0) (by simp[gG]) (fun _ _=>rfl) rfl rfl (r (by simp only[hv];rw[W0 q]))
  | qe k ps =>
   simp only[hv] at h;split at h<;>simp at h;rename_i q;obtain ⟨rfl,rfl⟩:=h;exact .alloc ⟨k,0,ps.map fun p=>(p.ev e).cells⟩ (fun n => .sl k n 0 0 (ae ps)) (by simp[gG]) (fun _ _=>rfl) rfl rfl (r (by simp only[hv];rw[W0 q]))
  | mk k z l c =>
   simp only[hv] at h;split at h
   .rename_i n m h1 h2;split at h<;>simp at h;rename_i q;obtain ⟨rfl,rfl⟩:=h;exact .alloc ⟨k,0,aA n.toNat z⟩ (fun j => .sl k j 0 0 n.toNat) (by simp[gG]) (fun _ _=>rfl) rfl rfl (r (by simp only[hv,h1,h2];rw[W0 q]))
   .simp at h
  | ld x ag k =>
   simp only[hv] at h;split at h
   .rename_i cs o' b;obtain ⟨u,O,C⟩:=Xi.1 h;simp at C;obtain ⟨rfl,rfl⟩:=C;exact .same rfl (r (by simp only[hv,b,O];rfl))
   .rename_i id ver i o' b;obtain ⟨X,g,h⟩:=W5.1 h;have ⟨y,D,h⟩:=W5.1 h;have ⟨u,O,C⟩:=Xi.1 h;simp at C;obtain ⟨rfl,rfl⟩:=C;have:=s id (by simp[gT,b,aF]) ver;exact .same rfl (r (by simp only[hv,b,this,g,Xr,D,O];rfl))
   .simp at h
  | st x y k =>
   simp only[hv] at h;split at h
   .rename_i id ver i o' b;obtain ⟨X,g,h⟩:=W5.1 h;have ⟨z,hz,h⟩:=W5.1 h;split at h<;>simp at h;rename_i q;obtain ⟨rfl,rfl⟩:=h;have hk:=s id (by simp[gT,b,aF]) ver;rw[g] at hk;exact .rU id X _ (by simp[gG,b,aF]) (ct g).1 (ct hk).1 rfl (r (by simp only[hv,b,hk,Xr,hz];rw[W0 q]))
   .simp at h
  | nj x lo hi mx k =>
   cases mx with
   | some m=>simp[hv] at h
   | none =>
    simp only[hv] at h;split at h
    .rename_i T id ver i n b;obtain ⟨X,g,h⟩:=W5.1 h;have hk:=s id (by simp[gT,b,aF]) ver;rw[g] at hk;have hG:J=G:=by
      split at h
      .have ⟨h',_,h⟩:=W5.1 h;have ⟨l',_,h⟩:=W5.1 h;simp at h;exact h.2.symm
      .simp at h
     refine .same hG (r ?_);simp only[hv,b,hk,Xr];split at h
     .rename_i L;rw[W0 L];have ⟨h',g1,h⟩:=W5.1 h;have ⟨l',g2,h⟩:=W5.1 h;simp at h;rw[g1];simp only[Xr];rw[g2];simp[h.1]
     .simp at h
    .simp at h
  | q9 x z =>
   simp only[hv] at h;split at h
   .rename_i b;simp at h;obtain ⟨rfl,rfl⟩:=h;exact .same rfl (r (by simp only[hv,b]))
   .rename_i T id ver i n b;obtain ⟨X,g,h⟩:=W5.1 h;split at h<;>simp at h;rename_i q;obtain ⟨rfl,rfl⟩:=h;have hk:=s id (by simp[gT,b,aF]) ver;rw[g] at hk;exact .rU id X _ (by simp[gG,b,aF]) (ct g).1 (ct hk).1 rfl (r (by simp only[hv,b,hk,Xr];rw[W0 q,XC]))
   .simp at h
  | app x y k =>
   simp only[hv] at h;have ⟨U,S,h⟩:=W5.1 h;have F:ik k K (y.ev e)=ak U:=by
    rw[<-S];generalize D:y.ev e=A;cases A<;>first | rfl | skip
    .rename_i v0;cases v0<;>first | rfl | (rename_i m cap;cases m<;>rfl)
    rename_i T id ver i n;simp only[ik];rw[s id (by simp[gT,D,aF]) ver]
   exact Gd (x.ev e) U (fun id t ver=>s id (by simp[gT,t]) ver) rfl h fun b=>r (by simp only[hv,F,Xr];exact b)
  | tJ x y k =>
   simp only[hv] at h;split at h
   .rename_i T id ver i n k2 f U b D;obtain ⟨X,g,h⟩:=W5.1 h;split at h<;>simp at h;rename_i q;obtain ⟨rfl,rfl⟩:=h;have hk:=s id (by simp[gT,b,aF]) ver;rw[g] at hk;exact .rU id X _ (by simp[gG,b,aF]) (ct g).1 (ct hk).1 rfl (r (by simp only[hv,b,D,hk,Xr];rw[W0 q,XC]))
   .simp at h
  | mM x n k z =>
   simp only[hv] at h;split at h
   .rename_i m hm;split at h
    .rename_i q;exact Gd (x.ev e) _ (fun id t ver=>s id (by simp[gT,t]) ver) rfl h fun b=>r (by simp only[hv,hm];rw[W0 q];exact b)
    .simp at h
   .simp at h
  | _=>exact nomatch (show (an:Option (AV × aE))=ak (v,J) from h)
def dJ (H:aE) (id:Nat):Option bC:=(H[id]?).join
def Jn {H K:aE} {id:Nat} (h:dJ K id=dJ H id) (ver:Nat):aH K id ver=aH H id ver:=by
 unfold dJ at h;unfold aH;cases z:H[id]? with
 | none =>
  rw[z] at h;cases k:K[id]? with
  | none=>rfl
  | some y=>rw[k] at h;cases y<;>simp at h;rfl
 | some x =>
  rw[z] at h;cases k:K[id]? with
  | none=>rw[k] at h;cases x<;>simp at h;rfl
  | some y=>rw[k] at h;cases x<;>cases y<;>simp_all
def Ai (P:Program) (f:FuncId) (args:List AV) (r:AV):Prop :=
 mL P f/\∀I β H w vs,Sim I β H w->bJ I β args vs->Calls P f vs.toArray w fun e w'=>∃rv I',e = .returned rv/\Ext I β H w I' β H w'/\Sim I' β H w'/\Rel I' β r rv
def mW (P:Program) (f:FuncId) (args:List AV) (v:AV) (a:Nat) (ob ob':bC):Prop :=
 args.flatMap aF=[a]/\mL P f/\∀K,dJ K a=ak ob->bK P f args K v (K.set a (ak ob'))
inductive kA (P:Program) (fl:Prop) (ao:bA) (e:Env) (G:aE) (v:AV) (G':aE) (W R:List Nat):Prop
 | off:dD ao.g e=some false->v = .bI []->G'=G->W=[]->kA P fl ao e G v G' W R
 | call (f:FuncId) (args:List AV):dD ao.g e=some true->dU ao.op e=some (f,args)->Ai P f args v->G'=G->W=[]->kA P fl ao e G v G' W R
 | op:dD ao.g e=some true->dU ao.op e=none->eO ao.op e G=some (v,G')->(G'.drop G.length).all (eI G.length)=true->W=gG ao.op e G.length->R=gT ao.op e->kA P fl ao e G v G' W R
 | loc (f:FuncId) (args:List AV) (a:Nat) (ob ob':bC):dD ao.g e=some true->dU ao.op e=some (f,args)->mW P f args v a ob ob'->dJ G a=some ob->G'=G.set a (some ob')->W=[a]->fl->kA P fl ao e G v G' W R
structure kU (P:Program) (fl:Prop) (aops:List bA) (E:Nat->Env) (G:Nat->aE) (V:Nat->AV) (W R:Nat->List Nat):Prop where
 step:∀(i:Nat) ao,aops[i]?=some ao->kA P fl ao (E i) (G i) (V i) (G (i+1)) (W i) (R i)
 env:∀(i:Nat) ao,aops[i]?=some ao->E (i+1)=dF ao.dst (V i) (E i)
 flat:fl->(G aops.length).length=(G 0).length
structure uu (ed:List (List Nat)) (aops:List bA) (W R:Nat->List Nat):Prop where
 low:dy 0 ed=true
 len:ed.length=aops.length
 oK:∀{i j:Nat} {x y:bA},aops[i]?=some x->aops[j]?=some y->i≠j->gK x y=true->ie (gQ ed []) i j=true
 dn:∀{i j id:Nat},i < aops.length->j < aops.length->i≠j->id∈W i->(id∈W j\/id∈R j)->ie (gQ ed []) i j=true
def kA.other {fl:Prop} {i:bA} {e:Env} {G c:aE} {v:AV} {W R:List Nat} (h:kA P fl i e G v c W R) {id:Nat} (k:id∉W):dJ c id=dJ G id:=by
 cases h with
 | off _ _ h _=>rw[h]
 | call _ _ _ _ _ h _=>rw[h]
 | op s q l p x n =>
  subst x;cases xV (K:=G) l (fun _ _ _=>rfl) with
  | same h _=>rw[h]
  | rU m g b z r _ h _ =>
   rw[h];unfold dJ;rw[XS (fun y=>k (by subst y;exact z))]
  | alloc g f z _ h _ _ =>
   rw[h];unfold dJ;rcases Yt id (ae G) with x | x | x
   .rw[Xc x]
   .subst x;exact absurd z k
   .rw[Xv cE,Xv aD]
 | loc f args a g b _ _ _ _ h j _ =>
  rw[h];unfold dJ;rw[XS (fun y=>k (by subst y;rw[j];simp))]
def kA.len {fl:Prop} {z:bA} {e:Env} {G x:aE} {v:AV} {W R:List Nat} (h:kA P fl z e G v x W R):ae G<=ae x:=by
 cases h with
 | off _ _ h _=>rw[h];exact WY _
 | call _ _ _ _ _ h _=>rw[h];exact WY _
 | op q n c m i j =>
  cases xV (K:=G) c (fun _ _ _=>rfl) with
  | same h _=>rw[h];exact WY _
  | rU g y k b p _ h _=>rw[h,Xa];exact WY _
  | alloc y f b _ h _ _=>rw[h];simp
 | loc f args a y k _ _ _ _ h l _=>rw[h,Xa];exact WY _
def kv (G:Nat->aE) (W:Nat->List Nat) (S:Nat->Bool):Nat->Nat->Option bC
 | 0,id=>dJ (G 0) id
 | k+1,id=>if S k=aq/\id∈W k then dJ (G (k+1)) id else kv G W S k id
def CC (L n:Nat) (G:Nat->aE) (W:Nat->List Nat) (S:Nat->Bool):aE:=(aC L).map (kv G W S n)
section
variable {fl:Prop} {aops:List bA} {E:Nat->Env} {G:Nat->aE} {V:Nat->AV} {W R:Nat->List Nat} {ed:List (List Nat)}
def kU.get (x:kU P fl aops E G V W R) (h:k < ae aops):kA P fl aops[k] (E k) (G k) (V k) (G (k+1)) (W k) (R k):=x.step k _ (W7 h)
def lens (x:kU P fl aops E G V W R):∀{j i:Nat},i<=j->j<=ae aops->ae (G i)<=ae (G j)
 | 0,i,y,_=>by rw[show i=0 by omega];exact WY _
 | j+1,i,y,z=>by
  rcases Xe i (j+1) with h | h
  .exact XX (lens x (show i<=j by omega) (by omega)) (x.get (k:=j) (by omega)).len
  .rw[show i=j+1 by omega];exact WY _
def PL (z:uu ed aops W R) (r:kU P fl aops E G V W R) {S:Nat->Bool} (q:Down ed S) {i:Nat} (n:i < ae aops) (p:S i=ar) (g:Down ed fun j=>S j || j==i) {id:Nat} (x:id∈W i\/id∈R i) :
  ∀k,k<=ae aops->kv G W S k id=dJ (G (min k i)) id:=by
 intro k
 induction k with
 | zero=>intro _;simp[kv]
 | succ k s =>
  intro t;rw[kv,s (by omega)];by_cases y:k < i
  .rw[show min (k+1) i=k+1 by omega,show min k i=k by omega];by_cases c:id∈W k
   .have:=z.dn (show k < ae aops by omega) n (by omega) c x;have b:=ff _ g y this aK;simp only[YJ,X2] at b;rw[W0 ⟨b.resolve_right (by omega),c⟩]
   .rw[WX (fun h=>c h.2),(r.get (k:=k) (by omega)).other c]
  .rw[show min (k+1) i=i by omega,show min k i=i by omega,WX];rintro ⟨l,b⟩;rcases aag (aaW y) with f | f
   .subst f;simp[p] at l
   .have m:=z.dn (show k < ae aops by omega) n (by omega) b x;rw[jO] at m;have:=ff S q f m l;simp[p] at this
def OE (z:kU P fl aops E G V W R) (x:∀i,i < ae aops->S i=aq) (id:Nat):∀k,k<=ae aops->kv G W S k id=dJ (G k) id:=by
 intro k
 induction k with
 | zero=>intro _;rfl
 | succ k b =>
  intro c;rw[kv,b aD];by_cases h:id∈W k
  .rw[W0 ⟨x k aD,h⟩]
  .rw[WX (fun y=>h y.2),(z.get (k:=k) aD).other h]
def OF (b:uu ed aops W R) (l:Down ed S) (m:i < ae aops) (n:S i=ar) (id:Nat):∀k,k<=ae aops ->
  kv G W (fun j=>S j || j==i) k id=if i < k/\id∈W i then dJ (G (i+1)) id else kv G W S k id:=by
 intro k
 induction k with
 | zero=>intro _;simp[kv]
 | succ k p =>
  intro q;rw[kv,p (by omega),kv];by_cases c:k=i
  .subst c;by_cases f:id∈W k
   .simp[f]
   .simp[f]
  .have g:(S k || k==i)=S k:=by simp[c]
   rw[g];by_cases y:S k=aq/\id∈W k
   .rw[W0 y];by_cases x:i < k+1/\id∈W i
    .have z:i < k:=aD;have:=b.dn m (show k < ae aops by omega) (by omega) x.2 (.inl y.2);have:=ff S l z this y.1;simp[n] at this
    .rw[WX x,W0 y]
   .rw[WX y,WX y];by_cases x:i < k/\id∈W i
    .rw[W0 x,W0 ⟨by omega,x.2⟩]
    .rw[WX x,WX (fun h=>x ⟨by omega,h.2⟩)]
def Ng {L n:Nat} {S:Nat->Bool} {id:Nat} (h:id < L):(CC L n G W S)[id]?=ak (kv G W S n id):=by simp[CC,List.getElem?_range h]
def tN:ae (CC L n G W S)=L:=by simp[CC]
def xt {L n:Nat} {S:Nat->Bool} {id:Nat} (h:id < L):dJ (CC L n G W S) id=kv G W S n id:=by unfold dJ;rw[Ng h];rfl
def zH {H:aE} {id:Nat} (h:ae H<=id):dJ H id=an:=by unfold dJ;rw[Xv h];rfl
def Es (y:ae K=ae K') (h:∀id,id < ae K->dJ K id=dJ K' id):K=K':=by apply ZL y;intro id k x;have:=h id k;unfold dJ at this;rw[W7 k,W7 x] at this;simpa using this
def ou {K:aE} {id k:Nat} {o:Option bC} (h:id < ae K):dJ (K.set id o) k=if k=id then o else dJ K k:=by
 unfold dJ;by_cases x:k=id
 .subst x;rw[aak h,W0 rfl];rfl
 .rw[XS (Xg x),WX x]
def NQ (r:uu ed aops W R) (s:kU P fl aops E G V W R) (q:Down ed S) (X:aops[i]?=ak K) (p:S i=ar)
  (l:Down ed fun j=>S j || j==i) (z:∀(j:Nat) x,aops[j]?=ak x->j≠i->x.dst=ak t->ie (gQ ed []) i j=aq) :
  ∀k,k<=ae aops->e8 aops V (E 0) S k t=lk t (E (min k i)):=by
 intro k
 induction k with
 | zero=>intro _;simp[e8]
 | succ k m =>
  intro A;have m:=m aD;have f:aops[k]?=ak (aops[k]'aD):=W7 _;rw[e8,f,Xr,m];by_cases b:k < i
  .rw[show min (k+1) i=k+1 by omega,show min k i=k by omega,s.env k _ f,mz];by_cases y:aops[k].dst=ak t
   .have:=z k _ f aD y;rw[jO] at this;have c:=ff _ l b this aK;simp only[YJ,X2] at c;rw[W0 y,W0 ⟨c.resolve_right (by omega),y⟩]
   .rw[WX y,WX (fun h=>y h.2)]
  .rw[show min (k+1) i=i by omega,show min k i=i by omega,WX];rintro ⟨n,c⟩;rcases aag (aaW b) with g | g
   .subst g;simp[p] at n
   .have:=ff S q g (z k _ f aD c) n;simp[p] at this
def LR (b:kU P fl aops E G V W R) (y:∀i,i < ae aops->S i=aq) (t:Nat):∀k,k<=ae aops->e8 aops V (E 0) S k t=lk t (E k):=by
 intro k
 induction k with
 | zero=>intro _;rfl
 | succ k c =>
  intro f;have x:aops[k]?=ak (aops[k]'aD):=W7 _;rw[e8,x,Xr,c aD,b.env k _ x,mz];by_cases h:aops[k].dst=ak t
  .rw[W0 ⟨y k aD,h⟩,W0 h]
  .rw[WX (fun z=>h z.2),WX h]
def LS (g:uu ed aops W R) (p:Down ed S) (c:aops[i]?=ak z) (q:S i=ar) (t:Nat):∀k,k<=ae aops ->
  e8 aops V (E 0) (fun j=>S j || j==i) k t=if i < k/\z.dst=ak t then V i else e8 aops V (E 0) S k t:=by
 intro k
 induction k with
 | zero=>intro _;simp[e8]
 | succ k r =>
  intro s;have b:aops[k]?=ak (aops[k]'aD):=W7 _;rw[e8,b,Xr,r aD,e8,b,Xr];by_cases l:k=i
  .subst l;rw[b] at c;cases c;by_cases m:aops[k].dst=ak t
   .simp[m]
   .simp[m]
  .have n:(S k || k==i)=S k:=by simp[l]
   rw[n];by_cases y:S k=aq/\aops[k].dst=ak t
   .rw[W0 y];by_cases x:i < k+1/\z.dst=ak t
    .have f:i < k:=aD;have:gK z aops[k]=aq:=by simp[gK,x.2,y.2]
     have:=g.oK c b aD this;have:=ff S p f this y.1;simp[q] at this
    .rw[WX x,W0 y]
   .rw[WX y,WX y];by_cases x:i < k/\z.dst=ak t
    .rw[W0 x,W0 ⟨aD,x.2⟩]
    .rw[WX x,WX (fun h=>x ⟨aD,h.2⟩)]
end
def I9 (h:ck n x=aq) (hm:n<=m):ck m x=aq:=by cases x<;>simp_all [ck]<;>omega
structure Dx (K K':aE) (W:List Nat) (G':aE):Prop where
 len:K'.length=K.length
 Gg:∀id,id < K.length->dJ K' id=if id∈W then dJ G' id else dJ K id
def Dx.eq {K y z:aE} {W:List Nat} {x:aE} (k:Dx K y W x) (b:Dx K z W x):y=z :=
 Es (by rw[k.len,b.len]) fun id h=>by rw[k.len] at h;rw[k.Gg id h,b.Gg id h]
def JR {fl:Prop} {ops:Array Oper} {i:Nat} {rest:List Nat} (b8:ops[i]?=ak o) {ao:bA} (h:gj P N ops o ao=aq) {K K':aE} {E0:Env} {G G':aE} {W R:List Nat} {n0:Nat} (hs:kA P fl ao E0 G v G' W R)
  (s:bH dl N I β e K a w) (l:cW ao.op.cK E0 e) (h2:cW (nJ ao.g) E0 e) (hK:∀id,id∈W\/id∈R->dJ K id=dJ G id) (m:∀id ver,n0<=id->dJ K id=an->β id ver=an) (c0:n0<=ae G) (a8:ae G'<=ae K) (b7:fl->ae K=n0) (U:Dx K K' W G')
  {Q:Exit->Act->World->Prop}
  (F:∀a' X O w',Ext I β K w X O K' w'->bH dl N X O (dF ao.dst v e) K' a' w'->(∀id ver,n0<=id->dJ K' id=an->O id ver=an)->wpOpsIn (FR fo) 0 P ops Q rest a' w'):wpOpsIn (FR fo) 0 P ops Q (i::rest) a w:=by
 have hw:dD ao.g E0=dD ao.g e:=by
  cases C:ao.g with
  | none=>rfl
  | some x=>simp only[dD];rw[h2 x.1 (by simp[nJ,C])]
 obtain ⟨hd,A,_⟩:=im h;simp only[wpOpsIn,b8];have same:G'=G->K'=K:=fun C=>by
  refine U.eq ⟨rfl,fun id b=>?_⟩;by_cases hm:id∈W
  .rw[W0 hm,C,hK id (.inl hm)]
  .rw[WX hm]
 cases hs with
 | off j hv C hW =>
  subst hv;rw[same C] at F;rw[hw] at j;rw[WX (by rw[eB h s j];simp)];rw[hd];exact ⟨fun _ _=>trivial,F _ I β w (.refl _ _ _ _) (s.put (.refl _ _ _ _) s.bm (fun t ht=>A t (hd ▸ ht)) yK) m⟩
 | call f args j z hA C hW =>
  rw[same C] at F;rw[hw] at j;rw[W0 (eB h s j)];rw[q8 l] at z;refine iV h s z hA.1 (fun vs hr=>hA.2 I β K w vs s.bm hr) ?_;rintro en w' ⟨rv,X,rfl,D,S,k⟩;exact ⟨rv,rfl,F _ X β w' D (hd ▸ s.put D S A k) m⟩
 | loc f args a0 ob a7 j z hA T C hW hf =>
  rw[hw] at j;rw[W0 (eB h s j)];rw[q8 l] at z;have a1:dJ K a0=ak ob:=by rw[hK _ (.inl (by rw[hW];simp))];exact T
  have b9:a0 < ae K:=by
   unfold dJ at a1;rcases Xe a0 (ae K) with l | l
   .exact l
   .rw[Xv l] at a1;simp at a1
  have a5:a0 < ae G:=by
   unfold dJ at T;rcases Xe a0 (ae G) with l | l
   .exact l
   .rw[Xv l] at T;simp at T
  have e:K'=K.set a0 (ak a7):=by
   refine U.eq ⟨by rw[Xa],fun id b=>?_⟩;rw[ou b9,C,ou a5,hW];by_cases n:id=a0
   .subst n;simp
   .rw[WX n,WX (by simpa using n)]
  rw[e] at F;refine iV h s z hA.2.1 (fun vs hr=>(hA.2.2 K a1).2 I β w vs s.bm hr) ?_;rintro en w' ⟨rv,X,O,rfl,D,S,k⟩;exact ⟨rv,rfl,F _ X O w' D (hd ▸ s.put D S A k) fun id ver b _=>S.px (by rw[Xa,b7 hf];exact b)⟩
 | op j z c1 a3 hW hR =>
  rw[hw] at j;rw[W0 (eB h s j)];cases xV (K:=K) c1 (fun id b ver=>Jn (hK id (.inr (by rw[hR];exact b))) ver) with
  | same C q =>
   rw[same C] at F;rw[ph l] at q;refine jJ h s q fun rv X O w' D S k hk=>F _ X O w' D (hd ▸ s.put D S A k) fun id ver b c=>?_;rw[hk id ver rfl];exact m id ver b c
  | rU b4 ob a7 hm C hk L q =>
   rw[ph l] at q;have hl:=(W9.1 hk).1;have a5:=(W9.1 C).1;have e:K'=K.set b4 (ak a7):=by
    refine U.eq ⟨by rw[Xa],fun id b=>?_⟩;rw[ou hl,L,ou a5];by_cases n:id=b4
    .subst n;rw[W0 rfl,W0 (by rw[hW];exact hm),W0 rfl]
    .rw[WX n,WX n];by_cases r:id∈W
     .rw[W0 r,hK id (.inl r)]
     .rw[WX r]
   rw[e] at F;refine jJ h s q fun rv X O w' D S k a2=>F _ X O w' D (hd ▸ s.put D S A k) fun id ver b c=>?_;rw[ou hl] at c;split at c
   .simp at c
   .rename_i n;rw[a2 id ver (XS (Xg n))];exact m id ver b c
  | alloc ob f hm hf L hv q =>
   rw[ph l] at q;have J:ae G < ae K:=by rw[L] at a8;simp at a8;omega
   have b3:ae G∈W:=hW ▸ hm;have p:dJ K (ae G)=an:=hK _ (.inl b3) ▸ zH (WY _);have b5:K[ae G]?=ak an:=by unfold dJ at p;rw[W7 J] at p ⊢;simpa using p
   have e:K'=K.set (ae G) (ak ob):=by
    refine U.eq ⟨by rw[Xa],fun id b=>?_⟩;rw[ou J,L];have b6:dJ (G++[ak ob]) id=if id=ae G then ak ob else dJ G id:=by
     unfold dJ;rcases Yt id (ae G) with l | l | l
     .rw[Xc l,WX aD]
     .subst l;simp
     .rw[Xv cE,Xv aD,WX aD]
    rw[b6];by_cases n:id=ae G
    .subst n;rw[W0 rfl,W0 b3,W0 rfl]
    .rw[WX n,WX n];by_cases r:id∈W
     .rw[W0 r,hK id (.inl r)]
     .rw[WX r]
   have a9:=fun ver=>m _ ver c0 p;have a4:ob.xs.all (fun x=>x.all (ck (ae K)))=aq:=by rw[L] at a3;simp[eI] at a3;simp only[W6];intro x hx y hy;exact I9 (a3 x hx y hy) aD
   rw[e] at F;refine jJ h s q fun rv X O w' D S k a2=>?_;have M:∀id ver,id≠ae K->O id ver=β id ver:=fun id ver c3=>by
    rcases Xe id (ae K) with l | l
    .exact a2 id ver (Xc l)
    .exact a2 id ver (by rw[Xv cE,Xv aD])
   have ⟨c2,s2,x2,b1,b2⟩:=LJ s.bm D S b5 a9 M a4;have a6:Rel X c2 v rv:=by
    have hr:=k.Ih (ρ:=fun id=>if id=ae K then ae G else id) (β:=c2) (fun id ver B hb=>by
     by_cases n:id=ae K
     .subst n;simp only[Yj];rw[b1];exact hb
     .simp only[WX n];rw[M _ _ n] at hb;by_cases b0:id=ae G
      .subst b0;rw[a9] at hb;simp at hb
      .rw[b2 _ _ b0];exact hb);rw[hf] at hr;simp only[Yj] at hr;rw[hv];exact hr
   refine F _ X c2 w' x2 (hd ▸ s.put x2 s2 A a6) fun id ver b c=>?_;rw[ou J] at c;split at c
   .simp at c
   .rename_i n;rw[b2 _ _ n];exact m id ver b c
def Lg {fl:Prop} {ops:Array Oper} {aops:List bA} (hc:ea P N ops ops.toList aops=aq) {E:Nat->Env} {G:Nat->aE} {V:Nat->AV} {W R:Nat->List Nat} (O:uu (ops.toList.map bn) aops W R) (ht:kU P fl aops E G V W R) {Q:Exit->Act->World->Prop} :
  ∀(fuel t:Nat) (y:Array Bool) (e:Env) (K:aE) (I:Imm) (β:Bet) (a:Act) (w:World),y.size=ops.size->ae ((aC ops.size).filter fun i => !y.getD i aq)<=fuel->Down (ops.toList.map bn) (fun i=>y.getD i ar) ->
   (∀s,lk s e=e8 aops V (E 0) (fun i=>y.getD i ar) (ae aops) s)->K=CC (ae (G (ae aops))) (ae aops) G W (fun i=>y.getD i ar)->bH dl N I β e K a w->(∀id ver,ae (G 0)<=id->dJ K id=an->β id ver=an) ->
   (∀a' w',Out dl N I β K w (E (ae aops)) (G (ae aops)) a' w'->Q .normal a' w')->wpOpsIn (FR fo) 0 P ops Q (Region.linearise.go .any ops fuel t y []) a w:=by
 have ⟨b2,b1⟩:=eh hc;have c2:ops.size=ae aops:=bk b2;have fin:∀(y:Array Bool) (e:Env) (K:aE) (I:Imm) (β:Bet) (a:Act) (w:World),(∀i,i < ae aops->y.getD i ar=aq)->(∀s,lk s e=e8 aops V (E 0) (fun i=>y.getD i ar) (ae aops) s) ->
   K=CC (ae (G (ae aops))) (ae aops) G W (fun i=>y.getD i ar)->bH dl N I β e K a w->Out dl N I β K w (E (ae aops)) (G (ae aops)) a w:=by
  intro y e K I β a w b he hH s;have a7:K=G (ae aops):=by rw[hH];refine Es (by rw[tN]) fun id A=>?_;rw[tN] at A;rw[xt A,OE ht b id _ (WY _)]
  refine ⟨I,β,a7 ▸ .refl _ _ _ _,⟨by have:=s.bm;rw[a7] at this;exact this,s.size,fun t=>?_,s.mu⟩⟩;have:=s.env t;rw[he,LR ht b t _ (WY _)] at this;exact this
 intro fuel
 induction fuel with
 | zero =>
  intro t y e K I β a w b7 a9 z he hH s a1 hq;have b:∀i,i < ae aops->y.getD i ar=aq:=by
   intro i hi;cases hl:y.getD i ar with
   | true=>rfl
   | false =>
    have:i∈(aC ops.size).filter fun i => !y.getD i aq:=by
     simp only[XR,X5];refine ⟨aD,?_⟩;have:y.getD i aq=y.getD i ar:=by simp[W8,show i < y.size by omega]
     rw[this,hl];rfl
    have:=aal this;omega
  simp only[Region.linearise.go,aaB,wpOpsIn];exact hq a w (fin y e K I β a w b he hH s)
 | succ fuel ih =>
  intro t y e K I β a w b7 a9 z he hH s a1 hq;have a3:∀i,i < ae aops->y.getD i aq=y.getD i ar:=by intro i hi;simp[W8,show i < y.size by omega]
  simp only[Region.linearise.go];split
  .rename_i i a6;rw[iI];have a0:=XJ a6;simp only[XR,X5,WZ,Yd] at a0;have ⟨C,c,n⟩:=a0;have D:i < ae aops:=aD;have F:=Xp C;have T:=W7 D;rw[a3 i D] at c;rw[F] at n;simp only[XL,XT] at n;have a2:∀j,j∈bn ops[i]->y.getD j ar=aq:=by intro j M;simp only[bn,Xf,XR] at M;obtain ⟨ed,⟨h1,h2⟩,rfl⟩:=M;have:=YA.1 n ed (bk h1);simpa[h2] using this
   have b8:(ops.toList.map bn)[i]?=ak (bn ops[i]):=by simp[F]
   have b5:∀j,(y.setIfInBounds i aq).getD j ar=(y.getD j ar || j==i):=by
    intro j;simp only[W8,Xl];by_cases h:i=j
    .subst h;simp[show i < y.size by omega]
    .rw[WX h];simp[show ¬j=i from fun h'=>h h'.symm]
   have S:=funext b5;have f:Down (ops.toList.map bn) (fun j=>y.getD j ar || j==i):=by
    intro j es M b6 k hk;simp only[YJ,X2] at b6 ⊢;rcases b6 with h | h
    .exact .inl (z j es M h k hk)
    .subst h;rw[b8] at M;cases M;exact .inl (a2 k hk)
   have L:∀l:List Nat,(∀s,s∈l->∀(j:Nat) x,aops[j]?=ak x->j≠i->x.dst=ak s->gK x aops[i]=aq)->cW l (E i) e:=by intro l hl s hs;have:=NQ O ht z T c f (t:=s) (fun j x M b4 X=>by have:=O.oK M T b4 (hl s hs j x M b4 X);rw[jO] at this;exact this) (ae aops) (WY _);rw[he,this,ZA (by omega)]
   have h1:cW aops[i].op.cK (E i) e:=L _ fun s hs j x _ _ X=>by simp[gK,X,hs]
   have h2:cW (nJ aops[i].g) (E i) e:=L _ fun s hs j x _ _ X=>by simp[gK,X,hs]
   have b9:gj P N ops ops[i] aops[i]=aq:=b1 i _ _ (by simp[F]) T;have U:ae K=ae (G (ae aops)):=by rw[hH,tN]
   have a8:∀id,id∈W i\/id∈R i->dJ K id=dJ (G i) id:=by
    intro id A;rcases Xe id (ae (G (ae aops))) with a4 | c1
    .rw[hH,xt a4,PL O ht z D c f A _ (WY _),ZA (by omega)]
    .rw[zH (by omega),zH (XX (lens ht (show i<=ae aops by omega) (WY _)) c1)]
   refine JR (K':=CC (ae (G (ae aops))) (ae aops) G W (fun j=>y.getD j ar || j==i)) (n0:=ae (G 0)) F b9 (ht.step i _ T) s h1 h2 a8 a1 (lens ht (XE i) aD) (U ▸ lens ht aD (WY _)) (fun hf=>U ▸ ht.flat hf)
    ⟨by rw[tN,U],fun id A=>?_⟩ fun a' I' c8 w' x' s' a5=>?_
   .rw[U] at A;rw[xt A,OF O z D c id _ (WY _),hH,xt A];simp[D]
   refine ih (t / _) (y.setIfInBounds i aq) (dF aops[i].dst (V i) e) _ I' c8 a' w' (bk b7) ?_ (S ▸ f) ?_ (by rw[S]) s' a5 (fun c6 c7 ho=>hq _ _ (ho.step x'))
   .have:=filter_lt (p:=fun j => !y.getD j aq) (q:=fun j => !(y.setIfInBounds i aq).getD j aq) (i:=i) (l:=aC ops.size) (fun x hx=>by
     simp only[W8,Xl] at hx ⊢;by_cases h:i=x
     .subst h;simp[show i < y.size by omega] at hx
     .rw[WX h] at hx;exact hx) (by rw[a3 i D,c];rfl) (by simp[W8,show i < y.size by omega]) (bk C);omega
   .intro s';rw[S,LS O z T c s' (ae aops) (WY _),mz];by_cases hd:aops[i].dst=ak s'
    .rw[W0 hd,W0 ⟨D,hd⟩]
    .rw[WX hd,WX (fun h=>hd h.2),he]
  .rename_i J;have b0:((aC ops.size).filter fun i => !y.getD i aq&&((ops[i]?).map (·.after.all fun e => !Region.binds .any e || y.getD e.on ar)).getD ar)=[]:=by
    cases c3:((aC ops.size).filter fun i => !y.getD i aq&&((ops[i]?).map (·.after.all fun e => !Region.binds .any e || y.getD e.on ar)).getD ar) with
    | nil=>rfl
    | cons x r =>
     rw[c3] at J;have:t % ae (x::r) < ae (x::r):=aaz _ aK;rw[W7 this] at J;simp at J
   have b:∀i,i < ae aops->y.getD i ar=aq:=by
    intro i
    induction i using Nat.strongRecOn with
    | _ i c5 =>
     intro hi;cases hl:y.getD i ar with
     | true=>rfl
     | false =>
      exfalso;have C:i < ops.size:=aD;have F:=Xp C;have b3:∀j,j∈bn ops[i]->j < i:=by
       have gen:∀(l:List (List Nat)) (k:Nat),dy k l=aq->∀(m:Nat) es,l[m]?=ak es->∀j,j∈es->j < k+m:=by
        intro l
        induction l with
        | nil=>intro k _ m es h;simp at h
        | cons x r c4 =>
         intro k hk m es h j M;simp only[dy,WZ] at hk;cases m with
         | zero=>simp at h;subst h;have:=W6.1 hk.1 j M;simpa using this
         | succ m=>have:=c4 (k+1) hk.2 m es (bk h) j M;omega
       intro j M;have:=gen _ 0 O.low i (bn ops[i]) (by simp[F]) j M;omega
      have:i∈((aC ops.size).filter fun i => !y.getD i aq&&((ops[i]?).map (·.after.all fun e => !Region.binds .any e || y.getD e.on ar)).getD ar):=by
       simp only[XR,X5,WZ,Yd];refine ⟨C,a3 i hi ▸ hl,?_⟩;rw[F];simp only[XL,XT];refine YA.2 fun ed c0=>?_;cases hb:Region.binds .any ed with
       | false=>rfl
       | true =>
        have hm:ed.on∈bn ops[i]:=by simp only[bn,Xf,XR];exact ⟨ed,⟨bk c0,hb⟩,rfl⟩
        have a4:=b3 _ hm;simp[c5 _ a4 aD]
      rw[b0] at this;simp at this
   simp only[aaB,wpOpsIn];exact hq a w (fin y e K I β a w b he hH s)
end
end Go.Fx
