/- ProductMakes returns true whatever its arguments are: part 2 of 14. No condition. -/
import Derived.Test.YtkpkkhepecgeiaaGreatAa
import Derived.RangeFuncRecord
set_option linter.all false
set_option maxRecDepth 8000
set_option maxHeartbeats 9000000
set_option autoImplicit true
set_option relaxedAutoImplicit true
namespace Go.Fx
open List renaming length->ae,getD->af,replicate->aA,eraseIdx->aB,range->aC
open Inhabited renaming default->ah
open Option renaming some->ak,none->an
open Bool renaming true->aq,false->ar
open Go.IntKind renaming wrap->au
open Int renaming natAbs->ay,toNat->az
section
variable {P:Program} {dl:List Deferred} {fo:Option Nat} {N:Nat} {I:Imm} {β:Bet} {e:Env} {H H':aF} {a:Act} {w:World} {o:Oper} {v:AV}
def sR (I:Imm) (β:Bet) (w:World) (b off:Nat) (cs:List AV):Prop:=∀(j:Nat) a,cs[j]?=ak a->∃v,w.cell? ⟨b,off+j,an⟩=ak v/\Rel I β a v
def wR {t:TypeId} (m:jF P t=ak ag) (K:eX P t=ak k) (r:sR I β w b off cs) (h:gC ag cs z k=ak v) :
  ∃rv,(loadVar t ⟨b,off+z,an⟩).run P w = .ok rv w/\Rel I β v rv:=by
 unfold gC at h;split at h
 .rename_i x;subst x;split at h<;>simp at h;rename_i X;subst h;let f:=(aC k).map fun j=>(w.cell? ⟨b,off+z+j,an⟩).getD undef;have p:∀j,j < k->∃v,w.cell? ⟨b,off+z+j,an⟩=ak v/\Rel I β (cs.getD (z+j) .ba) v/\f[j]?=ak v:=by
   intro j n;have s:cs[z+j]?=ak (cs.getD (z+j) .ba):=by simp[af,show z+j < ae cs by omega]
   have ⟨v,x,i⟩:=r (z+j) _ s;rw[<-ajf] at x;exact ⟨v,x,i,by simp[f,n,x]⟩
  have c:ae f=k:=by simp[f]
  have y:=LP (P:=P) (w:=w) (b:=b) (o:=off+z) f (fun j v e=>by have n:j < k:=c ▸ (aid.1 e).1;have ⟨W,x,_,l⟩:=p j n;rw[l] at e;cases e;exact x);rw[c] at y;refine ⟨.agg f.toArray,by simp[loadVar,tQ m,run_sizeOf K,y],.agg bW (fun j a v g q=>?_)⟩;rw[aj7] at g;split at g
  .rename_i n;have ⟨W,x,i,l⟩:=p j n;rw[l] at q;cases q;rw[ajS] at g;have:cs.getD (z+j) .ba=a:=by simp[af,g]
   rw[<-this];exact i
  .simp at g
 .rename_i x;simp at x;subst x;have ⟨rv,i,l⟩:=r z v h;exact ⟨rv,by simp[loadVar,tQ m,i],l⟩
def dF {id ver:Nat} {ob:bz} (h:aI H id ver=ak ob):H[id]?=ak (ak ob)/\ob.ver=ver:=by
 unfold aI at h;split at h
 .rename_i x k;split at h<;>simp at h;subst h;exact ⟨k,‹_›⟩
 .simp at h
def Sim.row (s:Sim I β H w) {id ver:Nat} {ob:bz} (h:aI H id ver=ak ob) {B:Blk} (t:β id ver=ak B) (K:B.gL=ar) {i:Nat} {x:List AV} (f:ob.xs[i]?=ak x) :
  sR I β w B.b (B.off+i*B.k) x:=by
 obtain ⟨r,rfl⟩:=dF h;obtain ⟨W,g,F,y⟩:=s.obj id ob r;rw[t] at g;cases g;unfold eL at y;rw[ah0 (by simp[K])] at y;have ⟨c,E,n,A,C,D,p,q⟩:=y;intro j a l;have hi:=(aid.1 f).1;have X:=p x (aiX f);have G:=(aid.1 l).1;have z:B.off+i*B.k+j < c.size:=by have:(i+1)*B.k<=B.cap*B.k:=ai7 _ aD;rw[aiW] at this;omega
 have m:=aiN z;exact ⟨_,Ki n m,q i j a _ (by simp[dL,f,l]) m⟩
def Sb (s:Sim I β H w) {cs:List AV} {b off:Nat} {vs:Nat->Value} (h:∀j a,cs[j]?=ak a->I b (off+j)=ak (vs j)) (k:∀j a,cs[j]?=ak a->Rel I iO a (vs j)) :
  sR I β w b off cs:=fun j a e=>⟨_,s.fP.cell (h j a e),(k j a e).mono (.refl _) (Sz _)⟩
def YU (h:bV P o.op (.ld x ag k)=aq) (s:cE dl N I β e H a w) (hv:hv (.ld x ag k) e H=ak (v,H')):Post I β H w v H' ((execOp a.eval o).run P w):=by
 cases i:o.op<;>simp only[i,bV,ah5,ah2,ajt] at h;rename_i t D;have ⟨⟨y,m⟩,n⟩:=h;have r1:=s.x n;simp only[Fx.hv] at hv;generalize x.ev e=A at *;split at hv
 .have ⟨u,l,z⟩:=aiD.1 hv;simp at z;obtain ⟨rfl,rfl⟩:=z;have ⟨b,off,C,c,_,p,q⟩:=r1.I8;have ⟨rv,f,g⟩:=wR y m (Sb s.bG p q) l;exact .same s.bG g (by simp[execOp,i,c,Instr.loadAt,Instr.sureAddr,f])
 .have ⟨W,j,hv⟩:=ah7.1 hv;have ⟨E,X,hv⟩:=ah7.1 hv;have ⟨u,l,z⟩:=aiD.1 hv;simp at z;obtain ⟨rfl,rfl⟩:=z;have ⟨B,r,K,c⟩:=r1.yO;have ⟨rv,f,g⟩:=wR y m (s.bG.row j r K X) l;exact .same s.bG g (by simp[execOp,i,c,Instr.loadAt,Instr.sureAddr,f])
 .simp at hv
def aa5 (h:bV P o.op (.Fz x ag k)=aq) (s:cE dl N I β e H a w) (hv:pv (.Fz x ag k) e=ak v):Post I β H w v H ((execOp a.eval o).run P w):=by
 refine YU (x:=x) (ag:=ag) (k:=k) ?_ s ?_
 .cases y:o.op<;>simp only[y,bV,ah5] at h ⊢;exact h
 .simp only[pv] at hv;simp only[Fx.hv];split at hv
  .rename_i b c z;simp only[z,hv];rfl
  .simp at hv
def Vq (h:bV P o.op g=aq) (s:cE dl N I β e H a w) (hv:pv g e=ak v):Post I β H w v H ((execOp a.eval o).run P w):=by
 cases g with
 | mv x=>simp[pv] at hv;subst hv;exact ada h s
 | pick c x y=>exact ZI h s hv
 | box x=>exact aaZ h s hv
 | bd z m=>exact ac1 h s hv
 | bs k m=>exact ac2 h s hv
 | nc x=>exact ade h s hv
 | bin op x y=>exact aaY h s hv
 | beq n x y=>exact aaX h s hv
 | un op x=>exact adf h s hv
 | cv k x=>exact ac3 h s hv
 | mf f x y=>simp[pv] at hv;subst hv;exact ac8 h s
 | Ju k z l=>exact aa7 h s hv
 | rX x r p mx k=>exact aa8 h s hv
 | fa x j=>exact ac5 h s hv
 | fd x j b k=>exact ac6 h s hv
 | Fy x i k=>exact aa2 h s hv
 | Lk x i n k=>exact aa3 h s hv
 | ix x i n k b=>exact ac7 h s hv
 | ex x i=>exact ac4 h s hv
 | len x=>exact aa6 h s hv
 | mx l=>exact adb h s hv
 | mn l=>exact ac9 h s hv
 | gm n x=>exact aa1 h s hv
 | IN n q x y=>exact aa0 h s hv
 | Jc t x=>exact aa4 h s hv
 | Fz x b k=>exact aa5 h s hv
 | _=>simp[pv] at hv
def yL {x:Bet} {o:Option bz} (h:∀id ver,id≠ae H->x id ver=β id ver):∀(id ver:Nat),(H++[o])[id]?=H[id]?->x id ver=β id ver:=by intro id ver y;refine h id ver fun k=>?_;subst k;simp at y
def FC (s:Sim I β H w) (l:w'.heap=w.heap.push (.cells c E)) (W:w'.os=w.os) (C:w'.tape=w.tape) (A:w'.output=w.output)
  (B:cG I β xs.flatten vs) (X:∀(j:Nat) v,vs[j]?=ak v->c[j]?=ak v)
  (z:∀x,x∈xs->ae x=k/\x.all bB=aq) (y:ae xs<=cap) (n:cap*k<=c.size) :
  ∃f,Sim I f (H++[ak ⟨k,0,xs⟩]) w'/\Ext I β H w I f (H++[ak ⟨k,0,xs⟩]) w'/\f (ae H) 0=ak ⟨w.heap.size,0,cap,k,ar⟩/\∀id ver,id≠ae H->f id ver=β id ver:=by have m:=xJ (s.wY (ver:=0) (ahZ (ae H))) ⟨w.heap.size,0,cap,k,ar⟩;have:=s.live (w':=w') ⟨k,0,xs⟩ ⟨w.heap.size,0,cap,k,ar⟩ rfl rfl (by simp[l]) (fun b K=>l ▸ qE _ _ K) W C A (fun _=>ahZ _) (by unfold eL;simp only[ah5,ajO];refine ⟨c,E,by rw[l];simp,fun o=>s.fP.FE (ahZ _) o,bu n,y,z,?_⟩;intro i j a v p g;have q:=j7 (fun x D=>(z x D).1) p;have ⟨F,r,t⟩:=B.get q;have:=X _ _ r;simp only[aia] at g;rw[this] at g;cases g;exact t.mono (.refl _) m);exact ⟨_,this.1,this.2,by simp[fV],fun id ver h=>by simp[fV,h]⟩
def Du (s:Sim I β H w) (g:cG I β xs.flatten vs) (f:∀(j:Nat) v,vs[j]?=ak v->c[j]?=ak v)
  (b:∀x,x∈xs->ae x=k/\x.all bB=aq) (h:ae xs<=cap) (z:cap*k<=c.size) :
  ∃y,Sim I y (H++[ak ⟨k,0,xs⟩]) (World.mi w c E)/\Ext I β H w I y (H++[ak ⟨k,0,xs⟩]) (World.mi w c E)/\y (ae H) 0=ak ⟨w.heap.size,0,cap,k,ar⟩/\∀id ver,id≠ae H->y id ver=β id ver :=
 FC s rfl rfl rfl rfl g f b h z
def aaF (h:bV P o.op (.new k z)=aq) (s:cE dl N I β e H a w) (hv:hv (.new k z) e H=ak (v,H')):Post I β H w v H' ((execOp a.eval o).run P w):=by
 cases f:o.op<;>simp only[f,bV,ah5,ah2,ajt] at h;rename_i t;have ⟨l,r⟩:=h;simp only[Fx.hv] at hv;split at hv<;>simp at hv;rename_i g;obtain ⟨rfl,rfl⟩:=hv;have ⟨zv,y,_,x⟩:=Af (w:=w) l;have m:zv.cells.size=k:=by have:=(x I β).1;simp at this;omega
 have ⟨K,p,q,n,b⟩:=Du (E:=t) (c:=zv.cells) (xs:=[z]) (vs:=zv.cells.toList) (k:=k) (cap:=1) s.bG (bu (x I β)) (fun j v e=>bu e) (bu g) aO aD;refine ⟨.value (.pointer (ak ⟨w.heap.size,0,an⟩)),_,_,_,?_,q,p,?_,yL b⟩
 .simp[execOp,f,Instr.alloc,y,newVar,newRow,World.mi]
 .have:=Rel.ptr (I:=I) (i:=0) (o:=0) n rfl;simpa[yo] using this
def YT (h:bV P o.op (.ug x)=aq) (s:cE dl N I β e H a w) (hv:hv (.ug x) e H=ak (v,H')):Post I β H w v H' ((execOp a.eval o).run P w):=by
 cases f:o.op<;>simp only[f,bV,ah5] at h;rename_i E y;simp only[Fx.hv] at hv;split at hv<;>simp at hv;rename_i b;obtain ⟨rfl,rfl⟩:=hv;have g:=(s.x h).cellsOf (uo b rfl);have ⟨p,m,n,l,z⟩:=Du (E:=E) (c:=(a.eval y).cells) (xs:=[(x.ev e).cells]) (vs:=(a.eval y).cells.toList) (k:=(x.ev e).cells.length) (cap:=1) s.bG (bu g) (fun j v e=>bu e)
  (bu b) aO (by have:=g.1;simp at this;omega);refine ⟨.value (.pointer (ak ⟨w.heap.size,0,an⟩)),_,_,_,?_,n,m,?_,yL z⟩
 .simp[execOp,f,Instr.box,newVar,newRow,World.mi]
 .have:=Rel.ptr (I:=I) (i:=0) (o:=0) l rfl;simpa[yo] using this
def aaC (h:bV P o.op (.yf k b)=aq) (s:cE dl N I β e H a w) (hv:hv (.yf k b) e H=ak (v,H')):Post I β H w v H' ((execOp a.eval o).run P w):=by
 cases B:o.op<;>simp only[B,bV,ah5,ah2,ajt,aiU] at h;rename_i t len parts;obtain ⟨⟨⟨p,rfl⟩,D⟩,r⟩:=h;have ⟨E,C,p⟩:=gg p;simp only[Fx.hv] at hv;split at hv<;>simp at hv;rename_i f;obtain ⟨rfl,rfl⟩:=hv;have y:=fun q g=>ah4.1 f q g;simp only[ah2,ajt] at y;have ⟨c,l,z⟩:=Cz s C p D r (fun q g=>(y q g).2) (fun q g=>uo (y q g).1 rfl);have m:∀x,x∈(b.map fun q=>(q.ev e).cells)->ae x=k/\x.all bB=aq:=by intro x X;obtain ⟨q,A,rfl⟩:=aiw.1 X;exact ⟨(y q A).2,(y q A).1⟩
 have K:=eA (fun x X=>(m x X).1);have ⟨L,G,J,F,W⟩:=Du (E:=E) (c:=c) (xs:=b.map fun q=>(q.ev e).cells) (vs:=c.toList) (k:=k) (cap:=ae b) s.bG z (fun j v e=>bu e) m aO
  (by have:=z.1;rw[K] at this;simp at this;omega);refine ⟨.value (.slice (ak ⟨w.heap.size,0,an⟩) (ae b) (ae b)),_,_,_,by simp[execOp,B,l],J,G,?_,yL W⟩;have:=Rel.sl (I:=I) (i:=0) (n:=ae b) F rfl aO;simpa[yo] using this
def acA (h:bV P o.op (.mk k z l c)=aq) (s:cE dl N I β e H a w) (hv:hv (.mk k z l c) e H=ak (v,H')):Post I β H w v H' ((execOp a.eval o).run P w):=by
 cases L:o.op<;>simp only[L,bV,ah5,ah2] at h;rename_i t l' c';have ⟨⟨g,R⟩,S⟩:=h;have ⟨E,T,g⟩:=gg g;simp only[ah2] at g;have r1:=s.x R;have r2:=s.x S;simp only[Fx.hv] at hv;generalize l.ev e=A at *;generalize c.ev e=B at *;split at hv
 .split at hv<;>simp at hv;rename_i n m U;have ⟨C,D,F,X,f⟩:=U;obtain ⟨rfl,rfl⟩:=hv;have M:=r1.eG.1;have O:=r2.eG.1;have ⟨W,q,b⟩:=run_makeSlice (w:=w) T g.1 g.2 C D F;have K:∀x,x∈(aA n.toNat z)->ae x=k/\x.all bB=aq:=by intro x r;rw[ai1 r];exact ⟨X,f⟩
  have V:W.size=m.toNat*k:=by have:=(b I β).1;rw[eA (k:=k) (fun x r=>by rw[ai1 r];exact X)] at this;simp at this;omega
  have y:(aA m.toNat z).flatten=(aA n.toNat z).flatten++(aA (m.toNat - n.toNat) z).flatten:=by rw[<-alr,List.replicate_append_replicate];congr 2;omega
  have p:=eA (fun x r=>(K x r).1);have G:cG I β (aA n.toNat z).flatten (W.toList.take (n.toNat*k)):=by have:=(b I β).take (n.toNat*k);rw[y,ajU (by rw[p];simp),aiv (by rw[p];simp)] at this;exact this
  have ⟨a1,s',x',a0,J⟩:=Du (E:=E) (c:=W) (xs:=aA n.toNat z) (vs:=W.toList.take (n.toNat*k)) (k:=k) (cap:=m.toNat) s.bG G (fun j v e=>by rw[aj7] at e;split at e<;>simp at e;simpa using e) K bW aD;refine ⟨.value (.slice (ak ⟨w.heap.size,0,an⟩) n.toNat m.toNat),_,_,_,by simp[execOp,L,M,O,q],x',s',?_,yL J⟩;have:=Rel.sl (I:=I) (i:=0) (n:=n.toNat) a0 rfl bW;simpa[yo] using this
 .simp at hv
def HW {k:Nat}:∀{xs:List (List AV)} (_:∀x,x∈xs->ae x=k) {m:Nat} {a:AV},xs.flatten[m]?=ak a->∃i j,dL xs i j=ak a/\m=i*k+j
 | [],_,m,a,e=>by simp at e
 | x::r,h,m,a,e=>by
  have g:=h x aO;rw[akz] at e;rcases aij m (ae x) with z | z
  .rw[aic z] at e;exact ⟨0,m,by simpa[dL] using e,aD⟩
  .rw[aiC z] at e;have ⟨i,j,b,f⟩:=HW (xs:=r) (fun y c=>h y (by simp[c])) e;exact ⟨i+1,j,by simpa[dL] using b,by rw[aiW];omega⟩
def jR (I:Imm) (β:Bet) (c:Array Value) (off:Nat) (F:List AV):Prop:=∀(m:Nat) a v,F[m]?=ak a->c[off+m]?=ak v->Rel I β a v
def eL.flat (h:eL I β w B ob) (s:B.k=ob.k) (t:B.gL=ar):∃c E,w.heap[B.b]?=ak (.cells c E (0,0))/\(∀o,I B.b o=an)/\B.off+B.cap*B.k<=c.size/\ae ob.xs<=B.cap /\
  (∀x,x∈ob.xs->ae x=ob.k/\x.all bB=aq)/\jR I β c B.off ob.xs.flatten:=by unfold eL at h;rw[ah0 (by simp[t])] at h;have ⟨c,E,g,l,n,p,y,q⟩:=h;refine ⟨c,E,g,l,n,p,y,fun m a v z f=>?_⟩;obtain ⟨i,j,r,rfl⟩:=HW (fun x K=>(y x K).1) z;exact q i j a v r (by rw[s,<-ajf] at *;exact f)
def eL.SC {E:TypeId} (p:B.k=ob.k) (q:B.gL=ar) (f:w.heap[B.b]?=ak (.cells c E (0,0))) (g:∀o,I B.b o=an) (l:B.off+B.cap*B.k<=c.size) (m:ae ob.xs<=B.cap)
  (h:∀x,x∈ob.xs->ae x=ob.k/\x.all bB=aq) (n:jR I β c B.off ob.xs.flatten):eL I β w B ob:=by unfold eL;rw[ah0 (by simp[q])];refine ⟨c,E,f,g,l,m,h,fun i j a v y z=>?_⟩;exact n _ a v (j7 (fun x r=>(h x r).1) y) (by rw[<-p,<-ajf];exact z)
def jR.mono (h:jR I β c off F) (z:I.le k) (b:β.le f):jR k f c off F :=
 fun m a v x y=>(h m a v x y).mono z b
def SY (h:q+ae cs<=ae F):ae (gD F q cs)=ae F:=by simp[gD];omega
def jR.put (h:jR I β c off F) (z:cG I β cs vs) (i:q+ae cs<=ae F) (y:off+q+ae vs<=c.size):jR I β (db c (off+q) vs) off (gD F q cs):=by
 intro m a v k x;have g:=z.1;rw[Ik _ _ _ y] at x;simp only[gD] at k;by_cases b:m < q
 .rw[ah0 (by omega)] at x;rw[aic (by simp;omega),aic (by simp;omega),List.getElem?_take_of_lt b] at k;exact h m a v k x
 .by_cases f:m < q+ae cs
  .rw[ah1 aD] at x;rw[aic bW,aiC bW] at k;simp only[aiG] at k;rw[show m - min q (ae F)=m - q by omega] at k;rw[show off+m - (off+q)=m - q by omega] at x;exact z.2 _ a v k x
  .rw[ah0 aD] at x;rw[aiC bW,ajS] at k;simp only[ain,aiG] at k;rw[show q+ae cs+(m - (min q (ae F)+ae cs))=m by omega] at k;exact h m a v k x
def jR.snoc (h:jR I β c off F) (z:cG I β cs vs) (y:off+ae F+ae vs<=c.size):jR I β (db c (off+ae F) vs) off (F++cs):=by
 intro m a v k x;have f:=z.1;rw[Ik _ _ _ y] at x;by_cases b:m < ae F
 .rw[ah0 aD] at x;rw[aic b] at k;exact h m a v k x
 .rw[aiC aD] at k;have hm:=(aid.1 k).1;rw[ah1 (by omega),show off+m - (off+ae F)=m - ae F by omega] at x;exact z.2 _ a v k x
def jR.drop (h:jR I β c off F):jR I β c (off+q) (F.drop q):=by intro m a v k x;rw[ajS] at k;exact h (q+m) a v k (by rw[<-ajf];exact x)
def UL {xs:List (List AV)} {k i b:Nat} {x cs:List AV} (h:∀y,y∈xs->ae y=k) (c:xs[i]?=ak x) (m:b+ae cs<=k):(xs.set i (gD x b cs)).flatten=gD xs.flatten (i*k+b) cs:=by
 induction xs generalizing i with
 | nil=>simp at c
 | cons y r g =>
  have n:=h y aO;cases i with
  | zero =>
   simp at c;subst c;simp only[akt,akz,gD,ano,aia];rw[ajU (by omega),ak6,show b+ae cs - ae y=0 by omega];simp
  | succ i =>
   simp at c;simp only[List.set_cons_succ,akz];rw[g (fun z f=>h z (by simp[f])) c];simp only[gD];have j:y.take (ae y+(i*k+b))=y:=aiv aD;have l:y.drop (ae y+(i*k+b)+ae cs)=[]:=ak8 aD;rw[show (i+1)*k+b=ae y+(i*k+b) by rw[aiW];omega,amQ,ak6,j,l,ak2,show ae y+(i*k+b)+ae cs - ae y=i*k+b+ae cs by omega];simp
def K8 {xs:List (List AV)} {k:Nat} (h:∀y,y∈xs->ae y=k) (n:Nat):(xs.take n).flatten=xs.flatten.take (n*k):=by
 induction xs generalizing n with
 | nil=>simp
 | cons y r b =>
  cases n with
  | zero=>simp
  | succ n =>
   simp only[List.take_succ_cons,akz];have c:y.take ((n+1)*k)=y:=aiv (by rw[h y aO,aiW];omega);rw[b (fun z x=>h z (by simp[x])),amQ,h y aO,show (n+1)*k - k=n*k by rw[aiW];omega,c]
def Fe {xs:List (List AV)} {k:Nat} (h:∀y,y∈xs->ae y=k) (n:Nat):(xs.drop n).flatten=xs.flatten.drop (n*k):=by
 induction xs generalizing n with
 | nil=>simp
 | cons y r b =>
  cases n with
  | zero=>simp
  | succ n =>
   simp only[ak4,akz];have c:y.drop ((n+1)*k)=[]:=ak8 (by rw[h y aO,aiW];omega);rw[b (fun z x=>h z (by simp[x])),ak6,h y aO,show (n+1)*k - k=n*k by rw[aiW];omega,c];simp
def BB {xs ys:List (List AV)} {k n:Nat} (h:∀y,y∈xs->ae y=k) (x:∀y,y∈ys->ae y=k):(xs.take n++ys++xs.drop (n+ae ys)).flatten=gD xs.flatten (n*k) ys.flatten:=by rw[alr,alr,K8 h,Fe h,gD,eA x,aiW]
def uI (s:Sim I β H w) {id:Nat} {ob:bz} {B:Blk} (i:H[id]?=ak (ak ob)) (r:β id ob.ver=ak B) (l:B.gL=ar) {c:Array Value} {E:TypeId} (W:w.heap[B.b]?=ak (.cells c E (0,0)))
  (y:bz) (z:Blk) (f:Bet) (C:f=β/\y.ver=ob.ver/\z=B\/f=fV β id (ob.ver+1) z/\y.ver=ob.ver+1) (j:z.b=B.b) (m:z.gL=ar) (t:z.k=y.k) {q:Nat} {vs:List Value}
  (n:z.off+z.cap*z.k<=c.size) (g:ae y.xs<=z.cap) (p:∀x,x∈y.xs->ae x=y.k/\x.all bB=aq) (A:jR I f (db c q vs) z.off y.xs.flatten) :
  Sim I f (H.set id (ak y)) (jX w B.b (db c q vs) E)/\Ext I β H w I f (H.set id (ak y)) (jX w B.b (db c q vs) E):=by
 refine s.An i r y z f C t (by simp[jX]) (fun b X h=>?_) rfl rfl rfl (fun _ => .inl ⟨l,j⟩) ?_
 .rw[DT,ah0];rintro ⟨K,_⟩;rcases h with h | h
  .simp[l] at h
  .exact h K
 .refine eL.SC t m (c:=db c q vs) (E:=E) ?_ ?_ (by rw[SH];exact n) g p A
  .rw[j,DT,ah1 ⟨rfl,km W⟩]
  .intro o;rw[j];exact Own.Q6 s ⟨id,ob,B,i,r,l,rfl⟩ o
def L3 (h:l.all p=aq) (y:cs.all p=aq):(gD l q cs).all p=aq:=by
 simp only[gD,ajk,ah2];refine ⟨⟨?_,y⟩,?_⟩<;>rw[ah4] at h ⊢<;>intro x k
 .exact h x (ajP k)
 .exact h x (aju k)
def acB (h:bV P o.op (.st x y k)=aq) (s:cE dl N I β e H a w) (hv:hv (.st x y k) e H=ak (v,H')):Post I β H w v H' ((execOp a.eval o).run P w):=by
 cases ho:o.op<;>simp only[ho,bV,ah5,ah2,ajt] at h;rename_i t U m;have ⟨⟨hk,h1⟩,h2⟩:=h;have r1:=s.x h1;have r2:=s.x h2;simp only[Fx.hv] at hv;generalize x.ev e=A at *;split at hv
 .rename_i id ver i l;have ⟨g,a1,hv⟩:=ah7.1 hv;have ⟨xx,J,hv⟩:=ah7.1 hv;split at hv<;>simp at hv;rename_i hb;have ⟨n,a5,f⟩:=hb;obtain ⟨rfl,rfl⟩:=hv;have ⟨B,hB,hn,e1⟩:=r1.yO;obtain ⟨W,rfl⟩:=dF a1;have ⟨B',g1,R,g3⟩:=s.bG.obj id g W;rw[hB] at g1;cases g1;have ⟨c,E,M,f2,f3,f4,O,f6⟩:=g3.flat R hn;have T:=r2.cellsOf (uo (p:=bB) f rfl);have L:=O xx (aiX J);have hi:=(aid.1 J).1;have F:(a.eval m).cells.toList.length=k:=by rw[<-T.1];exact n
  have C:(i+1)*B.k<=B.cap*B.k:=ai7 _ aD;rw[aiW] at C;have a4:B.off+(i*B.k+l)+(a.eval m).cells.toList.length<=c.size:=by rw[F];omega
  have V:=eA (fun x J=>(O x J).1);have r:(i+1)*g.k<=ae g.xs*g.k:=ai7 _ aD;rw[aiW] at r;have D:=f6.put (q:=i*g.k+l) T (by rw[V,n];omega) (by rw[<-R];exact a4);obtain ⟨s',U⟩:=uI s.bG W hB hn M ⟨g.k,g.ver,g.xs.set i (gD xx l (y.ev e).cells)⟩ B β (.inl ⟨rfl,rfl,rfl⟩) rfl hn R (q:=B.off+(i*g.k+l)) (vs:=(a.eval m).cells.toList) f3 (by simpa using f4) (by
    intro z hz;rcases ai4 hz with h | h
    .exact O z h
    .subst h;exact ⟨by rw[SY aD];exact L.1,L3 L.2 f⟩) (by
    rw[UL (fun y hy=>(O y hy).1) J aD];exact D);refine ⟨.skip,if (a.eval m).cells.toList.isEmpty then w else jX w B.b (db c (B.off+(i*g.k+l)) (a.eval m).cells.toList) E,I,β,?_,?_⟩
  .have a3:=uQ (P:=P) (b:=B.b) (E:=E) (a.eval m).cells.toList w c (B.off+i*B.k+l) 0 M (fun v hv=>by
    have ⟨j,S⟩:=akF.1 hv;have a0:j < (y.ev e).cells.length:=by rw[T.1];exact (aid.1 S).1
    have K:=ah6 a0;exact (T.2 j _ v K S).Cm (fX f K)) aD;have G:(a.eval m).cells.size=k:=bu F;simp only[execOp,ho,Instr.storeAt,Instr.sureAddr,e1,storeVar,Sem.run_bind,run_sizeOf hk,Result.andThen_ok,Sem.run_pure,G,aly,not_true_eq_false,ajO,a3];rw[show B.off+i*B.k+l+0=B.off+(i*g.k+l) by rw[R];omega]
  .cases X:(a.eval m).cells.toList.isEmpty with
   | false=>simp only[ah5,ajO];exact ⟨U,s',.ba,aO⟩
   | true =>
    have h0:(a.eval m).cells.toList=[]:=bu X;have a2:jX w B.b (db c (B.off+(i*g.k+l)) []) E=w:=by
     simp only[db,jX];have:w.heap.setIfInBounds B.b (Obj.cells c E (0,0))=w.heap:=by
      apply alU;intro j;rw[aiH];split
      .rename_i S;subst S;rw[M];simp[km M]
      .rfl
     rw[this]
    rw[h0,a2] at s' U;simp only[ajs];exact ⟨U,s',.ba,aO⟩
 .simp at hv
def PS (l:sR I β w b off cs):∃vs:List Value,(∀w',w'.heap=w.heap->(loadCells ⟨b,off,an⟩ (ae cs)).run P w' = .ok vs.toArray w')/\cG I β cs vs:=by
 let vs:=(aC (ae cs)).map fun j=>(w.cell? ⟨b,off+j,an⟩).getD undef;have x:∀(j:Nat) a,cs[j]?=ak a->∃v,w.cell? ⟨b,off+j,an⟩=ak v/\Rel I β a v/\vs[j]?=ak v:=by intro j a g;have ⟨v,k,y⟩:=l j a g;have c:=(aid.1 g).1;exact ⟨v,k,y,by simp[vs,c,k]⟩
 have h:ae vs=ae cs:=by simp[vs]
 refine ⟨vs,?_,h.symm,fun j a v i f=>?_⟩
 .intro w' m;rw[<-h];refine LP vs (fun j v e=>?_);have c:j < ae cs:=h ▸ (aid.1 e).1;have ⟨n,k,_,z⟩:=x j _ (ah6 c);rw[z] at e;cases e;rw[<-k];simp[World.cell?,m]
 .have ⟨n,k,y,z⟩:=x j a i;rw[z] at f;cases f;exact y
def sR.drop (h:sR I β w b off cs):sR I β w b (off+q) (cs.drop q):=by intro j a e;rw[ajS] at e;have ⟨v,k,x⟩:=h _ a e;exact ⟨v,by rw[ajf];exact k,x⟩
def sR.take (h:sR I β w b off cs):sR I β w b off (cs.take q):=by
 intro j a e;rw[aj7] at e;split at e
 .exact h j a e
 .simp at e
def jR.row {b:Nat} {c:Array Value} {E:TypeId} {x:Nat × Nat} {off:Nat} {F:List AV} (h:jR I β c off F) (y:w.heap[b]?=ak (.cells c E x)) (z:off+ae F<=c.size):sR I β w b off F:=by intro j a e;have f:j < ae F:=(aid.1 e).1;have k:c[off+j]?=ak c[off+j]:=aiN aD;exact ⟨_,Ki y k,h j a _ e k⟩
def Bo (s:Sim I β H w) {k:Nat} {y:AV} {ys:List (List AV)} {rv:Value} (h:dW k H y=ak ys) (M:Rel I β y rv):∃p cap,rv = .slice p (ae ys) cap/\ae ys<=cap/\(∀x,x∈ys->ae x=k/\x.all bB=aq) /\
  ∃vs:List Value,(∀w',w'.heap=w.heap->(Builtin.firstCells k (ae ys) rv).run P w' = .ok vs.toArray w')/\cG I β ys.flatten vs:=by
 cases y with
 | nil =>
  simp[dW] at h;subst h;rw[M.nZ];exact ⟨an,0,rfl,aO,aO,[],fun _ _=>rfl,.nil _ _⟩
 | seq k' f xs =>
  simp only[dW] at h;split at h<;>simp at h;rename_i r;subst r;subst h;obtain ⟨p,cap,rfl,_,t,h5⟩:=M.pG;by_cases C:xs=[]
  .subst C;refine ⟨p,cap,rfl,aO,aO,[],fun _ _=>?_,.nil _ _⟩;cases p<;>simp[Builtin.firstCells,loadCells,loadCellsFrom]
  .obtain ⟨b,off,vs,rfl,r,hI,hR⟩:=h5 C;have g:sR I β w b off xs.flatten:=by intro m a e;obtain ⟨i,j,J,rfl⟩:=HW (fun x z=>(r x z).1) e;exact ⟨_,by rw[<-ajf];exact s.fP.cell (hI i j a J),(hR i j a J).mono (.refl _) (Sz _)⟩
   have ⟨us,W,S⟩:=PS (P:=P) g;rw[eA (fun x z=>(r x z).1)] at W;exact ⟨_,cap,rfl,t,r,us,W,S⟩
 | sl k' id ver i n =>
  simp only[dW] at h;have ⟨K,a0,R⟩:=ah7.1 h;split at R<;>simp at R;rename_i hb;subst R;obtain ⟨rfl,r,t⟩:=hb;obtain ⟨B,p,hB,rfl,rfl,a1,hp⟩:=M.pz;obtain ⟨U,rfl⟩:=dF a0;have ⟨B',g1,g2,F⟩:=s.obj id K U;rw[hB] at g1;cases g1;have A:ae ((K.xs.drop i).take n)=n:=bW;by_cases L:B.gL=aq
  .have G:K.xs=[]/\B.cap=0:=by unfold eL at F;rw[ah1 L] at F;exact F
   have V:n=0:=by have:=G.1;simp[this] at t;omega
   subst V;refine ⟨p,B.cap - i,aO,aO,aO,[],fun _ _=>?_,bu (cG.nil I β)⟩;cases p<;>simp[Builtin.firstCells,loadCells,loadCellsFrom]
  .have L:B.gL=ar:=bu L;have ⟨c,E,f1,f2,f3,f4,O,f6⟩:=F.flat g2 L;have X:∀x,x∈(K.xs.drop i).take n->ae x=B.k/\x.all bB=aq:=by intro x z;have:=O x (aju (ajP z));rw[r] at this;exact this
   by_cases G:n=0
   .subst G;refine ⟨p,B.cap - i,aO,aO,aO,[],fun _ _=>?_,bu (cG.nil I β)⟩;cases p<;>simp[Builtin.firstCells,loadCells,loadCellsFrom]
   .rcases hp with ⟨_,rfl⟩ | ⟨J,_⟩
    .have T:=eA (fun x z=>(O x z).1);have g:=f6.row f1 (by rw[T,<-g2];have:ae K.xs*B.k<=B.cap*B.k:=ai7 _ f4;omega);have l:=(g.drop (q:=i*B.k)).take (q:=n*B.k);have D:∀x,x∈K.xs->ae x=B.k:=fun x z=>by rw[(O x z).1,r]
     rw[<-Fe D,<-K8 (fun x z=>D x (aju z))] at l;have ⟨us,W,S⟩:=PS (P:=P) l;rw[eA (fun x z=>(X x z).1)] at W;exact ⟨_,_,by rw[A],aD,X,us,W,S⟩
    .exact absurd J G
 | c v =>
  cases v with
  | slice a n cap =>
   cases n with
   | zero =>
    simp[dW] at h;subst h;rw[M.eG.1];refine ⟨_,_,rfl,aO,aO,[],fun _ _=>?_,.nil _ _⟩;cases a<;>simp[Builtin.firstCells,loadCells,loadCellsFrom]
   | succ n=>simp[dW] at h
  | _=>simp[dW] at h
 | _=>simp[dW] at h
def Lf (vX:Nat):∀(r c:Nat),c<=vX->Builtin.growBy vX r c<=vX+(vX+768) / 4
 | 0,c,h=>by unfold Builtin.growBy;omega
 | r+1,c,h=>by
  unfold Builtin.growBy;split
  .omega
  .by_cases k:c+(c+768) / 4<=vX
   .exact Lf vX r _ k
   .cases r with
    | zero=>unfold Builtin.growBy;omega
    | succ r=>unfold Builtin.growBy;rw[ah1 aD];omega
def nextslicecap_le (h:cap < vX):Builtin.nextslicecap vX cap<=2*vX+192:=by
 unfold Builtin.nextslicecap;split
 .omega
 .split
  .omega
  .have:=Lf vX 4 cap aD;omega
def MD {c:Call} {x y:Opd} (s:cE dl N I β e H a w) (h:mm c.args.toList [x,y]=aq):∃f g,c.args.map a.eval=#[f,g]/\Rel I β (x.ev e) f/\Rel I β (y.ev e) g:=by
 have z:=iR s.env h;have b:=z.1
 match k:c.args.toList.map a.eval with
 | [p,q] =>
  rw[k] at z;exact ⟨p,q,by apply akP;simp[k],z.head,z.tail.head⟩
 | []=>simp[k] at b
 | [_]=>simp[k] at b
 | _::_::_::_=>simp[k] at b
def run_append_room (K:nJ P c 0=ak E) (z:(nJ P c 1).isSome=aq) (X:eX P E=ak k)
  (f:c.args.map a.eval=#[.slice p n cap,s]) (g:s = .slice q m D) (r:(Builtin.firstCells k m s).run P w = .ok vs.toArray w) (h:n+m<=cap)
  (j:∀b,p=ak b->(storeCells (b.add (n*k)) vs).run P w = .ok () w') (A:p=an->w'=w) (B:TypeId) :
  (Builtin.append_ c.argTypes B #[.slice p n cap,s]).run P w = .ok (.slice p (n+m) cap) w':=by
 have ⟨t,W,i⟩:=ah7.1 K;have ⟨C,y⟩:=ako.1 z;have ⟨F,l,x⟩:=ah7.1 y;subst g;simp only[Builtin.append_,W,l,alf,ak3,aku,Sem.run_bind,run_underlying (eD i),run_underlying (eD x),Result.andThen_ok,run_sizeOf X,Sem.run_pure,Builtin.lenOf,ah5,ajO,aja,ajs];rw[ah1 h];simp only[Sem.run_bind,r,Result.andThen_ok];cases p with
 | none=>rw[A rfl];rfl
 | some b=>simp[j b rfl]
def run_append_grow {c:Call} {E k:Nat} {p:Option Addr} {n cap m:Nat} {O:Value} {R vs:List Value} {q:Option Addr} {V:Nat} (hE:nJ P c 0=ak E) (s:(nJ P c 1).isSome=aq) (B:mQ P E k 4096=aq)
  (C:O = .slice q m V) (G:∀w',w'.heap=w.heap->(Builtin.firstCells k n (.slice p n cap)).run P w' = .ok R.toArray w') (J:∀w',w'.heap=w.heap->(Builtin.firstCells k m O).run P w' = .ok vs.toArray w')
  (x:cap < n+m) (S:n+m<=4294967296) (ty:TypeId) :
  ∃nc rest w',(Builtin.append_ c.argTypes ty #[.slice p n cap,O]).run P w = .ok (.slice (ak ⟨w.heap.size,0,an⟩) (n+m) nc) w'/\n+m<=nc/\rest.size=(nc - (n+m))*k /\
   w'.heap=w.heap.push (.cells (R.toArray++vs.toArray++rest) E)/\w'.os=w.os/\w'.tape=w.tape/\w'.output=w.output:=by
 have ⟨hk,a0,⟨nb,W,U,f⟩,zv,M,L⟩:=nT B;have ⟨i,X,z⟩:=aiD.1 W;have ⟨t,ht,D⟩:=ah7.1 hE;have ⟨E',r⟩:=ako.1 s;have ⟨t',F,g⟩:=ah7.1 r;let nc:=(Question.appendCap (n+m) cap E).cut (w.tape w.drawn (.appendCap (n+m) cap E));have A:n+m<=nc:=by show n+m<=n+m+_;omega
 refine ⟨nc,Builtin.zeroCells zv.cells (nc - (n+m)),{{w with drawn:=w.drawn+1} with heap:=w.heap.push (.cells (R.toArray++vs.toArray++Builtin.zeroCells zv.cells (nc - (n+m))) E)},?_,A,by simp[Builtin.zeroCells,L],rfl,rfl,rfl,rfl⟩;have j:=G {w with drawn:=w.drawn+1} rfl;have l:=J {w with drawn:=w.drawn+1} rfl;subst C;simp only[Builtin.append_,ht,F,alf,ak3,aku,Sem.run_bind,run_underlying (eD D),run_underlying (eD g),Result.andThen_ok,run_sizeOf hk,Sem.run_pure,Builtin.lenOf,ah5,ajO,aja,ajs];rw[ah0 aD];have b:¬(((n+m:Nat):Int)>IntKind.i64.max):=by have:IntKind.i64.max=9223372036854775807:=aR;rw[this];omega
 have y:=nextslicecap_le x;have T:Builtin.nextslicecap (n+m) cap*nb<=2 ^ 48:=by have h1:=akp y f;omega
 simp only[Sem.run_bind,run_typeInfo X,z,Result.andThen_ok];rw[ah0 (fun h=>b h.1)];simp only[Sem.run_bind,run_typeInfo X,z,Result.andThen_ok];rw[ah0 aD];have K:(choose (.appendCap (n+m) cap E)).run P w = .ok nc {w with drawn:=w.drawn+1}:=by rw[run_choose];rfl
 simp only[Sem.run_bind,K,Result.andThen_ok,run_typeInfo X,run_askRoom,j,l,Bh M,Sem.run_pure,newRow,run_newObj]
def aaG (h:bV P o.op (.rX x lo hi mx k)=aq) (s:cE dl N I β e H a w) (hv:hv (.rX x lo hi mx k) e H=ak (v,H')):Post I β H w v H' ((execOp a.eval o).run P w):=by
 cases ho:o.op<;>simp only[ho,bV,ah5,ah2] at h;rename_i t x' J W L;have ⟨⟨⟨⟨K,h1⟩,h2⟩,h3⟩,R⟩:=h;have ⟨E,hE,K⟩:=gg K;simp at K;have r1:=s.x h1;cases mx with
 | some m=>simp[Fx.hv] at hv
 | none =>
  have D:L=an:=by unfold pV at R;split at R<;>simp_all
  subst D;simp only[Fx.hv] at hv;generalize x.ev e=A at *;cases A with
  | sl k' id ver i n =>
   simp only at hv;have ⟨M,F,f⟩:=ah7.1 hv;split at f
   case isFalse=>simp at f
   rename_i hk;have ⟨g,hh,G⟩:=ah7.1 f;have ⟨b,hl,q⟩:=ah7.1 G;simp at q;obtain ⟨rfl,rfl⟩:=q;subst hk;obtain ⟨B,p,X,rfl,e1,a2,hp⟩:=r1.pz;obtain ⟨C,rfl⟩:=dF F;have ⟨B',O,g2,r⟩:=s.bG.obj id M C;rw[X] at O;cases O;have V:ae M.xs<=B.cap:=by
    unfold eL at r;split at r
    .rw[r.1];simp
    .have ⟨c,E,_,_,_,T,_⟩:=r;exact T
   have a1:=lr hl (aiL _);have a0:g<=B.cap - i:=by
    rcases uf hh with ⟨_,rfl⟩ | ⟨_,_,_,_,_,_,T,rfl⟩
    .omega
    .omega
   have j:=yG (P:=P) (w:=w) s hE K h2 h3 (p:=p) (len:=n) (cap:=B.cap - i) (m:=max (ae M.xs - i) n) (h:=g) (l:=b) (by
    rcases uf hh with ⟨rfl,rfl⟩ | ⟨y,kk,z,rfl,S,h7,h8,rfl⟩
    .rfl
    .simp only[bL,S,intOf?];rw[ah1 ⟨h7,by omega⟩]) aD hl;refine .same (rv := .slice (if B.cap - i=b then p else p.map (·.add (b*B.k))) (g - b) (B.cap - i - b)) s.bG ?_ (by
     have e2:(execOp a.eval o)=(do pure (.value (<-Instr.sliceAt t (a.eval x') (J.map a.eval) (W.map a.eval) an)):Sem Next):=by simp[execOp,ho]
     rw[e2,Sem.run_bind,e1,j];rfl);by_cases U:B.cap - i=b
   .rw[ah1 U,show g - b=0 by omega,show B.cap - i - b=0 by omega];exact .Ai X aD
   .rw[ah0 U];rcases hp with ⟨hn,rfl⟩ | ⟨h5,S⟩
    .have:=Rel.sl (I:=I) (i:=i+b) (n:=g - b) X hn aD;rw[ai3,pA,show B.off+i*B.k+b*B.k=B.off+(i+b)*B.k by rw[aiW];omega,show B.cap - i - b=B.cap - (i+b) by omega];exact this
    .omega
  | _=>simp at hv
def PU {id k:Nat} {ob:bz} {xs:List (List AV)} {B:Blk} (x:H[id]?=ak (ak ob)):∀(i v:Nat),(H.set id (ak ⟨k,ob.ver+1,xs⟩))[i]?=H[i]?->fV β id (ob.ver+1) B i v=β i v:=by
 intro i v h;by_cases y:i=id
 .subst y;rw[alD (aid.1 x).1,x] at h;simp only[akd] at h;have:=akS bz.ver h;simp at this
 .simp[fV,y]
def adl (c:Rel I β x g) (h:(∃k f xs,x = .seq k f xs)\/x = .nil\/∃k id ver i n,x = .sl k id ver i n):∃p n cap,g = .slice p n cap/\n<=cap/\(p=an\/∃b,p=ak b):=by
 rcases h with ⟨k,f,xs,rfl⟩ | rfl | ⟨k,id,ver,i,n,rfl⟩
 .have ⟨p,cap,z,_,y,_⟩:=c.pG;exact ⟨p,_,cap,z,y,by cases p<;>simp⟩
 .exact ⟨an,0,0,c.nZ,aD,.inl rfl⟩
 .have ⟨B,p,_,_,z,y,_⟩:=c.pz;exact ⟨p,n,_,z,aD,by cases p<;>simp⟩
def ME {k:Nat} {A:AV} {ys:List (List AV)} {rx:Value} {vs:List Value} {R:Result Next} (s:cE dl N I β e H a w) (r1:Rel I β A rx) (c3:0 < k) (t:∀x,x∈ys->ae x=k/\x.all bB=aq) (r:cG I β ys.flatten vs)
  (F:∀p n cap w',rx = .slice p n cap->n+ae ys<=cap->(∀b,p=ak b->(storeCells (b.add (n*k)) vs).run P w = .ok () w')->(p=an->w'=w)->R = .ok (.value (.slice p (n+ae ys) cap)) w')
  {E:TypeId} (a6:∀p n cap (D:List Value),rx = .slice p n cap->(∀w',w'.heap=w.heap->(Builtin.firstCells k n (.slice p n cap)).run P w' = .ok D.toArray w')->cap < n+ae ys->n+ae ys<=4294967296 ->
   ∃C rest w',R = .ok (.value (.slice (ak ⟨w.heap.size,0,an⟩) (n+ae ys) C)) w'/\n+ae ys<=C/\rest.size=(C - (n+ae ys))*k/\w'.heap=w.heap.push (.cells (D.toArray++vs.toArray++rest) E)/\w'.os=w.os/\w'.tape=w.tape/\w'.output=w.output)
  (hv:il k H A ys=ak (v,H')):Post I β H w v H' R:=by
 have T:ae vs=ae ys*k:=by rw[<-r.1,eA (fun x K=>(t x K).1)]
 have grow:∀(p:Option Addr) (n cap:Nat) (xs:List (List AV)) (D:List Value),rx = .slice p n cap->n=ae xs->(∀x,x∈xs->ae x=k/\x.all bB=aq)->cG I β xs.flatten D ->
   (∀w',w'.heap=w.heap->(Builtin.firstCells k n (.slice p n cap)).run P w' = .ok D.toArray w')->cap < n+ae ys->n+ae ys<=4294967296 ->
   ∃C rest w',R = .ok (.value (.slice (ak ⟨w.heap.size,0,an⟩) (n+ae ys) C)) w'/\n+ae ys<=C/\w'.heap=w.heap.push (.cells ((D++vs).toArray++rest) E)/\w'.os=w.os/\w'.tape=w.tape/\w'.output=w.output /\
    C*k<=((D++vs).toArray++rest).size/\cG I β (xs++ys).flatten (D++vs)/\(∀x,x∈xs++ys->ae x=k/\x.all bB=aq):=by
  intro p n cap xs D a8 hn a0 U M O z;have ⟨C,rest,w',g1,g2,g3,g4,g5,g6,g7⟩:=a6 p n cap D a8 M O z;have Et:ae D=n*k:=by rw[<-U.1,eA (fun x K=>(a0 x K).1),hn]
  refine ⟨C,rest,w',g1,g2,by rw[g4];simp,g5,g6,g7,?_,alr ▸ U.append r,?_⟩
  .simp only[Array.size_append,List.size_toArray,ain,Et,T,g3];have:C*k=(n+ae ys)*k+(C - (n+ae ys))*k:=by rw[<-aiW];congr 1;omega
   rw[this,aiW];omega
  .intro x K;rcases aiE.1 K with h | h
   .exact a0 x h
   .exact t x h
 have b9:∀(D:List Value) (rest:Array Value) (j:Nat) v,D[j]?=ak v->(D.toArray++rest)[j]?=ak v:=by intro D rest j v e;have hj:=(aid.1 e).1;rw[akv (by simpa using hj)];simpa using e
 unfold il at hv;split at hv
 ·
  rename_i a3;have h0:ys=[]:=bu a3;subst h0;have c5:vs=[]:=by apply aiA;simpa using T
  subst c5;have done:∀p n cap,rx = .slice p n cap->n<=cap->R = .ok (.value rx) w:=by intro p n cap a8 J;have:=F p n cap w a8 (bu J) (fun b hb=>by simp[storeCells]) (fun _=>rfl);rw[a8];simpa using this
  cases A with
  | nil =>
   simp at hv;obtain ⟨rfl,rfl⟩:=hv;exact .same s.bG r1 (done an 0 0 r1.nZ aD)
  | seq k' f xs =>
   simp at hv;obtain ⟨rfl,rfl⟩:=hv;have ⟨p,cap,e1,_,J,_⟩:=r1.pG;exact .same s.bG r1 (done _ _ _ e1 J)
  | sl k' id ver i n =>
   simp at hv;obtain ⟨rfl,rfl⟩:=hv;have ⟨B,p,_,_,e1,J,_⟩:=r1.pz;exact .same s.bG r1 (done _ _ _ e1 aD)
  | _=>simp at hv
 .rename_i a3;have c6:0 < ae ys:=by
   cases ys with
   | nil=>simp at a3
   | cons _ _=>simp
  cases A with
  | nil =>
   simp only at hv;split at hv<;>simp at hv;rename_i z;obtain ⟨rfl,rfl⟩:=hv;have ⟨C,rest,w',g1,g2,g3,g4,g5,g6,g7,g8,g9⟩:=grow an 0 0 [] [] r1.nZ rfl aO (bu (cG.nil I β)) (fun _ _=>rfl) aD aD;have ⟨d6,s',x',d3,b7⟩:=FC s.bG (k:=k) (cap:=C) g3 g4 g5 g6 g8 (b9 _ _) g9 (bu g2) g7;refine ⟨_,w',_,_,g1,bu x',bu s',?_,yL b7⟩;have:=Rel.sl (I:=I) (i:=0) (n:=0+ae ys) d3 rfl (bu g2);simpa[yo] using this
  | seq k' f xs =>
   cases f with
   | false=>simp at hv
   | true =>
    simp only at hv;split at hv<;>simp at hv;rename_i z;obtain ⟨rfl,z⟩:=z;obtain ⟨rfl,rfl⟩:=hv;have ⟨p,cap,e1,hf,_,_⟩:=r1.pG;have b6:dW k' H (.seq k' aq xs)=ak xs:=by simp[dW]
    have ⟨p',c0,e2,_,a0,D,M,U⟩:=Bo (P:=P) s.bG b6 r1;rw[e1] at e2 M;cases e2;have ⟨C,rest,w',g1,g2,g3,g4,g5,g6,g7,g8,g9⟩:=grow p (ae xs) cap xs D e1 rfl a0 U M (by rw[hf rfl];omega) z;have ⟨d6,s',x',d3,b7⟩:=FC s.bG (k:=k') (cap:=C) g3 g4 g5 g6 g8 (b9 _ _) g9 (bu g2) g7;refine ⟨_,w',_,_,g1,x',s',?_,yL b7⟩;have:=Rel.sl (I:=I) (i:=0) (n:=ae xs+ae ys) d3 rfl (bu g2);simpa[yo] using this
  | sl k' id ver i n =>
   simp only at hv;have ⟨g,c4,S⟩:=ah7.1 hv;have ⟨B,p,hB,c1,e1,d4,hp⟩:=r1.pz;have ⟨G,y⟩:=dF c4;have ⟨B',f1,f2,f3⟩:=s.bG.obj id g G;rw[y,hB] at f1;cases f1;rw[<-y] at hB;split at S
   .rename_i a9;have ⟨a7,a9⟩:=a9;split at S<;>simp at S;rename_i z;have ⟨z,W⟩:=z;obtain ⟨rfl,rfl⟩:=S;have X:B.k=k:=by rw[c1,a7]
    by_cases O:n+ae ys<=B.cap - i
    ·
     rcases hp with ⟨hn,rfl⟩ | ⟨h5,h6⟩
     case inr=>omega
     have ⟨c',E',t1,t2,t3,t4,t5,t6⟩:=f3.flat f2 hn;have a2:ae (g.xs.drop i)=n:=bW;have a5:∀x,x∈g.xs->ae x=k:=fun x K=>by rw[(t5 x K).1,W]
     have c2:(g.xs.drop i).flatten.length=n*k:=by rw[eA (fun x K=>a5 x (aju K)),a2]
     have L:(i+n+ae ys)*k<=B.cap*k:=ai7 _ aD;rw[aiW,aiW] at L;rw[X] at t3;have d1:B.off+i*k+n*k+ae vs<=c'.size:=by rw[T];omega
     have J:=xJ (s.bG.ver id g (g.ver+1) G aD) ⟨B.b,B.off+i*k,B.cap - i,k,ar⟩;have d0:jR I (fV β id (g.ver+1) ⟨B.b,B.off+i*k,B.cap - i,k,ar⟩) (db c' (B.off+i*k+n*k) vs) (B.off+i*k) ((g.xs.drop i)++ys).flatten:=by have h1:=t6.drop (q:=i*k);rw[<-Fe a5] at h1;have h2:=h1.snoc r (c2 ▸ d1);rw[c2,<-alr] at h2;exact h2.mono (.refl _) J
     have ⟨s',x'⟩:=uI s.bG G hB hn t1 ⟨k,g.ver+1,g.xs.drop i++ys⟩ ⟨B.b,B.off+i*k,B.cap - i,k,ar⟩ _ (.inr ⟨rfl,rfl⟩) rfl rfl rfl (q:=B.off+i*k+n*k) (vs:=vs)
      (by simp only;rw[Nat.sub_mul];omega) bW (by
       intro x K;rcases aiE.1 K with h | h
       .have:=t5 x (aju h);rw[W] at this;exact this
       .exact t x h) d0;have V:=uQ (P:=P) (b:=B.b) (E:=E') vs w c' (B.off+i*k+n*k) 0 t1 (fun v hv=>by have ⟨j,hj⟩:=akF.1 hv;have b2:=r.1 ▸ (aid.1 hj).1;have a1:=ah6 b2;refine (r.2 j _ v a1 hj).Cm ?_;have ⟨l,b3,b4⟩:=alO.1 (aiX a1);exact ah4.1 (t l b3).2 _ b4) aD;have b5:vs.isEmpty=ar:=by
      cases vs with
      | nil =>
       have:0 < ae ys*k:=Nat.mul_pos c6 c3;simp at T;omega
      | cons _ _=>rfl
     simp only[b5,ah5,ajO,alo] at V;have a4:=F _ _ _ _ e1 O (fun b hb=>by cases hb;rw[pA,X];exact V) (fun h=>by simp at h);refine ⟨_,_,_,_,a4,by rw[<-y];exact x',by rw[<-y];exact s',?_,by rw[<-y];exact PU G⟩;have b8:fV β id (g.ver+1) ⟨B.b,B.off+i*k,B.cap - i,k,ar⟩ id (ver+1)=ak ⟨B.b,B.off+i*k,B.cap - i,k,ar⟩:=by rw[<-y];simp[fV]
     have:=Rel.sl (I:=I) (i:=0) (n:=n+ae ys) b8 rfl bW;simpa[yo,X] using this
    ·
     have b6:dW k H (.sl k' id ver i n)=ak (g.xs.drop i):=by simp only[dW,c4,aix];rw[ah1 ⟨a7,W,aD⟩,aiv bW]
     have ⟨p',c0,e2,_,a0,D,M,U⟩:=Bo (P:=P) s.bG b6 r1;have a2:ae (g.xs.drop i)=n:=bW;rw[e1] at e2 M;rw[a2] at e2 M;cases e2;have ⟨C,rest,w',g1,g2,g3,g4,g5,g6,g7,g8,g9⟩:=grow p n (B.cap - i) (g.xs.drop i) D e1 a2.symm a0 U M aD z;have J:=xJ (s.bG.ver id g (g.ver+1) G aD) ⟨w.heap.size,0,C,k,ar⟩;have ⟨s',x'⟩:=s.bG.An (w':=w') G hB ⟨k,g.ver+1,g.xs.drop i++ys⟩ ⟨w.heap.size,0,C,k,ar⟩ _ (.inr ⟨rfl,rfl⟩) rfl (by simp[g3]) (fun b hb _=>g3 ▸ qE _ _ hb) g4 g5 g6 (fun _ => .inr (ahZ _))
      (eL.SC (c:=(D++vs).toArray++rest) (E:=E) rfl rfl (by rw[g3];simp) (fun o=>s.bG.fP.FE (ahZ _) o) (bu g7) (by simp only[ain,a2];exact g2) g9 (by intro m av v' h1 h2;simp only[aia] at h2;have ⟨d5,h3,h4⟩:=g8.get h1;have:=b9 _ rest _ _ h3;rw[this] at h2;cases h2;exact h4.mono (.refl _) J));refine ⟨_,w',_,_,g1,by rw[<-y];exact x',by rw[<-y];exact s',?_,by rw[<-y];exact PU G⟩;have b8:fV β id (g.ver+1) ⟨w.heap.size,0,C,k,ar⟩ id (ver+1)=ak ⟨w.heap.size,0,C,k,ar⟩:=by rw[<-y];simp[fV]
     have:=Rel.sl (I:=I) (i:=0) (n:=n+ae ys) b8 rfl (by simpa using g2);simpa[yo] using this
   .split at S<;>simp at S;rename_i b1;have ⟨a7,b1,W⟩:=b1;obtain ⟨rfl,rfl⟩:=S;have X:B.k=k:=by rw[c1,a7]
    have c7:ae g.xs<=B.cap:=by
     unfold eL at f3;split at f3
     .rw[f3.1];simp
     .have ⟨c,E,_,_,_,h9,_⟩:=f3;exact h9
    rcases hp with ⟨hn,rfl⟩ | ⟨h5,h6⟩
    case inr=>omega
    have ⟨c',E',t1,t2,t3,t4,t5,t6⟩:=f3.flat f2 hn;have a5:∀x,x∈g.xs->ae x=k:=fun x K=>by rw[(t5 x K).1,W]
    have c8:=eA a5;have d2:=eA (fun x K=>(t x K).1);have L:(i+n+ae ys)*k<=ae g.xs*k:=ai7 _ b1;have c9:ae g.xs*k<=B.cap*k:=ai7 _ c7;rw[aiW] at L;rw[X] at t3;have b0:=t6.put (q:=(i+n)*k) r (by rw[d2,c8];exact L) (by rw[T];omega);rw[<-BB a5 (fun x K=>(t x K).1)] at b0;have ⟨s',x'⟩:=uI s.bG G hB hn t1 ⟨k,g.ver,g.xs.take (i+n)++ys++g.xs.drop (i+n+ae ys)⟩ B β (.inl ⟨rfl,rfl,rfl⟩) rfl hn X (q:=B.off+(i+n)*k) (vs:=vs) (X ▸ t3) bW (by
      intro x K;simp only[aiE] at K;have tt:∀x,x∈g.xs->ae x=k/\x.all bB=aq:=fun x K=>by have:=t5 x K;rw[W] at this;exact this
      rcases K with (h | h) | h
      .exact tt x (ajP h)
      .exact t x h
      .exact tt x (aju h)) b0;have V:=uQ (P:=P) (b:=B.b) (E:=E') vs w c' (B.off+i*k+n*k) 0 t1 (fun v hv=>by have ⟨j,hj⟩:=akF.1 hv;have b2:=r.1 ▸ (aid.1 hj).1;have a1:=ah6 b2;refine (r.2 j _ v a1 hj).Cm ?_;have ⟨l,b3,b4⟩:=alO.1 (aiX a1);exact ah4.1 (t l b3).2 _ b4) (by rw[T];rw[aiW] at L;omega);have b5:vs.isEmpty=ar:=by
     cases vs with
     | nil =>
      have:0 < ae ys*k:=Nat.mul_pos c6 c3;simp at T;omega
     | cons _ _=>rfl
    simp only[b5,ah5,ajO,alo] at V;rw[show B.off+i*k+n*k=B.off+(i+n)*k by rw[aiW];omega] at V;have a4:=F _ _ _ _ e1 aD (fun b hb=>by cases hb;rw[pA,X,show B.off+i*k+n*k=B.off+(i+n)*k by rw[aiW];omega];exact V) (fun h=>by simp at h);simp only[aio] at s' x';refine ⟨_,_,_,_,a4,y ▸ x',y ▸ s',?_,fun _ _ _=>rfl⟩;have:=Rel.sl (I:=I) (i:=i) (n:=n+ae ys) hB hn aD;rw[X,y] at this;rw[X];exact this
  | _=>simp at hv
def aaB (h:bV P o.op (.app x y k)=aq) (s:cE dl N I β e H a w) (hv:hv (.app x y k) e H=ak (v,H')):Post I β H w v H' ((execOp a.eval o).run P w):=by
 cases J:o.op<;>simp only[J,bV,ah5,ah2] at h;rename_i c;have ⟨⟨⟨G,O⟩,j⟩,V⟩:=h;have m:c.callee = .builtin .append:=by unfold kI at G;split at G<;>simp_all
 have ⟨E,F,r⟩:=gg O;have ⟨S,A,_⟩:=nT r;obtain ⟨rx,L,b,r1,r2⟩:=MD s V;simp only[Fx.hv] at hv;have ⟨ys,D,hv⟩:=ah7.1 hv;have ⟨q,cy,K,R,W,vs,X,t⟩:=Bo (P:=P) s.bG D r2;have fin:∀rv w',(Builtin.append_ c.argTypes o.type #[rx,L]).run P w = .ok rv w'->(execOp a.eval o).run P w = .ok (.value rv) w':=by intro rv w' T;simp[execOp,J,resolve,m,b,invoke,builtin,T]
 refine ME (P:=P) (E:=E) s r1 A W t (fun p n cap w' i z B U=>?_) (fun p n cap us i C z l=>?_) hv
 .have f:c.args.map a.eval=#[.slice p n cap,L]:=by rw[b,i]
  exact fin _ _ (i ▸ run_append_room F j S f K (X w rfl) z B U o.type)
 .have ⟨nc,rest,w',M,g⟩:=run_append_grow F j r K C X z l o.type;exact ⟨nc,rest,w',fin _ _ (i ▸ M),g⟩
def VA (hE:nJ P c 0=ak E) (L:mg (c.argTypes[1]?) (fun t=>Fw P t .i64)=aq) (U:mQ P E k 4096=aq) (hz:sQ P E z=aq) (R:0<=m) (a5:m<=4294967296) (ty:TypeId) :
  ∃vs:List Value,(∀I β,cG I β (aA m.toNat z).flatten vs) /\
   (n+m.toNat<=cap->∀w',(∀b,p=ak b->(storeCells (b.add (n*k)) vs).run P w = .ok () w')->(p=an->w'=w)->(Builtin.append_ c.argTypes ty #[.slice p n cap,.int .i64 m]).run P w = .ok (.slice p (n+m.toNat) cap) w') /\
   (∀J:List Value,(∀w',w'.heap=w.heap->(Builtin.firstCells k n (.slice p n cap)).run P w' = .ok J.toArray w')->cap < n+m.toNat->n+m.toNat<=4294967296 ->
    ∃nc rest w',(Builtin.append_ c.argTypes ty #[.slice p n cap,.int .i64 m]).run P w = .ok (.slice (ak ⟨w.heap.size,0,an⟩) (n+m.toNat) nc) w'/\n+m.toNat<=nc/\rest.size=(nc - (n+m.toNat))*k /\
     w'.heap=w.heap.push (.cells (J.toArray++vs.toArray++rest) E)/\w'.os=w.os/\w'.tape=w.tape/\w'.output=w.output):=by
 have ⟨hk,O,⟨nb,S,a4,W⟩,zv,r,g⟩:=nT U;have ⟨i,K,f⟩:=aiD.1 S;have ⟨t,ht,B⟩:=ah7.1 hE;have ⟨t',C,l⟩:=gg L;have D:P.underlying t'=ak (.int .i64):=by unfold Fw at l;split at l<;>simp_all
 have ⟨a7,a6,G,a1⟩:=Af (P:=P) (w:=w) hz;rw[r] at G;cases G;have y:au .i64 m=m:=xL aD aD;have q:¬(m*(nb:Int)>2 ^ 48):=by have:m*(nb:Int)<=m*4096:=aip aD R;omega
 have A:∀I β,cG I β (aA m.toNat z).flatten (Builtin.zeroCells zv.cells m.toNat).toList:=by intro I β;have:=Ei (n:=m.toNat) (a1 I β) g O;rw[<-g] at this;exact this
 have j:∀w',(if m.toNat*k=0 then pure #[] else do pure (Builtin.zeroCells (<-zeroValue E).cells m.toNat):Sem (Array Value)).run P w' = .ok (Builtin.zeroCells zv.cells m.toNat) w':=by
  intro w';split
  .rename_i h0;have:Builtin.zeroCells zv.cells m.toNat=#[]:=by simp[Builtin.zeroCells,g,h0]
   rw[this];rfl
  .simp[Bh r]
 refine ⟨(Builtin.zeroCells zv.cells m.toNat).toList,A,fun x w' V hw=>?_,fun J a0 x a2=>?_⟩
 .simp only[Builtin.append_,ht,C,alf,ak3,aku,Sem.run_bind,run_underlying (eD B),run_underlying D,Result.andThen_ok,run_sizeOf hk,Sem.run_pure,ajs,ajl,ah5,ajO,asInt,asIntOf,y];rw[ah0 aD];simp only[Sem.run_bind,run_typeInfo K,f,Result.andThen_ok];rw[ah0 q];simp only[Sem.run_bind,Sem.run_pure,Result.andThen_ok];rw[ah1 x];simp only[Sem.run_bind,j,Result.andThen_ok];cases p with
  | none=>rw[hw rfl];rfl
  | some b=>simp[V b rfl]
 .let nc:=(Question.appendCap (n+m.toNat) cap E).cut (w.tape w.drawn (.appendCap (n+m.toNat) cap E));have T:n+m.toNat<=nc:=by show n+m.toNat<=n+m.toNat+_;omega
  refine ⟨nc,Builtin.zeroCells zv.cells (nc - (n+m.toNat)),{{w with drawn:=w.drawn+1} with heap:=w.heap.push (.cells (J.toArray++(Builtin.zeroCells zv.cells m.toNat).toList.toArray++Builtin.zeroCells zv.cells (nc - (n+m.toNat))) E)},?_,T,by simp[Builtin.zeroCells,g],rfl,rfl,rfl,rfl⟩;have F:=a0 {w with drawn:=w.drawn+1} rfl;simp only[Builtin.append_,ht,C,alf,ak3,aku,Sem.run_bind,run_underlying (eD B),run_underlying D,Result.andThen_ok,run_sizeOf hk,Sem.run_pure,ajs,ajl,ah5,ajO,asInt,asIntOf,y];rw[ah0 aD];simp only[Sem.run_bind,run_typeInfo K,f,Result.andThen_ok];rw[ah0 q];simp only[Sem.run_bind,Sem.run_pure,Result.andThen_ok];rw[ah0 aD];have X:¬(((n+m.toNat:Nat):Int)>IntKind.i64.max):=by have:IntKind.i64.max=9223372036854775807:=aR;rw[this];omega
  have s:=nextslicecap_le x;have a3:Builtin.nextslicecap (n+m.toNat) cap*nb<=2 ^ 48:=by have h1:=akp s W;omega
  simp only[Sem.run_bind,run_typeInfo K,f,Result.andThen_ok];rw[ah0 (fun h=>X h.1)];simp only[Sem.run_bind,run_typeInfo K,f,Result.andThen_ok];rw[ah0 aD];have M:(choose (.appendCap (n+m.toNat) cap E)).run P w = .ok nc {w with drawn:=w.drawn+1}:=by rw[run_choose];rfl
  simp only[Sem.run_bind,M,Result.andThen_ok,run_typeInfo K,run_askRoom,F,j,Bh r,Sem.run_pure,newRow,run_newObj]
def YS (h:bV P o.op (.s7 x y k z)=aq) (s:cE dl N I β e H a w) (hv:hv (.s7 x y k z) e H=ak (v,H')):Post I β H w v H' ((execOp a.eval o).run P w):=by
 cases ho:o.op<;>simp only[ho,bV,ah5,ah2] at h;rename_i c;have ⟨⟨⟨hc,h0⟩,L⟩,U⟩:=h;have W:c.callee = .builtin .append:=by unfold kI at hc;split at hc<;>simp_all
 have ⟨E,hE,j⟩:=gg h0;simp only[ah2] at j;have ⟨j,hz⟩:=j;have ⟨hk,M,_⟩:=nT j;obtain ⟨rx,ry,t,F,r2⟩:=MD s U;simp only[Fx.hv] at hv;generalize y.ev e=B at *;split at hv
 .rename_i m;split at hv
  case isFalse=>simp at hv
  rename_i hb;have ⟨O,R,a0,V⟩:=hb;have J:=r2.eG.1;subst J;have fin:∀rv w',(Builtin.append_ c.argTypes o.type #[rx,.int .i64 m]).run P w = .ok rv w'->(execOp a.eval o).run P w = .ok (.value rv) w':=by intro rv w' hr;simp[execOp,ho,resolve,W,t,invoke,builtin,hr]
  obtain ⟨p0,n0,X,D⟩:∃p n cap,rx = .slice p n cap:=by
   generalize x.ev e=A at *;cases A with
   | nil=>exact ⟨_,_,_,F.nZ⟩
   | seq k' f xs=>obtain ⟨p,cap,G,_⟩:=F.pG;exact ⟨_,_,_,G⟩
   | sl k' id ver i n=>obtain ⟨B,p,_,_,G,_⟩:=F.pz;exact ⟨_,_,_,G⟩
   | _=>unfold il at hv;split at hv<;>simp at hv
  subst D;have ⟨vs,C,q,l⟩:=VA (P:=P) (w:=w) (p:=p0) (n:=n0) (cap:=X) hE L j hz O R o.type;refine ME (P:=P) (E:=E) (vs:=vs) s F M (fun x U=>ai1 U ▸ ⟨a0,V⟩) (C I β) (fun p n cap w' K b S hw=>?_) (fun p n cap us K T b r=>?_) hv
  .cases K;simp only[aiY] at b ⊢;exact fin _ _ (q b w' S hw)
  .cases K;simp only[aiY] at b r ⊢;have ⟨nc,rest,w',g1,g⟩:=l us T b r;exact ⟨nc,rest,w',fin _ _ g1,g⟩
 .simp at hv
def aaD (h:bV P o.op (.zq x z)=aq) (s:cE dl N I β e H a w) (hv:hv (.zq x z) e H=ak (v,H')):Post I β H w v H' ((execOp a.eval o).run P w):=by
 cases ho:o.op<;>simp only[ho,bV,ah5,ah2] at h;rename_i c;have ⟨⟨hc,M⟩,D⟩:=h;have S:c.callee = .builtin .clear:=by unfold kI at hc;split at hc<;>simp_all
 have ⟨E,hE,hz⟩:=gg M;have ⟨t,ht,a1⟩:=ah7.1 hE;have rs:=iR s.env D;simp only[aiS,ajE] at rs;have f:∃rv,c.args.map a.eval=#[rv]/\Rel I β (x.ev e) rv:=by
  have hl:=rs.1
  match hm:c.args.toList.map a.eval with
  | [rv]=>exact ⟨rv,by apply akP;simp[hm],by rw[hm] at rs;exact rs.head⟩
  | []=>simp[hm] at hl
  | _::_::_=>simp[hm] at hl
 have ⟨rv,f,r1⟩:=f;have ⟨zv,b6,_,a5⟩:=Af (w:=w) hz;have fin:∀w',(Builtin.clear_ c.argTypes o.type #[rv]).run P w = .ok (.tuple #[]) w'->(execOp a.eval o).run P w = .ok (.value (.tuple #[])) w':=by intro w' hr;simp[execOp,ho,resolve,S,f,invoke,builtin,hr]
 have nothing:∀p cap,rv = .slice p 0 cap->(Builtin.clear_ c.argTypes o.type #[rv]).run P w = .ok (.tuple #[]) w:=by intro p cap b5;cases p<;>simp[Builtin.clear_,ht,run_underlying (eD a1),b5]
 simp only[Fx.hv] at hv;generalize x.ev e=A at *;cases A with
 | nil =>
  simp at hv;obtain ⟨rfl,rfl⟩:=hv;exact .same s.bG .ba (fin _ (nothing an 0 r1.nZ))
 | sl k' id ver i n =>
  simp only at hv;have ⟨ob,b4,J⟩:=ah7.1 hv;split at J<;>simp at J;rename_i hb;have ⟨b2,L,a6⟩:=hb;obtain ⟨rfl,rfl⟩:=J;have ⟨B,p,hB,b8,e1,b7,hp⟩:=r1.pz;have ⟨W,y⟩:=dF b4;have ⟨B',f1,O,f3⟩:=s.bG.obj id ob W;rw[y,hB] at f1;cases f1;rw[<-y] at hB;by_cases V:n=0
  .subst V;refine ⟨.value (.tuple #[]),w,I,β,fin _ (nothing _ _ e1),?_,?_,.ba,fun _ _ _=>rfl⟩
   all_goals (
    have:H.set id (ak ⟨ob.k,ver,ob.xs.take i++(aA 0 z++ob.xs.drop (i+0))⟩)=H:=by
     have a0:(⟨ob.k,ver,ob.xs.take i++(aA 0 z++ob.xs.drop (i+0))⟩:bz)=ob:=by rw[<-y];simp
     rw[a0];apply akZ;intro j;rw[Gt];split
     .rename_i F;subst F;rw[ah1 (aid.1 W).1,W]
     .rfl)
   .rw[this];exact .refl _ _ _ _
   .rw[this];exact s.bG
  .rcases hp with ⟨hn,rfl⟩ | ⟨h5,h6⟩
   case inr=>exact absurd h5 V
   have ⟨c',E',t1,t2,t3,t4,t5,t6⟩:=f3.flat O hn;have a7:=fun x D=>(t5 x D).1;have r:∀x,x∈aA n z->ae x=ob.k:=fun x D=>ai1 D ▸ L;have a8:=eA a7;have X:zv.cells.size=ob.k:=by have:=(a5 I β).1;simp at this;omega
   let vs:=(Builtin.zeroCells zv.cells n).toList;have g:cG I β (aA n z).flatten vs:=by
    by_cases b0:0 < ob.k
    .have:=Ei (n:=n) (a5 I β) X b0;rw[<-X] at this;exact this
    .have M:ob.k=0:=aD;refine ⟨by simp[vs,Builtin.zeroCells,X,M,L],fun j a v e1 _=>?_⟩;have:(aA n z).flatten.length=0:=by rw[eA r,M];simp
     have F:=(aid.1 e1).1;omega
   have a4:ae vs=n*ob.k:=by rw[<-g.1,eA r];simp
   have U:(i+n)*ob.k<=ae ob.xs*ob.k:=ai7 _ b2;have b3:ae ob.xs*ob.k<=B.cap*ob.k:=ai7 _ t4;rw[aiW] at U;rw[O] at t3;have K:=t6.put (q:=i*ob.k) g (by rw[eA r,a8];simp;omega) (by rw[a4];omega);rw[<-BB a7 r] at K;simp only[aiY] at K;have ⟨s',x'⟩:=uI s.bG W hB hn t1 ⟨ob.k,ob.ver,ob.xs.take i++aA n z++ob.xs.drop (i+n)⟩ B β (.inl ⟨rfl,rfl,rfl⟩) rfl hn O (q:=B.off+i*ob.k) (vs:=vs) (O ▸ t3) bW (by
     intro x D;simp only[aiE] at D;rcases D with (h | h) | h
     .exact t5 x (ajP h)
     .rw[ai1 h];exact ⟨L,a6⟩
     .exact t5 x (aju h)) K;have a2:=uQ (P:=P) (b:=B.b) (E:=E') vs w c' (B.off+i*ob.k) 0 t1 (fun v hv=>by have ⟨j,F⟩:=akF.1 hv;have a9:j < (aA n z).flatten.length:=g.1 ▸ (aid.1 F).1;have R:=ah6 a9;refine (g.2 j _ v R F).Cm ?_;have ⟨l,b1,T⟩:=alO.1 (aiX R);rw[ai1 b1] at T;exact ah4.1 a6 _ T) (by rw[a4];omega);have G:jX w B.b c' E'=w:=by
    simp only[jX];have:w.heap.setIfInBounds B.b (Obj.cells c' E' (0,0))=w.heap:=by
     apply alU;intro j;rw[aiH];split
     .rename_i F;subst F;rw[t1];simp[km t1]
     .rfl
    rw[this]
   have a3:(storeCells ⟨B.b,B.off+i*B.k,an⟩ vs).run P w = .ok () (jX w B.b (db c' (B.off+i*ob.k) vs) E'):=by
    rw[O];cases C:vs.isEmpty with
    | false=>simp only[C,ah5,ajO,alo] at a2;exact a2
    | true =>
     have M:vs=[]:=bu C;rw[M];simp only[db,G];rfl
   simp only[aio] at s' x';refine ⟨.value (.tuple #[]),_,I,β,fin _ ?_,y ▸ x',y ▸ s',.ba,fun _ _ _=>rfl⟩;rw[e1];obtain ⟨m,rfl⟩:∃m,n=m+1:=⟨n - 1,aD⟩;simp only[Builtin.clear_,ht,alf,ak3,Sem.run_bind,run_underlying (eD a1),Result.andThen_ok,b6];have:=a3;simp only[vs] at this;rw[this];rfl
 | _=>simp at hv
def aaE (h:bV P o.op (.AX x y k)=aq) (s:cE dl N I β e H a w) (hv:hv (.AX x y k) e H=ak (v,H')):Post I β H w v H' ((execOp a.eval o).run P w):=by
 cases ho:o.op<;>simp only[ho,bV,ah5,ah2] at h;rename_i c;have ⟨⟨hc,h0⟩,X⟩:=h;have a1:c.callee = .builtin .copy:=by unfold kI at hc;split at hc<;>simp_all
 have ⟨E,hE,hz⟩:=gg h0;have ⟨t,ht,b6⟩:=ah7.1 hE;simp only[mQ,ah2,ajt,aiU] at hz;have ⟨⟨⟨b7,c4⟩,_⟩,_⟩:=hz;have rs:=iR s.env X;simp only[aiS,ajE] at rs;have g:∃rv rw,c.args.map a.eval=#[rv,rw]/\Rel I β (x.ev e) rv/\Rel I β (y.ev e) rw:=by
  have hl:=rs.1
  match V:c.args.toList.map a.eval with
  | [rv,rw]=>exact ⟨rv,rw,by apply akP;simp[V],by rw[V] at rs;exact rs.head,by rw[V] at rs;exact rs.tail.head⟩
  | []=>simp[V] at hl
  | [_]=>simp[V] at hl
  | _::_::_::_=>simp[V] at hl
 have ⟨rv,a5,g,r1,r2⟩:=g;have fin:∀n w',(Builtin.copy_ c.argTypes o.type #[rv,a5]).run P w = .ok (goInt n) w'->(execOp a.eval o).run P w = .ok (.value (goInt n)) w':=by intro n w' hr;simp[execOp,ho,resolve,a1,g,invoke,builtin,hr]
 simp only[Fx.hv] at hv;generalize x.ev e=A at *;generalize y.ev e=Y at *;split at hv
 case h_2=>simp at hv
 rename_i k' id ver i n k2 f r;have ⟨ob,b5,S⟩:=ah7.1 hv;split at S<;>simp at S;rename_i hb;obtain ⟨rfl,rfl,J,b2,c0⟩:=hb;obtain ⟨rfl,rfl⟩:=S;have ⟨B,p,hB,c3,e1,c1,hp⟩:=r1.pz;have ⟨C,z⟩:=dF b5;have ⟨B',f1,f2,f3⟩:=s.bG.obj id ob C;rw[z,hB] at f1;cases f1;rw[<-z] at hB;have ⟨q,cap,e2,_,F,vs,a7,m⟩:=Bo (P:=P) (k:=k2) s.bG (show dW k2 H (.seq k2 f r)=ak r by simp[dW]) r2;have W:=a7 w rfl;have T:=eA fun x X=>(F x X).1;have D:ae vs=ae r*k2:=by rw[<-m.1,T]
 have a2:=aiQ c0;have run:∀w',(match p with | some a=>(storeCells a vs).run P w | none => .ok () w) = .ok () w'->(Builtin.copy_ c.argTypes o.type #[rv,a5]).run P w = .ok (goInt (ae r)) w':=by intro w' K;rw[e1,e2] at *;cases p<;>simp[Builtin.copy_,ht,run_underlying (eD b6),Builtin.lenOf,a2,run_sizeOf b7,W] at K ⊢<;>simp[K]
 by_cases b4:n=0
 .have b9:r=[]:=aiA aD;subst b9;have b8:=aiA (bu D);subst b8;refine ⟨.value (goInt 0),w,I,β,fin _ _ (run w (by cases p<;>rfl)),?_,?_,.ba,fun _ _ _=>rfl⟩
  all_goals (
   have:H.set id (ak ⟨ob.k,ver,ob.xs.take i++([]++ob.xs.drop (i+ae ([]:List (List AV))))⟩)=H:=by
    have a3:(⟨ob.k,ver,ob.xs.take i++([]++ob.xs.drop (i+ae ([]:List (List AV))))⟩:bz)=ob:=by rw[<-z];simp
    rw[a3];apply akZ;intro j;rw[Gt];split
    .rename_i U;subst U;rw[ah1 (aid.1 C).1,C]
    .rfl)
  .rw[this];exact .refl _ _ _ _
  .rw[this];exact s.bG
 .rcases hp with ⟨hn,rfl⟩ | ⟨h5,h6⟩
  case inr=>exact absurd h5 b4
  have ⟨c',E',t1,t2,t3,t4,t5,t6⟩:=f3.flat f2 hn;have a6:=fun x X=>(t5 x X).1;have M:∀x,x∈r->ae x=ob.k:=fun x X=>by rw[(F x X).1,J]
  have a8:=eA a6;have c2:(i+n)*ob.k<=ae ob.xs*ob.k:=ai7 _ b2;have O:(i+ae r)*ob.k<=(i+n)*ob.k:=ai7 _ aD;have b3:ae ob.xs*ob.k<=B.cap*ob.k:=ai7 _ t4;rw[aiW i (ae r)] at O;rw[f2] at t3;rw[<-J] at T D;have L:=t6.put (q:=i*ob.k) m (by rw[T,a8];omega) (by rw[D];omega);rw[<-BB a6 M] at L;have ⟨s',x'⟩:=uI s.bG C hB hn t1 ⟨ob.k,ob.ver,ob.xs.take i++r++ob.xs.drop (i+ae r)⟩ B β (.inl ⟨rfl,rfl,rfl⟩) rfl hn f2 (q:=B.off+i*ob.k) (vs:=vs) (f2 ▸ t3) bW (by
    intro x X;simp only[aiE] at X;rcases X with (h | h) | h
    .exact t5 x (ajP h)
    .exact ⟨M x h,(F x h).2⟩
    .exact t5 x (aju h)) L;have K:=uQ (P:=P) (b:=B.b) (E:=E') vs w c' (B.off+i*ob.k) 0 t1 (fun v hv=>by have ⟨j,U⟩:=akF.1 hv;have a9:j < ae r.flatten:=m.1 ▸ (aid.1 U).1;have a0:=ah6 a9;refine (m.2 j _ v a0 U).Cm ?_;have ⟨l,b0,b1⟩:=alO.1 (aiX a0);exact ah4.1 (F l b0).2 _ b1) (by rw[D];omega);have R:jX w B.b c' E'=w:=by
   simp only[jX];have:w.heap.setIfInBounds B.b (Obj.cells c' E' (0,0))=w.heap:=by
    apply alU;intro j;rw[aiH];split
    .rename_i U;subst U;rw[t1];simp[km t1]
    .rfl
   rw[this]
  have a4:(storeCells ⟨B.b,B.off+i*B.k,an⟩ vs).run P w = .ok () (jX w B.b (db c' (B.off+i*ob.k) vs) E'):=by
   rw[f2];cases G:vs.isEmpty with
   | false=>simp only[G,ah5,ajO,alo] at K;exact K
   | true =>
    have h0:vs=[]:=bu G;rw[h0];simp only[db,R];rfl
  simp only[aio] at s' x';exact ⟨.value (goInt (ae r)),_,I,β,fin _ _ (run _ a4),z ▸ x',z ▸ s',.ba,fun _ _ _=>rfl⟩
def UX (h:bV P o.op f=aq) (s:cE dl N I β e H a w) (b:hv f e H=ak (v,H')):Post I β H w v H' ((execOp a.eval o).run P w):=by
 cases f with
 | new k z=>exact aaF h s b
 | ug x=>exact YT h s b
 | yf k p=>exact aaC h s b
 | ld x g k=>exact YU h s b
 | st x y k=>exact acB h s b
 | mk k z l c=>exact acA h s b
 | rX x j i m k=>exact aaG h s b
 | app x y k=>exact aaB h s b
 | zq x z=>exact aaD h s b
 | s7 x n k z=>exact YS h s b
 | AX x y k=>exact aaE h s b
 | _=>simp[Fx.hv] at b
def OZ (h:bV P o.op x=aq) (s:cE dl N I β e H a w) (k:gE x e H=ak (v,H')):Post I β H w v H' ((execOp a.eval o).run P w):=by
 unfold gE at k;split at k
 .rename_i u y;simp at k;obtain ⟨rfl,rfl⟩:=k;exact Vq h s y
 .exact UX h s k
end
section
def sZ (P:Program) (f:FuncId):Prop:=∃fn,P.funcs[f]?=ak fn/\(fn.name== "runtime.NumGoroutine")=ar/\fn.body.isNone=ar
def bR (P:Program) (f:FuncId) (args:List AV) (H:aF) (r:AV) (H':aF):Prop :=
 sZ P f/\∀I β w vs,Sim I β H w->cG I β args vs->Calls P f vs.toArray w fun e w'=>∃rv I' β',e = .returned rv/\Ext I β H w I' β' H' w'/\Sim I' β' H' w'/\Rel I' β' r rv
structure bU where
 dst:Option Nat
 op:AOp
 g:Option (Nat × Bool)
abbrev d (n:Nat) (o:AOp):bU:=⟨ak n,o,an⟩
abbrev dg (n:Nat) (o:AOp) (s:Nat) (b:Bool):bU:=⟨ak n,o,ak (s,b)⟩
abbrev u (o:AOp):bU:=⟨an,o,an⟩
structure Obl where
 f:FuncId
 args:List AV
 H:aF
 r:AV
 H':aF
def Obl.ok (P:Program) (o:Obl):Prop:=bR P o.f o.args o.H o.r o.H'
def fI (o:AOp) (e:Env):Option (FuncId × List AV) :=
 match o with
 | .call f args=>ak (f,args.map (·.ev e))
 | .mO f args=>ak (f,args.map (·.ev e))
 | .oN x args=>match x.ev e with
  | .fn f first caps=>ak (f,first++args.map (·.ev e)++caps)
  | _=>an
 | _=>an
def fq (d:Option Nat) (v:AV) (e:Env):Env :=
 match d with
 | some d=>(d,v)::e
 | none=>e
def fi (g:Option (Nat × Bool)) (e:Env):Option Bool :=
 match g with
 | none=>ak aq
 | some (t,want)=>match lk t e with
  | .c (.bool b)=>ak (b==want)
  | .bM []=>ak ar
  | _=>an
def Vz:List bU->Env->aF->List (AV × Option aF)->Option (Env × aF × List Obl)
 | [],e,H,os=>match os with
  | []=>ak (e,H,[])
  | _=>an
 | o::r,e,H,os =>
  match fi o.g e with
  | some ar=>Vz r (fq o.dst (.bM []) e) H os
  | some aq=>match fI o.op e with
   | some (f,args)=>match os with
    | (v,h)::os'=>(Vz r (fq o.dst v e) (h.getD H) os').map fun x=>(x.1,x.2.1,⟨f,args,H,v,h.getD H⟩::x.2.2)
    | []=>an
   | none=>match gE o.op e H with
    | some (v,H')=>Vz r (fq o.dst v e) H' os
    | none=>an
  | none=>an
def uc (P:Program) (o:AOp) (e:Env) (H:aF) (v:AV) (H':aF):Prop :=
 match fI o e with
 | some (f,args)=>bR P f args H v H'
 | none=>gE o e H=ak (v,H')
def N1 (ops:Array Oper) (j:Nat):Option Nat:=(ops[j]?).bind (·.dst)
def jH (P:Program) (N:Nat) (ops:Array Oper) (o:Oper) (ao:bU):Bool :=
 decide (o.dst=ao.dst)&&(match ao.dst with | some d=>decide (d < N) | none=>aq)&&bV P o.op ao.op &&
 (match o.guard,ao.g with
  | none,an=>aq
  | some (j,b),ak (t,b')=>b==b'&&decide (N1 ops j=ak t)
  | _,_=>ar)
def fM (P:Program) (N:Nat) (ops:Array Oper):List Oper->List bU->Bool
 | [],[]=>aq
 | o::r,a::s=>jH P N ops o a&&fM P N ops r s
 | _,_=>ar
variable {P:Program} {dl:List Deferred} {fo:Option Nat} {N:Nat} {I:Imm} {β:Bet} {e:Env} {H H':aF} {a:Act} {w:World} {o:Oper} {v:AV}
def FR (fo:Option Nat):Fence:={Fence.wide with round:=fo}
def UR (h:Calls P f args w R):CallsIn (FR fo) n P f args w R:=(callsIn_wide (n:=n)).2 h
def Hf (h:bV P o.op k=aq) (x:k ≠ .bad) (c:Call):o.op ≠ .defer c:=by intro y;rw[y] at h;cases k<;>first | exact x rfl | simp[bV] at h
def sM (t:Nat) (d:Option Nat) (v:AV) (e:Env):lk t (fq d v e)=if d=ak t then v else lk t e:=by
 cases d with
 | none=>simp[fq]
 | some d=>simp only[fq,lk];by_cases h:d=t<;>simp[h]
def cE.put (s:cE dl N I β e H a w) {k:Imm} {y:Bet} {w':World} (x:Ext I β H w k y H' w') (s':Sim k y H' w') {d:Option Nat} {rv:Value} (b:∀t,d=ak t->t < N) (c:Rel k y v rv):cE dl N k y (fq d v e) H' (a.put d rv) w':=by
 refine ⟨s',?_,fun t=>?_,?_⟩
 .cases d<;>simp[Act.put,s.size]
 .rw[sM];cases d with
  | none=>simp only[Act.put];rw[ah0 aO];exact (s.env t).mono x.fP x.ue
  | some d =>
   have:=b d rfl;simp only[Act.put];by_cases h:d=t
   .subst h;rw[ah1 rfl];simp only[aib,ak0 (by rw[s.size];exact this),ai9];exact c
   .rw[ah0 (by simp[h])];have z:(a.tmps.setIfInBounds d rv).getD t undef=a.tmps.getD t undef:=by simp only[aib,aiH,ah0 h]
    rw[z];exact (s.env t).mono x.fP x.ue
 .cases d<;>simp[Act.put,s.sH]
def lB (h:jH P N ops o k=aq):o.dst=k.dst/\(∀t,o.dst=ak t->t < N)/\bV P o.op k.op=aq:=by simp only[jH,ah2,aiU] at h;refine ⟨h.1.1.1,fun t y=>?_,h.1.2⟩;have x:=h.1.1.2;rw[<-h.1.1.1,y] at x;simpa using x
def GK:Rel I β (.bM []) undef := .bM (vs:=[]) rfl (fun j a v e=>by simp at e)
def fY (h:jH P N ops o K=aq) (s:cE dl N I β e H a w) (y:fi K.g e=ak b):Region.wanted o (yielded ops a.tmps)=b:=by
 simp only[jH,ah2] at h;have i:=h.2;unfold Region.wanted;split at i
 .rename_i m n;rw[m];rw[n] at y;simp[fi] at y;simp[y]
 .rename_i j f t q m n;rw[m];rw[n] at y;simp at i;obtain ⟨rfl,k⟩:=i;simp only[fi] at y;split at y
  case h_3=>simp at y
  case h_2 z =>
   simp at y;have c:=s.env t;rw[z] at c;have ⟨W,x,hv⟩:=c.CC;have p:=aiA hv.1.symm;subst p;simp only[yielded];unfold N1 at k;rw[k];simp only[aix];rw[y];rw[aib] at x;cases l:a.tmps[t]? with
   | none=>rfl
   | some u=>rw[l] at x;simp at x;rw[x];rfl
  simp at y;rename_i r z;have c:=s.env t;rw[z] at c;have x:=c.eG.1;have X:a.tmps[t]?=ak (.bool r):=by
   rw[aib] at x;cases l:a.tmps[t]? with
   | none=>rw[l] at x;simp[undef] at x
   | some u=>rw[l] at x;simp at x;rw[x]
  simp only[yielded];unfold N1 at k;rw[k];simp only[aix,X];rw[<-y];cases r<;>cases f<;>rfl
 .simp at i
def um (h:sZ P f) (args:Array Value):(callFunc f args).run P w = .ok (.enter f args) w:=by have ⟨z,k,x,y⟩:=h;unfold callFunc;simp only[Sem.run_bind,run_program,Result.andThen_ok,k];rw[ah0 (by simpa using x),ah0 (by simp[y])];rfl
def Rel.Cc {f:FuncId} {x y:List AV} {u:Value} (h:Rel I β (.fn f x y) u):∃vf vc:List Value,u = .func (.func f) vf.toArray vc.toArray/\cG I β x vf/\cG I β y vc:=by cases h;exact ⟨_,_,rfl,⟨‹_›,‹_›⟩,⟨‹_›,‹_›⟩⟩
def mN {ops:Array Oper} {X:bU} (h:jH P N ops o X=aq) (s:cE dl N I β e H a w) {f:FuncId} {args:List AV} (k:fI X.op e=ak (f,args)) (n:sZ P f) {R:Ending->World->Prop}
  (l:∀vs,cG I β args vs->Calls P f vs.toArray w R) {Q:Exit->Act->World->Prop} {next:Act->World->Prop} (D:∀K w',R K w'->∃rv,K = .returned rv/\next (a.put o.dst rv) w'):o.wpIn (FR fo) 0 P a w next Q:=by
 have ⟨U,F,i⟩:=lB h;unfold Oper.wpIn;refine ⟨fun _ _=>trivial,?_⟩;rw[Oper.semAt_eq _ _ _ (Hf i (fun E=>by rw[E] at k;simp[fI] at k))];have key:∀vs:List Value,cG I β args vs->(execOp a.eval o).run P w = .ok (.enter f vs.toArray) w->o.uponIn (FR fo) 0 P a next Q ((execOp a.eval o).run P w):=by intro vs J q;rw[q,Oper.uponIn_enter];refine ⟨fun h=>by simp[FR,Fence.wide] at h,UR ((l vs J).mono ?_)⟩;intro K w' G;obtain ⟨rv,rfl,W⟩:=D K w' G;exact W
 cases j:X.op with
 | call g B =>
  rw[j] at k i;simp[fI] at k;obtain ⟨rfl,rfl⟩:=k;cases m:o.op<;>simp only[m,bV,ah5,ah2] at i;rename_i c;have ⟨z,b⟩:=i;have z:c.callee = .value (.func g):=by unfold Gj at z;split at z<;>simp_all
  have t:=iR s.env b;refine key _ t ?_;have p:c.args.map a.eval=(c.args.toList.map a.eval).toArray:=by apply akP;simp
  simp only[execOp,m,resolve,z,Sem.run_bind];have:a.eval (.func g) = .func (.func g) #[] #[]:=rfl;simp only[this,Deferred.ofValue,Sem.run_pure,Result.andThen_ok,invoke,p];have:=um (w:=w) n (c.args.toList.map a.eval).toArray;simpa using this
 | mO g B =>
  rw[j] at k i;simp[fI] at k;obtain ⟨rfl,rfl⟩:=k;cases m:o.op<;>simp only[m,bV,ah5,ah2] at i;rename_i c;have ⟨z,b⟩:=i;have z:c.callee = .value (.func g):=by unfold Gj at z;split at z<;>simp_all
  have t:=iR s.env b;refine key _ t ?_;have p:c.args.map a.eval=(c.args.toList.map a.eval).toArray:=by apply akP;simp
  simp only[execOp,m,resolve,z,Sem.run_bind];have:a.eval (.func g) = .func (.func g) #[] #[]:=rfl;simp only[this,Deferred.ofValue,Sem.run_pure,Result.andThen_ok,invoke,p];have:=um (w:=w) n (c.args.toList.map a.eval).toArray;simpa using this
 | oN x B =>
  rw[j] at k i;simp only[fI] at k;split at k<;>simp at k;rename_i g first A W
  obtain ⟨rfl,rfl⟩:=k;cases m:o.op<;>simp only[m,bV,ah5,ah2] at i;rename_i c;have ⟨z,b⟩:=i;have z:∃y,c.callee = .value y/\ea y x=aq:=by unfold Kh at z;split at z<;>simp_all
  have ⟨y,z,L⟩:=z;have r1:=s.x L;rw[W] at r1;have ⟨T,S,C,O,M⟩:=r1.Cc;have t:=iR s.env b;have r:=(O.append t).append M;refine key _ (bu r) ?_;have p:c.args.map a.eval=(c.args.toList.map a.eval).toArray:=by apply akP;simp
  simp only[execOp,m,resolve,z,Sem.run_bind];simp only[C,Deferred.ofValue,Sem.run_pure,Result.andThen_ok,invoke,p];have:=um (w:=w) n ((T.toArray++(c.args.toList.map a.eval).toArray)++S.toArray);rw[this];simp
 | _=>rw[j] at k;simp[fI] at k
def om {ops:Array Oper} {f:bU} (h:jH P N ops o f=aq) (s:cE dl N I β e H a w) (c:gE f.op e H=ak (v,H')) {Q:Exit->Act->World->Prop} {next:Act->World->Prop}
  (i:∀rv y x w',Ext I β H w y x H' w'->Sim y x H' w'->Rel y x v rv->(∀id ver,H'[id]?=H[id]?->x id ver=β id ver)->next (a.put o.dst rv) w'):o.wpIn (FR fo) 0 P a w next Q:=by
 have ⟨q,n,z⟩:=lB h;unfold Oper.wpIn;refine ⟨fun _ _=>trivial,?_⟩;rw[Oper.semAt_eq _ _ _ (Hf z (fun m=>by rw[m] at c;simp[gE,pv,hv] at c))];have ⟨p,w',y,x,b,l,j,k,g⟩:=OZ z s c;rw[b];cases p with
 | value rv=>exact i rv y x w' l j k g
 | skip=>exact i undef y x w' l j k g
 | _=>exact k.elim
def Nv {ops:Array Oper} {j:bU} (h:jH P N ops o j=aq) (s:cE dl N I β e H a w) (i:uc P j.op e H v H') {Q:Exit->Act->World->Prop} {next:Act->World->Prop}
  (p:∀rv z b w',Ext I β H w z b H' w'->cE dl N z b (fq j.dst v e) H' (a.put o.dst rv) w'->next (a.put o.dst rv) w'):o.wpIn (FR fo) 0 P a w next Q:=by
 have ⟨n,c,_⟩:=lB h;unfold uc at i;split at i
 .rename_i f args y;have ⟨l,x⟩:=i;refine mN h s y l (fun r q=>x I β w r s.bG q) ?_;rintro t w' ⟨rv,z,b,rfl,g,m,k⟩;exact ⟨rv,rfl,p rv z b w' g (n ▸ s.put g m c k)⟩
 .exact om h s i fun rv z b w' g m k _=>p rv z b w' g (n ▸ s.put g m c k)
def Out (dl:List Deferred) (N:Nat) (I:Imm) (β:Bet) (H:aF) (w:World) (e':Env) (H':aF) (a':Act) (w':World):Prop:=∃I' β',Ext I β H w I' β' H' w'/\cE dl N I' β' e' H' a' w'
def Out.step {c:Env} {k:aF} {z:Imm} {f:Bet} {b:Act} {w' y:World} (x:Ext I β H w z f H' w') (h:Out dl N z f H' w' c k b y):Out dl N I β H w c k b y:=by have ⟨g,l,j,i⟩:=h;exact ⟨g,l,x.trans j,i⟩
def ku (P:Program) (ao:bU) (e:Env) (H:aF) (v:AV) (H':aF):Prop :=
 (fi ao.g e=ak aq/\uc P ao.op e H v H')\/(fi ao.g e=ak ar/\v = .bM []/\H'=H)
def Eg {ops:Array Oper} {i:Nat} {rest:List Nat} (l:ops[i]?=ak o) {y:bU} (h:jH P N ops o y=aq) (s:cE dl N I β e H a w) (b:ku P y e H v H') {Q:Exit->Act->World->Prop}
  (j:∀f k x w',Ext I β H w k x H' w'->cE dl N k x (fq y.dst v e) H' f w'->wpOpsIn (FR fo) 0 P ops Q rest f w'):wpOpsIn (FR fo) 0 P ops Q (i::rest) a w:=by
 simp only[wpOpsIn,l];rcases b with ⟨c,b⟩ | ⟨c,rfl,rfl⟩
 .rw[ah1 (fY h s c)];exact (Nv h s b fun rv k x w' p n=>j _ k x w' p n)
 .rw[ah0 (by rw[fY h s c];simp)];have ⟨g,z,_⟩:=lB h;rw[g];exact ⟨fun _ _=>trivial,j _ I β w (.refl _ _ _ _) (s.put (.refl _ _ _ _) s.bG (fun t m=>z t (g ▸ m)) GK)⟩
def fR {ops:Array Oper}:∀{l:List Oper} {m:List bU},fM P N ops l m=aq->ae l=ae m/\∀(i:Nat) o k,l[i]?=ak o->m[i]?=ak k->jH P N ops o k=aq
 | [],[],_=>⟨rfl,fun i o k e=>by simp at e⟩
 | o::r,k::s,h=>by
  simp only[fM,ah2] at h;have ⟨z,b⟩:=fR h.2;refine ⟨by simp[z],fun i c y e x=>?_⟩;cases i with
  | zero=>simp at e x;subst e x;exact h.1
  | succ i=>simp at e x;exact b i c y e x
 | [],_::_,h=>by simp[fM] at h
 | _::_,[],h=>by simp[fM] at h
end
def Opd.dP:Opd->List Nat
 | .t n=>[n]
 | .k _=>[]
def AOp.dP:AOp->List Nat
 | .mv x | .box x | .ug x | .nc x | .un _ x | .cv _ x | .fa x _ | .fd x _ _ _ | .ex x _ | .len x | .gm _ x | .ld x _ _ | .Fz x _ _ | .zq x _ | .Jc _ x=>x.dP
 | .pick c a b=>c.dP++a.dP++b.dP
 | .new _ _ | .bad=>[]
 | .s7 x n _ _=>x.dP++n.dP
 | .AX x n _=>x.dP++n.dP
 | .bd _ ps=>ps.flatMap fun p=>p.2.2.dP
 | .bs _ ps | .yf _ ps=>ps.flatMap Opd.dP
 | .st x y _ | .bin _ x y | .beq _ x y | .mk _ _ x y | .Fy x y _ | .Lk x y _ _ | .ix x y _ _ _ | .app x y _ | .IN _ _ x y=>x.dP++y.dP
 | .mf _ a b=>a.flatMap Opd.dP++b.flatMap Opd.dP
 | .Ju _ _ x=>x.dP
 | .rX x lo hi m _=>x.dP++lo.toList.flatMap Opd.dP++hi.toList.flatMap Opd.dP++m.toList.flatMap Opd.dP
 | .call _ l | .mO _ l=>l.flatMap Opd.dP
 | .oN x l=>x.dP++l.flatMap Opd.dP
 | .mx l | .mn l=>l.flatMap Opd.dP
def AOp.reads:AOp->Bool
 | .ld _ _ _ | .rX _ _ _ _ _ | .call _ _ | .oN _ _=>aq
 | _=>ar
def AOp.dV:AOp->Bool
 | .new _ _ | .ug _ | .yf _ _ | .st _ _ _ | .mk _ _ _ _ | .app _ _ _ | .zq _ _ | .s7 _ _ _ _ | .AX _ _ _ | .mO _ _=>aq
 | _=>ar
def ef (l:List Nat) (e e2:Env):Prop:=∀t,t∈l->lk t e=lk t e2
def ef.ev {x:Opd} {e y:Env} (h:ef x.dP e y):x.ev e=x.ev y:=by
 cases x with
 | t n=>exact h n (by simp[Opd.dP])
 | k a=>rfl
def ef.left (h:ef (l++m) e k):ef l e k:=fun t x=>h t (by simp[x])
def ef.right (h:ef (l++m) e k):ef m e k:=fun t x=>h t (by simp[x])
def ef.Wk {l:List Opd} {e k:Env} (h:ef (l.flatMap Opd.dP) e k) {x:Opd} (z:x∈l):x.ev e=x.ev k :=
 ef.ev fun t y=>h t (akT.2 ⟨x,z,y⟩)
def ef.maps {l:List Opd} {e k:Env} (h:ef (l.flatMap Opd.dP) e k):l.map (Opd.ev e)=l.map (Opd.ev k):=ajh fun _ x=>h.Wk x
def qj {o:Option Opd} {e k:Env} {m d:Nat} (h:ef (o.toList.flatMap Opd.dP) e k):bL e m d o=bL k m d o:=by
 cases o with
 | none=>rfl
 | some x=>simp only[bL];rw[h.Wk (x:=x) aO]
def Rw {e h:Env} {lo y x:Option Opd} {k:Nat} {v:AV} (b:ef (lo.toList.flatMap Opd.dP) e h) (c:ef (y.toList.flatMap Opd.dP) e h) (f:ef (x.toList.flatMap Opd.dP) e h) :
  oY e lo y x k v=oY h lo y x k v:=by
 have z:=fun m d=>qj (m:=m) (d:=d) b;have w:=fun m d=>qj (m:=m) (d:=d) c;cases x with
 | none=>cases v<;>simp only[oY,z,w]
 | some m =>
  have a:=fun g d=>qj (m:=g) (d:=d) f;cases v<;>simp only[oY,z,w,a]
def Vp {o:AOp} {e m:Env} (h:ef o.dP e m):pv o e=pv o m:=by
 cases o with
 | mv x=>simp only[pv,h.ev]
 | pick c a b=>simp only[pv,h.left.left.ev,h.left.right.ev,h.right.ev]
 | new k z=>rfl
 | box x=>simp only[pv,h.ev]
 | ug x=>rfl
 | bd z j =>
  have q:=fun p w=>ef.ev fun t H=>h t (akT.2 ⟨p,w,H⟩);have s:j.map (fun p=>(p.1,p.2.1,p.2.2.ev e))=j.map (fun p=>(p.1,p.2.1,p.2.2.ev m)):=ajh fun p w=>by rw[q p w]
  have v:j.all (fun p=>dA (p.2.2.ev e))=j.all (fun p=>dA (p.2.2.ev m)):=by rw[ami,ah4,ah4];exact ⟨fun g p w=>by rw[<-q p w];exact g p w,fun g p w=>by rw[q p w];exact g p w⟩
  simp only[pv,s,v]
 | bs k j =>
  have q:∀p,p∈j->p.ev e=p.ev m:=fun p w=>h.Wk w;have s:j.map (fun p=>(p.ev e).cells)=j.map (fun p=>(p.ev m).cells):=ajh fun p w=>by rw[q p w]
  have v:j.all (fun p=>(p.ev e).cells.all dM&&(p.ev e).cells.length==k)=j.all (fun p=>(p.ev m).cells.all dM&&(p.ev m).cells.length==k):=by rw[ami,ah4,ah4];exact ⟨fun g p w=>by rw[<-q p w];exact g p w,fun g p w=>by rw[q p w];exact g p w⟩
  simp only[pv,s,v]
 | yf k j=>rfl
 | ld x r k=>rfl
 | st x y k=>rfl
 | nc x=>simp only[pv,h.ev]
 | bin K x y=>simp only[pv,h.left.ev,h.right.ev]
 | beq n x y=>simp only[pv,h.left.ev,h.right.ev]
 | un K x=>simp only[pv,h.ev]
 | cv k x=>simp only[pv,h.ev]
 | mf f x y=>simp only[pv];rw[show (x.map fun y=>y.ev e)=x.map (Opd.ev e) from rfl,show (y.map fun y=>y.ev e)=y.map (Opd.ev e) from rfl,h.left.maps,h.right.maps]
 | mk k z l c=>rfl
 | Ju k z l=>simp only[pv,h.ev]
 | rX x A X mx k=>simp only[pv,h.left.left.left.ev];exact Rw h.left.left.right h.left.right h.right
 | fa x o=>simp only[pv,h.ev]
 | fd x o r k=>simp only[pv,h.ev]
 | Fy x i k=>simp only[pv,h.left.ev,h.right.ev]
 | Lk x i n k=>simp only[pv,h.left.ev,h.right.ev]
 | ix x i n k r=>simp only[pv,h.left.ev,h.right.ev]
 | ex x i=>simp only[pv,h.ev]
 | call f l=>rfl
 | mO f l=>rfl
 | Fz x r k=>simp only[pv,h.ev]
 | oN x l=>rfl
 | len x=>simp only[pv,h.ev]
 | app x y k=>rfl
 | mx l=>simp only[pv,h.maps]
 | mn l=>simp only[pv,h.maps]
 | gm n x=>simp only[pv,h.ev]
 | IN n W x y=>simp only[pv,h.left.ev,h.right.ev]
 | Jc t x=>simp only[pv,h.ev]
 | zq x z=>rfl
 | s7 x n k z=>rfl
 | AX x n k=>rfl
 | bad=>rfl
def UW (h:ef o.dP e a):hv o e H=hv o a H:=by
 cases o with
 | ug x=>simp only[hv,h.ev]
 | yf k b =>
  have f:∀p,p∈b->p.ev e=p.ev a:=fun p w=>h.Wk w;have q:b.map (fun p=>(p.ev e).cells)=b.map (fun p=>(p.ev a).cells):=ajh fun p w=>by rw[f p w]
  have r:b.all (fun p=>(p.ev e).cells.all bB&&(p.ev e).cells.length==k)=b.all (fun p=>(p.ev a).cells.all bB&&(p.ev a).cells.length==k):=by rw[ami,ah4,ah4];exact ⟨fun g p w=>f p w ▸ g p w,fun g p w=>f p w ▸ g p w⟩
  simp only[hv,q,r]
 | ld x t k=>simp only[hv,h.ev]
 | st x y k=>simp only[hv,h.left.ev,h.right.ev]
 | mk k z l c=>simp only[hv,h.left.ev,h.right.ev]
 | rX x K v s k =>
  cases s with
  | some m=>rfl
  | none =>
   have i:=fun m d=>qj (m:=m) (d:=d) h.left.left.right;have j:=fun m d=>qj (m:=m) (d:=d) h.left.right;simp only[hv,h.left.left.left.ev,i,j]
 | app x y k=>simp only[hv,h.left.ev,h.right.ev]
 | s7 x n k z=>simp only[hv,h.left.ev,h.right.ev]
 | AX x n k=>simp only[hv,h.left.ev,h.right.ev]
 | zq x z=>simp only[hv,h.ev]
 | _=>rfl
def wS (h:ef o.dP e k):gE o e H=gE o k H:=by simp only[gE,Vp h,UW h]
def zp (h:ef o.dP e k):fI o e=fI o k:=by
 cases o with
 | call f l=>simp only[fI];rw[show (l.map fun y=>y.ev e)=l.map (Opd.ev e) from rfl,ef.maps h]
 | mO f l=>simp only[fI];rw[show (l.map fun y=>y.ev e)=l.map (Opd.ev e) from rfl,ef.maps h]
 | oN x l=>simp only[fI,h.left.ev];rw[show (l.map fun y=>y.ev e)=l.map (Opd.ev e) from rfl,h.right.maps]
 | _=>rfl
def uD (g:Option (Nat × Bool)):List Nat:=g.toList.map (·.1)
def ku.Gh (h:ku P k e H v H') (z:ef k.op.dP e y) (w:ef (uD k.g) e y):ku P k y H v H':=by
 have b:fi k.g e=fi k.g y:=by
  cases a:k.g with
  | none=>rfl
  | some x=>simp only[fi];rw[w x.1 (by simp[uD,a])]
 unfold ku uc at *;rw[<-b,<-zp z,<-wS z];exact h
def ku.Kd (h:ku P x e H v H') (w:x.op.reads=ar) (a:x.op.dV=ar) (G:aF):ku P x e G v G:=by
 rcases h with ⟨y,k⟩ | ⟨y,rfl,rfl⟩
 .refine .inl ⟨y,?_⟩;unfold uc at *;cases z:x.op<;>simp[z,AOp.reads,AOp.dV] at w a<;>simp only[z,fI] at k ⊢<;>simp only[gE] at k ⊢<;>(split at k<;>first | (simp at k;obtain ⟨rfl,rfl⟩:=k;rename_i b;simp[b]) | (simp[hv] at k))
 .exact .inr ⟨y,rfl,rfl⟩
def ku.aQ (h:ku P a e H v H') (c:a.op.dV=ar) (g:∀f args,fI a.op e≠ak (f,args)):H'=H:=by
 rcases h with ⟨i,y⟩ | ⟨i,rfl,rfl⟩
 .unfold uc at y;split at y
  .rename_i f args z;exact absurd z (g f args)
  .unfold gE at y;split at y
   .simp at y;exact y.2.symm
   .cases b:a.op<;>simp[b,AOp.dV] at c<;>simp only[b,hv] at y<;>first | (simp at y;done) | skip
    .split at y
     .have ⟨u,_,w⟩:=aiD.1 y;simp at w;exact w.2.symm
     .have ⟨l,_,y⟩:=ah7.1 y;have ⟨x,_,y⟩:=ah7.1 y;have ⟨u,_,w⟩:=aiD.1 y;simp at w;exact w.2.symm
     .simp at y
    .rename_i x q o j k;cases j with
     | some m=>simp at y
     | none =>
      simp only at y;split at y
      .have ⟨l,_,y⟩:=ah7.1 y;split at y
       .have ⟨n,_,y⟩:=ah7.1 y;have ⟨p,_,y⟩:=ah7.1 y;simp at y;exact y.2.symm
       .simp at y
      .simp at y
 .rfl
section
variable {P:Program} {dl:List Deferred} {fo:Option Nat} {N:Nat} {I:Imm} {β:Bet} {e:Env} {H H':aF} {a:Act} {w:World} {o:Oper} {v:AV}
def bH (o:Oper):List Nat:=(o.after.toList.filter (Region.binds .any)).map (·.on)
def kF:List (List Nat)->List Nat->List Nat
 | [],acc=>acc
 | es::r,acc=>kF r (acc++[es.foldl (fun s j=>s ||| 2 ^ j ||| acc.getD j 0) 0])
def k9 (b:List Nat) (i j:Nat):Bool:=(b.getD (max i j) 0).testBit (min i j)
def eZ:Nat->List (List Nat)->Bool
 | _,[]=>aq
 | i,es::r=>es.all (fun j=>decide (j < i))&&eZ (i+1) r
def kr (x y:bU):Bool :=
 match x.dst with
 | none=>ar
 | some t=>y.op.dP.contains t || (uD y.g).contains t || decide (y.dst=ak t)
def iw (md:List Nat) (i:Nat):Bool:=md.contains i
def SE (b:List Nat) (md:List Nat) (aops:List bU) (i j:Nat):Bool :=
 match aops[i]?,aops[j]? with
 | some x,ak y=>i==j || ((!kr x y || k9 b i j)&&(!(iw md i&&(iw md j || y.op.reads)) || k9 b i j))
 | _,_=>aq
def jV (E:List (List Nat)) (md:List Nat) (aops:List bU):Bool :=
 eZ 0 E&&decide (ae E=ae aops) &&
 (aC (ae aops)).all (fun i=>(match aops[i]? with | some x => !x.op.dV || iw md i | none=>aq)&&(aC (ae aops)).all fun j=>SE (kF E []) md aops i j)
def Down (E:List (List Nat)) (S:Nat->Bool):Prop:=∀(i:Nat) es,E[i]?=ak es->S i=aq->∀j,j∈es->S j=aq
def I7 {S:Nat->Bool} (acc:List Nat) (x:∀i j,(acc.getD i 0).testBit j=aq->S i=aq->S j=aq):∀(c:List Nat) (s:Nat),(∀j,s.testBit j=aq->S j=aq)->(∀j,j∈c->S j=aq) ->
  ∀j,(c.foldl (fun s j=>s ||| 2 ^ j ||| acc.getD j 0) s).testBit j=aq->S j=aq
 | [],s,b,_,j,z=>b j z
 | k::r,s,b,f,j,z=>by
  simp only[List.foldl_cons] at z;refine I7 acc x r _ (fun i y=>?_) (fun i y=>f i (by simp[y])) j z;rw[am9,am9] at y;simp only[akh] at y;rcases y with (h | h) | h
  .exact b i h
  .grind
  .exact x k i h (f k aO)
def IE {S:Nat->Bool}:∀(r pre:List (List Nat)) (acc:List Nat),ae acc=ae pre->Down (pre++r) S->(∀i j,(acc.getD i 0).testBit j=aq->S i=aq->S j=aq) ->
  ∀i j,((kF r acc).getD i 0).testBit j=aq->S i=aq->S j=aq
 | [],pre,acc,_,_,k=>k
 | es::r,pre,acc,c,z,k=>by
  refine IE r (pre++[es]) _ (by simp[c]) (bu z) ?_;intro i j x b;rcases aij i (ae acc) with h | h
  .have:(acc++[es.foldl (fun s j=>s ||| 2 ^ j ||| acc.getD j 0) 0]).getD i 0=acc.getD i 0:=by grind
   rw[this] at x;exact k i j x b
  .rcases alz h with y | y
   .have f:(pre++es::r)[i]?=ak es:=by rw[<-y,c];simp
    have:(acc++[es.foldl (fun s j=>s ||| 2 ^ j ||| acc.getD j 0) 0]).getD i 0=es.foldl (fun s j=>s ||| 2 ^ j ||| acc.getD j 0) 0:=by rw[<-y];simp[ajm]
    rw[this] at x;exact I7 acc k es 0 aO (z i es f b) j x
   .have:(acc++[es.foldl (fun s j=>s ||| 2 ^ j ||| acc.getD j 0) 0]).getD i 0=0:=by grind
    rw[this] at x;simp at x
structure sF (P:Program) (md:List Nat) (aops:List bU) (E:Nat->Env) (G:Nat->aF) (V:Nat->AV):Prop where
 step:∀(i:Nat) ao,aops[i]?=some ao->ku P ao (E i) (G i) (V i) (G (i+1))
 env:∀(i:Nat) ao,aops[i]?=some ao->E (i+1)=fq ao.dst (V i) (E i)
 heap:∀(i:Nat),i < aops.length->iw md i=false->G (i+1)=G i
inductive yZ (P:Program) (md:List Nat):Nat->List bU->Env->aF->Env->aF->Prop
 | nil {i:Nat} {e:Env} {H:aF}:yZ P md i [] e H e H
 | cons {i:Nat} {ao:bU} {r:List bU} {e e':Env} {H H1 H':aF} {v:AV}:ku P ao e H v H1->(iw md i=false->H1=H)->yZ P md (i+1) r (fq ao.dst v e) H1 e' H'->yZ P md i (ao::r) e H e' H'
def yZ.fn {md:List Nat}:∀{r:List bU} {k:Nat} {e x:Env} {H H':aF},yZ P md k r e H x H'->∃(E:Nat->Env) (G:Nat->aF) (V:Nat->AV),E 0=e/\G 0=H/\E (ae r)=x/\G (ae r)=H' /\
  (∀(i:Nat) ao,r[i]?=ak ao->ku P ao (E i) (G i) (V i) (G (i+1)))/\(∀(i:Nat) ao,r[i]?=ak ao->E (i+1)=fq ao.dst (V i) (E i))/\(∀i,i < ae r->iw md (k+i)=ar->G (i+1)=G i)
 | [],k,e,x,H,H',h=>by cases h;exact ⟨fun _=>e,fun _=>H,fun _ => .ba,rfl,rfl,rfl,rfl,fun i ao h=>by simp at h,fun i ao h=>by simp at h,fun i h=>by simp at h⟩
 | ao::r,k,e,x,H,H',h=>by
  cases h with
  | cons p hm b =>
   rename_i c v;have ⟨E,G,V,f,g,y,z,l,m,n⟩:=yZ.fn b;refine ⟨fun i=>match i with | 0=>e | j+1=>E j,fun i=>match i with | 0=>H | j+1=>G j,fun i=>match i with | 0=>v | j+1=>V j,rfl,rfl,y,z,?_,?_,?_⟩
   .grind
   .grind
   .grind
def gW (aops:List bU) (V:Nat->AV) (e:Env) (S:Nat->Bool):Nat->Nat->AV
 | 0,t=>lk t e
 | k+1,t=>if S k=aq/\(aops[k]?).bind (·.dst)=ak t then V k else gW aops V e S k t
def jy (md:List Nat) (G:Nat->aF) (S:Nat->Bool):Nat->aF
 | 0=>G 0
 | k+1=>if S k=aq/\iw md k=aq then G (k+1) else jy md G S k
section
variable {md:List Nat} {aops:List bU} {E:Nat->Env} {G:Nat->aF} {V:Nat->AV} {ed:List (List Nat)}
def m8 (k:jV ed md aops=aq) (f:aops[i]?=ak x) (g:aops[j]?=ak y) (z:i≠j) :
  (kr x y=aq->k9 (kF ed []) i j=aq)/\(iw md i=aq->(iw md j=aq\/y.op.reads=aq)->k9 (kF ed []) i j=aq):=by
 simp only[jV,ah2] at k;have b:=ah4.1 k.2 i (by simp;exact (aid.1 f).1);rw[ah2] at b;have c:=ah4.1 b.2 j (by simp;exact (aid.1 g).1);simp only[SE,f,g,akh,ah2,ajt] at c;rcases c with h | ⟨l,m⟩
 .exact absurd h z
 .grind
def oJ (b:List Nat) (i j:Nat):k9 b i j=k9 b j i:=by simp only[k9,Nat.max_comm,Nat.min_comm]
def gZ (S:Nat->Bool) (x:Down ed S) (z:i < j) (h:k9 (kF ed []) i j=aq) (y:S j=aq):S i=aq:=by unfold k9 at h;rw[Nat.max_eq_right aD,aiQ aD] at h;exact IE ed [] [] rfl (bu x) (fun i j k _=>by simp at k) j i h y
def Of (r:jV ed md aops=aq) (s:sF P md aops E G V) (q:Down ed S) (X:aops[i]?=ak K) (p:S i=ar)
  (l:Down ed fun j=>S j || j==i) (z:∀(j:Nat) x,aops[j]?=ak x->j≠i->x.dst=ak t->k9 (kF ed []) i j=aq) :
  ∀k,k<=ae aops->gW aops V (E 0) S k t=lk t (E (min k i)):=by
 intro k
 induction k with
 | zero=>intro _;simp[gW]
 | succ k m =>
  intro W;have m:=m aD;have f:aops[k]?=ak (aops[k]'aD):=ah6 _;rw[gW,f,aix,m];by_cases b:k < i
  .rw[show min (k+1) i=k+1 by omega,show min k i=k by omega,s.env k _ f,sM];by_cases y:aops[k].dst=ak t
   .have:=z k _ f aD y;rw[oJ] at this;have c:=gZ _ l b this aO;simp only[akh,ajt] at c;rw[ah1 y,ah1 ⟨c.resolve_right (by omega),y⟩]
   .rw[ah0 y,ah0 (fun h=>y h.2)]
  .rw[show min (k+1) i=i by omega,show min k i=i by omega,ah0];rintro ⟨n,c⟩;rcases alz (ama b) with g | g
   .subst g;simp[p] at n
   .have:=gZ S q g (z k _ f aD c) n;simp[p] at this
def Kp (y:jV ed md aops=aq) (K:sF P md aops E G V) (t:Down ed S) (n:aops[i]?=ak s) (p:S i=ar)
  (f:Down ed fun j=>S j || j==i) (q:iw md i=aq\/s.op.reads=aq):∀k,k<=ae aops->jy md G S k=G (min k i):=by
 intro k
 induction k with
 | zero=>intro _;simp[jy]
 | succ k g =>
  intro X;have g:=g aD;have r:aops[k]?=ak (aops[k]'aD):=ah6 _;rw[jy,g];by_cases x:k < i
  .rw[show min (k+1) i=k+1 by omega,show min k i=k by omega];by_cases b:iw md k=aq
   .have:=(m8 y r n aD).2 b q;have z:=gZ _ f x this aO;simp only[akh,ajt] at z;rw[ah1 ⟨z.resolve_right (by omega),b⟩]
   .rw[ah0 (fun h=>b h.2),K.heap k (by omega) (by simpa using b)]
  .rw[show min (k+1) i=i by omega,show min k i=i by omega,ah0];rintro ⟨l,z⟩;rcases alz (ama x) with c | c
   .subst c;simp[p] at l
   .have m:=(m8 y r n aD).2 z q;rw[oJ] at m;have:=gZ S t c m l;simp[p] at this
def GP (b:sF P md aops E G V) (y:∀i,i < ae aops->S i=aq) (t:Nat):∀k,k<=ae aops->gW aops V (E 0) S k t=lk t (E k):=by
 intro k
 induction k with
 | zero=>intro _;rfl
 | succ k c =>
  intro f;have x:aops[k]?=ak (aops[k]'aD):=ah6 _;rw[gW,x,aix,c aD,b.env k _ x,sM];by_cases h:aops[k].dst=ak t
  .rw[ah1 ⟨y k aD,h⟩,ah1 h]
  .rw[ah0 (fun z=>h z.2),ah0 h]
def qD (z:sF P md aops E G V) (x:∀i,i < ae aops->S i=aq):∀k,k<=ae aops->jy md G S k=G k:=by
 intro k
 induction k with
 | zero=>intro _;rfl
 | succ k b =>
  intro c;rw[jy,b aD];by_cases h:iw md k=aq
  .rw[ah1 ⟨x k aD,h⟩]
  .rw[ah0 (fun y=>h y.2),z.heap k aD (by simpa using h)]
def KJ (z:jV ed md aops=aq) (l:Down ed S) (m:aops[i]?=ak x) (n:S i=ar) (t:Nat):∀k,k<=ae aops ->
  gW aops V (E 0) (fun j=>S j || j==i) k t=if i < k/\x.dst=ak t then V i else gW aops V (E 0) S k t:=by
 intro k
 induction k with
 | zero=>intro _;simp[gW]
 | succ k p =>
  intro q;have b:aops[k]?=ak (aops[k]'aD):=ah6 _;rw[gW,b,aix,p aD,gW,b,aix];by_cases f:k=i
  .grind
  .have g:(S k || k==i)=S k:=by simp[f]
   rw[g];by_cases h:S k=aq/\aops[k].dst=ak t
   .rw[ah1 h];by_cases c:i < k+1/\x.dst=ak t
    .have y:i < k:=aD;have:kr x aops[k]=aq:=by simp[kr,c.2,h.2]
     have:=(m8 z m b aD).1 this;have:=gZ S l y this h.1;simp[n] at this
    .rw[ah0 c,ah1 h]
   .grind
def vU (y:jV ed md aops=aq) (f:Down ed S) (g:aops[i]?=ak p) (l:S i=ar):∀k,k<=ae aops ->
  jy md G (fun j=>S j || j==i) k=if i < k/\iw md i=aq then G (i+1) else jy md G S k:=by
 intro k
 induction k with
 | zero=>intro _;simp[jy]
 | succ k n =>
  intro q;have m:aops[k]?=ak (aops[k]'aD):=ah6 _;rw[jy,n aD,jy];by_cases b:k=i
  .grind
  .have c:(S k || k==i)=S k:=by simp[b]
   rw[c];by_cases h:S k=aq/\iw md k=aq
   .rw[ah1 h];by_cases z:i < k+1/\iw md i=aq
    .have x:i < k:=aD;have:=(m8 y g m aD).2 z.2 (.inl h.2);have:=gZ S f x this h.1;simp[l] at this
    .rw[ah0 z,ah1 h]
   .grind
end
def mc (ops:Array Oper):∀(fuel t:Nat) (h:Array Bool) (acc:List Nat),Region.linearise.go .any ops fuel t h acc=acc.reverse++Region.linearise.go .any ops fuel t h []
 | 0,t,h,acc=>by simp[Region.linearise.go]
 | fuel+1,t,h,acc=>by
  simp only[Region.linearise.go];split
  .rename_i i _;rw[mc ops fuel _ _ (i::acc),mc ops fuel _ _ [i]];simp
  .simp
def filter_lt {p q:Nat->Bool} (k:∀x,q x=aq->p x=aq) {i:Nat} (c:p i=aq) (f:q i=ar):∀{l:List Nat},i∈l->ae (l.filter q) < ae (l.filter p)
 | [],h=>by simp at h
 | x::r,h=>by
  have b:∀l:List Nat,ae (l.filter q)<=ae (l.filter p):=by
   intro l
   induction l with
   | nil=>simp
   | cons y s m =>
    simp only[amb];by_cases z:q y=aq
    .rw[ah1 z,ah1 (k y z)];simpa using m
    .grind
  by_cases j:x=i
  .grind
  .have g:i∈r:=by simp at h;rcases h with h | h;exact absurd h.symm j;exact h
   have:=filter_lt k c f g;simp only[amb];by_cases z:q x=aq
   .rw[ah1 z,ah1 (k x z)];simpa using this
   .grind
def Xr {ops:Array Oper} {aops:List bU} {md:List Nat} (hc:fM P N ops ops.toList aops=aq) (K:jV (ops.toList.map bH) md aops=aq) {E:Nat->Env} {G:Nat->aF} {V:Nat->AV} (O:sF P md aops E G V) {Q:Exit->Act->World->Prop} :
  ∀(fuel t:Nat) (y:Array Bool) (e:Env) (H:aF) (I:Imm) (β:Bet) (a:Act) (w:World),y.size=ops.size->ae ((aC ops.size).filter fun i => !y.getD i aq)<=fuel->Down (ops.toList.map bH) (fun i=>y.getD i ar) ->
   (∀s,lk s e=gW aops V (E 0) (fun i=>y.getD i ar) (ae aops) s)->H=jy md G (fun i=>y.getD i ar) (ae aops)->cE dl N I β e H a w ->
   (∀a' w',Out dl N I β H w (E (ae aops)) (G (ae aops)) a' w'->Q .normal a' w')->wpOpsIn (FR fo) 0 P ops Q (Region.linearise.go .any ops fuel t y []) a w:=by
 have ⟨a7,a6⟩:=fR hc;have b7:ops.size=ae aops:=bu a7;intro fuel
 induction fuel with
 | zero =>
  intro t y e H I β a w b2 a4 z he hH s hq;have b:∀i,i < ae aops->y.getD i ar=aq:=by
   intro i hi;cases hl:y.getD i ar with
   | true=>rfl
   | false =>
    have:i∈(aC ops.size).filter fun i => !y.getD i aq:=by
     simp only[ajb,ajv];refine ⟨aD,?_⟩;have:y.getD i aq=y.getD i ar:=by simp[aib,show i < y.size by omega]
     rw[this,hl];rfl
    have:=alE this;omega
  simp only[Region.linearise.go,alP,wpOpsIn];refine hq a w ⟨I,β,?_,?_⟩
  .rw[hH,qD O b _ (ahZ _)];exact .refl _ _ _ _
  .refine ⟨?_,s.size,fun t=>?_,s.sH⟩
   .have:=s.bG;rw[hH,qD O b _ (ahZ _)] at this;exact this
   .have:=s.env t;rw[he,GP O b t _ (ahZ _)] at this;exact this
 | succ fuel ih =>
  intro t y e H I β a w b2 a4 z he hH s hq;have a1:∀i,i < ae aops->y.getD i aq=y.getD i ar:=by intro i hi;simp[aib,show i < y.size by omega]
  simp only[Region.linearise.go];split
  .rename_i i a2;rw[mc];have R:=aiX a2;simp only[ajb,ajv,ah2,ajJ] at R;have ⟨A,c,X⟩:=R;have B:i < ae aops:=aD;have C:=aiN A;have n:=ah6 B;rw[a1 i B] at c;rw[C] at X;simp only[ai3,ai9] at X;have a0:∀j,j∈bH ops[i]->y.getD j ar=aq:=by intro j J;simp only[bH,aiw,ajb] at J;obtain ⟨ed,⟨U,h2⟩,rfl⟩:=J;have:=aj8.1 X ed (bu U);simpa[h2] using this
   have b3:(ops.toList.map bH)[i]?=ak (bH ops[i]):=by simp[C]
   have b0:∀j,(y.setIfInBounds i aq).getD j ar=(y.getD j ar || j==i):=by
    intro j;simp only[aib,aiH];by_cases h:i=j
    .subst h;simp[show i < y.size by omega]
    .rw[ah0 h];simp[show ¬j=i from fun h'=>h h'.symm]
   have L:=funext b0;have f:Down (ops.toList.map bH) (fun j=>y.getD j ar || j==i):=by
    intro j T J b1 k hk;simp only[akh,ajt] at b1 ⊢;rcases b1 with h | h
    .exact .inl (z j T J h k hk)
    .subst h;rw[b3] at J;cases J;exact .inl (a0 k hk)
   have M:=O.step i _ n;have F:∀l:List Nat,(∀s,s∈l->∀(j:Nat) x,aops[j]?=ak x->j≠i->x.dst=ak s->kr x aops[i]=aq)->ef l (E i) e:=by intro l hl s hs;have:=Of K O z n c f (t:=s) (fun j x J a9 W=>by have:=(m8 K J n a9).1 (hl s hs j x J a9 W);rw[oJ] at this;exact this) (ae aops) (ahZ _);rw[he,this,akU (by omega)]
   have U:ef aops[i].op.dP (E i) e:=F _ fun s hs j x _ _ W=>by simp[kr,W,hs]
   have h2:ef (uD aops[i].g) (E i) e:=F _ fun s hs j x _ _ W=>by simp[kr,W,hs]
   have b5:jH P N ops ops[i] aops[i]=aq:=a6 i _ _ (by simp[C]) n;have c1:(aops[i].op.dV=aq->iw md i=aq):=by intro hw;simp only[jV,ah2] at K;have U:=ah4.1 K.2 i (bu B);rw[ah2,n] at U;have:=U.1;simpa[hw] using this
   obtain ⟨H1,c0,b4⟩:∃H1,ku P aops[i] e H (V i) H1/\H1=jy md G (fun j=>y.getD j ar || j==i) (ae aops):=by
    by_cases a3:iw md i=aq\/aops[i].op.reads=aq
    .have hh:=Kp K O z n c f a3 (ae aops) (ahZ _);rw[akU (by omega)] at hh;refine ⟨G (i+1),?_,?_⟩
     .have:=M.Gh U h2;rw[hH,hh];exact this
     .rw[vU K z n c (ae aops) (ahZ _)];by_cases hm:iw md i=aq
      .rw[ah1 ⟨B,hm⟩]
      .rw[ah0 (fun h=>hm h.2),hh,O.heap i B (by simpa using hm)]
    .have hm:=fun h=>a3 (.inl h);have hr:aops[i].op.reads=ar:=bu (fun h=>a3 (.inr h));have c2:aops[i].op.dV=ar:=by
      cases c3:aops[i].op.dV with
      | false=>rfl
      | true=>exact absurd (c1 c3) hm
     refine ⟨H,(M.Gh U h2).Kd hr c2 H,?_⟩;rw[vU K z n c (ae aops) (ahZ _),ah0 (fun h=>hm h.2),hH]
   refine Eg C b5 s c0 fun a' I' c8 w' x' s'=>?_;refine ih (t / _) (y.setIfInBounds i aq) (fq aops[i].dst (V i) e) H1 I' c8 a' w' (bu b2) ?_ (by rw[L];exact f) ?_ (by rw[L];exact b4) s' (fun c6 c7 ho=>hq _ _ (ho.step x'))
   .have:=filter_lt (p:=fun j => !y.getD j aq) (q:=fun j => !(y.setIfInBounds i aq).getD j aq) (i:=i) (l:=aC ops.size) (fun x hx=>by
     simp only[aib,aiH] at hx ⊢;by_cases h:i=x
     .subst h;simp[show i < y.size by omega] at hx
     .rw[ah0 h] at hx;exact hx) (by rw[a1 i B,c];rfl) (by simp[aib,show i < y.size by omega]) (bu A);omega
   .intro s';rw[L,KJ K z n c s' (ae aops) (ahZ _),sM];by_cases hd:aops[i].dst=ak s'
    .rw[ah1 hd,ah1 ⟨B,hd⟩]
    .rw[ah0 hd,ah0 (fun h=>hd h.2),he]
  .rename_i D;have a5:((aC ops.size).filter fun i => !y.getD i aq&&((ops[i]?).map (·.after.all fun e => !Region.binds .any e || y.getD e.on ar)).getD ar)=[]:=by
    cases b9:((aC ops.size).filter fun i => !y.getD i aq&&((ops[i]?).map (·.after.all fun e => !Region.binds .any e || y.getD e.on ar)).getD ar) with
    | nil=>rfl
    | cons x r =>
     rw[b9] at D;have:t % ae (x::r) < ae (x::r):=alh _ aO;rw[ah6 this] at D;simp at D
   have b:∀i,i < ae aops->y.getD i ar=aq:=by
    intro i
    induction i using Nat.strongRecOn with
    | _ i c5 =>
     intro hi;cases hl:y.getD i ar with
     | true=>rfl
     | false =>
      exfalso;have A:i < ops.size:=aD;have C:=aiN A;have a8:∀j,j∈bH ops[i]->j < i:=by
       have S:=K;simp only[jV,ah2] at S;have gen:∀(l:List (List Nat)) (k:Nat),eZ k l=aq->∀(m:Nat) T,l[m]?=ak T->∀j,j∈T->j < k+m:=by
        intro l
        induction l with
        | nil=>intro k _ m T h;simp at h
        | cons x r c4 =>
         intro k hk m T h j J;simp only[eZ,ah2] at hk;cases m with
         | zero=>simp at h;subst h;have:=ah4.1 hk.1 j J;simpa using this
         | succ m=>have:=c4 (k+1) hk.2 m T (bu h) j J;omega
       intro j J;have:=gen _ 0 S.1.1 i (bH ops[i]) (by simp[C]) j J;omega
      have:i∈((aC ops.size).filter fun i => !y.getD i aq&&((ops[i]?).map (·.after.all fun e => !Region.binds .any e || y.getD e.on ar)).getD ar):=by
       simp only[ajb,ajv,ah2,ajJ];refine ⟨A,by rw[a1 i hi];exact hl,?_⟩;rw[C];simp only[ai3,ai9];refine aj8.2 fun ed b6=>?_;cases hb:Region.binds .any ed with
       | false=>rfl
       | true =>
        have hm:ed.on∈bH ops[i]:=by simp only[bH,aiw,ajb];exact ⟨ed,⟨bu b6,hb⟩,rfl⟩
        have b8:=a8 _ hm;simp[c5 _ b8 aD]
      rw[a5] at this;simp at this
   simp only[alP,wpOpsIn];refine hq a w ⟨I,β,?_,?_⟩
   .rw[hH,qD O b _ (ahZ _)];exact .refl _ _ _ _
   .refine ⟨?_,s.size,fun t=>?_,s.sH⟩
    .have:=s.bG;rw[hH,qD O b _ (ahZ _)] at this;exact this
    .have:=s.env t;rw[he,GP O b t _ (ahZ _)] at this;exact this
end
end Go.Fx
