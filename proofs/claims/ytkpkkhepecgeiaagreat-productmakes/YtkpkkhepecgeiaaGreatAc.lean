/- ProductMakes returns true whatever its arguments are: part 3 of 14. No condition. -/
import Derived.Test.YtkpkkhepecgeiaaGreatAb
import Derived.Scope
set_option linter.all false
set_option maxRecDepth 8000
set_option maxHeartbeats 9000000
set_option autoImplicit true
set_option relaxedAutoImplicit true
namespace Go.Fx
open List renaming length->ae,getD->af,replicate->aA,eraseIdx->aB,range->aC
open Inhabited renaming default->ah
open Option renaming some->ak,none->an
open Bool renaming true->aq,false->ar
open Go.IntKind renaming wrap->au
open Int renaming natAbs->ay,toNat->az
section
variable {P:Program} {dl:List Deferred} {fo:Option Nat} {N:Nat} {I:Imm} {β:Bet} {e:Env} {H H':aF} {a:Act} {w:World} {o:Oper} {v:AV}
def cG.Zi {l:List AV} {vs:List Value} {β2:Bet} (h:ae l=ae vs):cG I β2 (l.map fun _ => .ba) vs:=by refine ⟨by simp[h],fun j a v k y=>?_⟩;rw[ajp] at k;obtain ⟨x,z,rfl⟩:=aiD.1 k;exact .ba
section out
variable {ρ:Nat->Nat} {β1:Bet} (hβ:∀id ver B,β1 id ver=some B->β (ρ id) ver=some B)
include hβ
def Rel.Rn {a:AV} {v:Value} (h:Rel I β1 a v):Rel I β (Rn ρ a) v:=by
 cases h with
 | c g=>exact .c g
 | nil=>exact .nil
 | kf g=>exact .kf g
 | seq z k x y b i=>exact .seq z k x y b i
 | fp z f k x=>exact .fp z f k x
 | ptr k x=>exact .ptr (hβ _ _ _ k) x
 | sl k x y=>exact .sl (hβ _ _ _ k) x y
 | Ai k x=>exact .Ai (hβ _ _ _ k) x
 | fn k x y b =>
  have g1:=cG.Zi (I:=I) (β2:=β) k;have g2:=cG.Zi (I:=I) (β2:=β) x;exact .fn g1.1 g2.1 g1.2 g2.2
 | agg _ _=>exact .ba
 | bM _ _=>exact .ba
 | ba=>exact .ba
end out
def Rel.Te {c:Imm} {g β2:Bet} {k id ver i n:Nat} {B:Blk} (y:β id ver=ak B) (x:β.le g) (f:β.le β2) {v:Value} (h:Rel c g (.sl k id ver i n) v):Rel c β2 (.sl k id ver i n) v:=by
 cases h with
 | sl z b j=>have:=x _ _ _ y;rw[z] at this;cases this;exact .sl (f _ _ _ y) b j
 | Ai z b=>have:=x _ _ _ y;rw[z] at this;cases this;exact .Ai (f _ _ _ y) b
def IS {α δ γ:Type} {l:List α} {m:List δ} (h:ae l=ae m) {k:List γ} (z:ae l=ae k) {j:Nat} {x:γ} (e:k[j]?=ak x):∃y,m[j]?=ak y :=
 ⟨_,ah6 (by have:=(aid.1 e).1;omega)⟩
def Rel.jr {r p:Imm} {n β2:Bet} {D:Value} {x:AV} (s:Rel r β x D) (y:β.le n) (f:β.le β2) {v:Value} (h:Rel p n x v):Rel p β2 x v:=by
 induction s generalizing v n β2 with
 | c _=>exact h.bT rfl _
 | nil=>exact h.bT rfl _
 | kf _=>exact h.bT rfl _
 | seq _ _ _ _ _ _=>exact h.bT rfl _
 | fp _ _ _ _=>exact h.bT rfl _
 | ptr i X =>
  cases h with
  | ptr t K=>have:=y _ _ _ i;rw[t] at this;cases this;exact .ptr (f _ _ _ i) K
 | sl i X L=>exact h.Te i y f
 | Ai i J=>exact h.Te i y f
 | fn m C _ _ l A =>
  obtain ⟨O,M,rfl,z,q⟩:=h.Cc;refine .fn z.1 q.1 (fun j a v k b=>?_) (fun j a v k b=>?_)
  .have ⟨u,g⟩:=IS m rfl k;exact l j a u k g y f (z.2 j a v k b)
  .have ⟨u,g⟩:=IS C rfl k;exact A j a u k g y f (q.2 j a v k b)
 | agg m _ l =>
  obtain ⟨F,rfl,z⟩:=h.vC;refine .agg z.1 (fun j a v k b=>?_);have ⟨u,g⟩:=IS m rfl k;exact l j a u k g y f (z.2 j a v k b)
 | bM m _ l =>
  obtain ⟨F,rfl,z⟩:=h.CC;refine .bM z.1 (fun j a v k b=>?_);have ⟨u,g⟩:=IS m rfl k;exact l j a u k g y f (z.2 j a v k b)
 | ba=>exact .ba
def eL.jr (z:eL I β w B ob) (M:B.k=ob.k) (b:β.le O) (L:β.le β2) (h:eL n O w' B ob):eL n β2 w' B ob:=by
 unfold eL at z h ⊢;split
 .rename_i f;rw[ah1 f] at h;exact h
 .rename_i f;rw[ah0 f] at z h;have ⟨c,E,s,t,K,X,A,C⟩:=h;have ⟨l,S,T,U,f3,q,m,r⟩:=z;refine ⟨c,E,s,t,K,X,A,fun i j a v y p=>?_⟩;have D:=j7 (fun x g=>(m x g).1) y;have F:=(aid.1 D).1;rw[eA (fun x g=>(m x g).1),<-M] at F;have h3:ae ob.xs*B.k<=B.cap*B.k:=ai7 _ q;have J:l[B.off+i*B.k+j]?=ak l[B.off+i*B.k+j]:=aiN aD;exact (r i j a _ y J).jr b L (C i j a v y p)
def VE (s:Sim I β K w) (C:Ext I β K w I' O (K++[ak ob]) w') (s':Sim I' O (K++[ak ob]) w') (hh:K[h]?=ak an) (hn:∀ver,β h ver=an)
  (q:∀id ver,id≠ae K->O id ver=β id ver) (hc:ob.xs.all (fun x=>x.all (bp (ae K)))=aq) :
  ∃β2,Sim I' β2 (K.set h (ak ob)) w'/\Ext I β K w I' β2 (K.set h (ak ob)) w'/\(∀ver,β2 h ver=O (ae K) ver)/\(∀id ver,id≠h->β2 id ver=β id ver):=by
 have a0:=(aid.1 hh).1;let β2:Bet:=fun id ver=>if id=h then O (ae K) ver else β id ver;have b1:∀ver,β2 h ver=O (ae K) ver:=fun ver=>by simp[β2]
 have T:∀id ver,id≠h->β2 id ver=β id ver:=fun id ver p=>by simp[β2,p]
 have t:β.le β2:=fun id ver B f=>by
  by_cases y:id=h
  .subst y;rw[hn] at f;simp at f
  .rw[T _ _ y];exact f
 have D:∀(id:Nat) k,(K.set h (ak ob))[id]?=ak (ak k)->(id=h/\k=ob)\/(id≠h/\K[id]?=ak (ak k)):=by
  intro id k y;by_cases m:id=h
  .subst m;rw[alD a0] at y;simp at y;exact .inl ⟨rfl,y.symm⟩
  .rw[ajc (ait m)] at y;exact .inr ⟨m,y⟩
 have F:(K++[ak ob])[ae K]?=ak (ak ob):=aO;have J:∀{id:Nat} {k},K[id]?=ak (ak k)->(K++[ak ob])[id]?=ak (ak k)/\id < ae K:=fun {id k} y=>by have:=(aid.1 y).1;exact ⟨aic this ▸ y,this⟩
 have sig:∀(id:Nat) k,(K.set h (ak ob))[id]?=ak (ak k)->∃X,(K++[ak ob])[X]?=ak (ak k)/\(∀ver,β2 id ver=O X ver)/\((id=h/\X=ae K)\/(id≠h/\X=id/\id < ae K)):=by
  intro id k y;rcases D id k y with ⟨rfl,rfl⟩ | ⟨p,y⟩
  .exact ⟨ae K,F,b1,.inl ⟨rfl,rfl⟩⟩
  .have ⟨z,l⟩:=J y;exact ⟨id,z,fun ver=>by rw[T _ _ p,q _ _ aD],.inr ⟨p,rfl,l⟩⟩
 refine ⟨β2,⟨s'.fP,fun id k y=>?_,fun id X a3 a4 B B' z l c1 c2 n1 n2 f=>?_,fun id ver B f=>?_,fun id k n y hv=>?_⟩,⟨C.fP,t,ah8 ▸ ahZ _,C.size,C.os,C.tape,C.output,C.frame,fun b f=>?_⟩,b1,T⟩
 .rcases D id k y with ⟨rfl,rfl⟩ | ⟨p,y⟩
  .have ⟨B,q1,S,A⟩:=s'.obj _ _ F;refine ⟨B,by rw[b1];exact q1,S,?_⟩;unfold eL at A ⊢;split
   .rename_i M;rw[ah1 M] at A;exact A
   .rename_i M;rw[ah0 M] at A;have ⟨c,E,L,g2,g3,g4,g5,g6⟩:=A;refine ⟨c,E,L,g2,g3,g4,g5,fun i j a v e1 e2=>?_⟩;have m:bp (ae K) a=aq:=by unfold dL at e1;have ⟨x,hx,a1⟩:=ah7.1 e1;exact fX (ah4.1 hc x (aiX hx)) a1
    have r:=g6 i j a v e1 e2;have f:∀id ver B,id < ae K->O id ver=ak B->β2 id ver=ak B:=fun id ver B a2 f=>by rw[q _ _ aD] at f;exact t _ _ _ f
    cases r with
    | c g=>exact .c g
    | nil=>exact .nil
    | kf g=>exact .kf g
    | seq vs z l h3 h4 h5=>exact .seq vs z l h3 h4 h5
    | fp vs h0 z l=>exact .fp vs h0 z l
    | ptr z l=>simp[bp] at m;exact .ptr (f _ _ _ m z) l
    | sl z l h3=>simp[bp] at m;exact .sl (f _ _ _ m z) l h3
    | Ai z l=>simp[bp] at m;exact .Ai (f _ _ _ m z) l
    | fn z l h3 h4 =>
     simp only[bp,ah2,amN] at m;obtain ⟨rfl,rfl⟩:=m;exact .fn z l (fun j a v e=>by simp at e) (fun j a v e=>by simp at e)
    | ba=>exact .ba
    | _=>simp[bp] at m
  .have ⟨z,l⟩:=J y;have ⟨B,q1,S,A⟩:=s'.obj _ _ z;have ⟨B0,p1,p2,p3⟩:=s.obj _ _ y;have:=C.ue _ _ _ p1;rw[q1] at this;cases this;exact ⟨B,T _ _ p ▸ p1,S,p3.jr p2 C.ue t A⟩
 .have ⟨i1,L,U,z1⟩:=sig _ _ z;have ⟨i2,g2,k2,z2⟩:=sig _ _ l;rw[U] at c1;rw[k2] at c2;have:=s'.inj _ _ _ _ _ _ L g2 c1 c2 n1 n2 f;omega
 .rw[ah8];by_cases y:id=h
  .omega
  .rw[T _ _ y] at f;exact s.jr _ _ _ f
 .have ⟨i1,L,U,_⟩:=sig _ _ y;rw[U];exact s'.ver _ _ n L hv
 .have ⟨id,k,B,q1,S,A,q4⟩:=f;have ⟨i1,L,U,_⟩:=sig _ _ q1;rw[U] at S;exact C.own b ⟨i1,k,B,L,S,A,q4⟩
def XI (s:Sim I β H w) (n:Nat):Sim I β (H++aA n an) w/\Ext I β H w I β (H++aA n an) w:=by
 have k:∀(id:Nat) x,(H++aA n (an:Option bz))[id]?=ak (ak x)->H[id]?=ak (ak x):=by
  intro id x h;rcases aij id (ae H) with y | y
  .rw[aic y] at h;exact h
  .rw[aiC y,aji] at h;split at h<;>simp at h
 refine ⟨⟨s.fP,fun id x h=>s.obj id x (k _ _ h),fun id j x l B p h z=>s.inj _ _ _ _ _ _ (k _ _ h) (k _ _ z),fun id ver B h=>by have:=s.jr id ver B h;simp;omega,fun id x m h=>s.ver _ _ m (k _ _ h)⟩,
  ⟨.refl _,.refl _,aO,ahZ _,rfl,rfl,rfl,fun _ _ _=>⟨rfl,fun _=>rfl⟩,fun b i=>?_⟩⟩;have ⟨id,x,B,y,c,f,g⟩:=i;exact .inl ⟨id,x,B,k _ _ y,c,f,g⟩
def aG:AV->List Nat
 | .ptr id _ _ _=>[id]
 | .sl _ id _ _ _=>[id]
 | _=>[]
def kA (o:AOp) (e:Env):List Nat :=
 match o with
 | .ld x _ _=>aG (x.ev e)
 | .st x _ _=>aG (x.ev e)
 | .rX x _ _ _ _=>aG (x.ev e)
 | .zq x _=>aG (x.ev e)
 | .app x y _=>aG (x.ev e)++aG (y.ev e)
 | .s7 x _ _ _=>aG (x.ev e)
 | .AX x _ _=>aG (x.ev e)
 | _=>[]
def uL (n:Nat):List Nat->List Nat
 | []=>[n]
 | l=>l
def jU (o:AOp) (e:Env) (n:Nat):List Nat :=
 match o with
 | .st x _ _=>aG (x.ev e)
 | .zq x _=>aG (x.ev e)
 | .app x _ _=>uL n (aG (x.ev e))
 | .s7 x _ _ _=>uL n (aG (x.ev e))
 | .AX x _ _=>aG (x.ev e)
 | .new _ _ | .ug _ | .yf _ _ | .mk _ _ _ _=>[n]
 | .mO _ l=>(l.map (Opd.ev e)).flatMap aG
 | _=>[]
inductive Loc (o:AOp) (e:Env) (G:aF) (v:AV) (G':aF) (K:aF):Prop
 | same:G'=G->gE o e K=some (v,K)->Loc o e G v G' K
 | An (id:Nat) (ob ob':bz):id∈jU o e G.length->G[id]?=some (some ob)->K[id]?=some (some ob)->G'=G.set id (some ob')->gE o e K=some (v,K.set id (some ob'))->Loc o e G v G' K
 | alloc (ob:bz) (f:Nat->AV):G.length∈jU o e G.length->(∀(ρ:Nat->Nat) n,Rn ρ (f n)=f (ρ n))->G'=G++[some ob]->v=f G.length->gE o e K=some (f K.length,K++[some ob])->Loc o e G v G' K
def O6 {o:AOp} {e:Env} {G K:aF} {v:AV} {m:aF} {k:Nat} (A:AV) (ys:List (List AV)) (r:∀id,id∈aG A->∀ver,aI K id ver=aI G id ver) (c:jU o e (ae G)=uL (ae G) (aG A))
  (h:il k G A ys=ak (v,m)) (b:∀{x},il k K A ys=ak x->gE o e K=ak x):Loc o e G v m K:=by
 unfold il at h;split at h
 .rename_i y;split at h<;>simp at h<;>(obtain ⟨rfl,rfl⟩:=h;exact .same rfl (b (by unfold il;rw[ah1 y])))
 .rename_i y;cases A with
  | nil =>
   simp only at h;split at h<;>simp at h;rename_i l;obtain ⟨rfl,rfl⟩:=h;exact .alloc ⟨k,0,ys⟩ (fun n => .sl k n 0 0 (ae ys)) (by rw[c];simp[aG,uL]) (fun _ _=>rfl) rfl rfl (b (by unfold il;rw[ah0 y];simp only;rw[ah1 l]))
  | seq s f q =>
   cases f with
   | false=>simp at h
   | true =>
    simp only at h;split at h<;>simp at h;rename_i l;obtain ⟨rfl,rfl⟩:=h;exact .alloc ⟨k,0,q++ys⟩ (fun n => .sl k n 0 0 (ae q+ae ys)) (by rw[c];simp[aG,uL]) (fun _ _=>rfl) rfl rfl (b (by unfold il;rw[ah0 y];simp only;rw[ah1 l]))
  | sl s id ver i n =>
   simp only at h;have ⟨p,z,h⟩:=ah7.1 h;have hk:=r id (by simp[aG]) ver;rw[z] at hk;split at h
   .rename_i g;split at h<;>simp at h;rename_i j;obtain ⟨rfl,rfl⟩:=h;exact .An id p _ (by rw[c];simp[aG,uL]) (dF z).1 (dF hk).1 rfl (b (by unfold il;rw[ah0 y];simp only[hk,aix];rw[ah1 g,ah1 j]))
   .rename_i g;split at h<;>simp at h;rename_i j;obtain ⟨rfl,rfl⟩:=h;exact .An id p _ (by rw[c];simp[aG,uL]) (dF z).1 (dF hk).1 rfl (b (by unfold il;rw[ah0 y];simp only[hk,aix];rw[ah0 g,ah1 j,aio]))
  | _=>simp at h
def FZ {e:Env} {G K:aF} {v:AV} {J:aF} {o:AOp} (h:gE o e G=ak (v,J)) (s:∀id,id∈kA o e->∀ver,aI K id ver=aI G id ver):Loc o e G v J K:=by
 unfold gE at h;split at h
 .rename_i u M;simp at h;obtain ⟨rfl,rfl⟩:=h;exact .same rfl (by simp[gE,M])
 .rename_i M;have r:∀{x},hv o e K=ak x->gE o e K=ak x:=fun {x} b=>by simp[gE,M,b]
  cases o with
  | new k z =>
   simp only[hv] at h;split at h<;>simp at h;rename_i q;obtain ⟨rfl,rfl⟩:=h;exact .alloc ⟨k,0,[z]⟩ (fun n => .ptr n 0 0 0) (by simp[jU]) (fun _ _=>rfl) rfl rfl (r (by simp only[hv];rw[ah1 q]))
  | ug x =>
   simp only[hv] at h;split at h<;>simp at h;rename_i q;obtain ⟨rfl,rfl⟩:=h;exact .alloc ⟨(x.ev e).cells.length,0,[(x.ev e).cells]⟩ (fun n => .ptr n 0 0 0) (by simp[jU]) (fun _ _=>rfl) rfl rfl (r (by simp only[hv];rw[ah1 q]))
  | yf k ps =>
   simp only[hv] at h;split at h<;>simp at h;rename_i q;obtain ⟨rfl,rfl⟩:=h;exact .alloc ⟨k,0,ps.map fun p=>(p.ev e).cells⟩ (fun n => .sl k n 0 0 (ae ps)) (by simp[jU]) (fun _ _=>rfl) rfl rfl (r (by simp only[hv];rw[ah1 q]))
  | mk k z l c =>
   simp only[hv] at h;split at h
   .rename_i n m h1 h2;split at h<;>simp at h;rename_i q;obtain ⟨rfl,rfl⟩:=h;exact .alloc ⟨k,0,aA n.toNat z⟩ (fun j => .sl k j 0 0 n.toNat) (by simp[jU]) (fun _ _=>rfl) rfl rfl (r (by simp only[hv,h1,h2];rw[ah1 q]))
   .simp at h
  | ld x ag k =>
   simp only[hv] at h;split at h
   .rename_i cs o' b;obtain ⟨u,O,C⟩:=aiD.1 h;simp at C;obtain ⟨rfl,rfl⟩:=C;exact .same rfl (r (by simp only[hv,b,O];rfl))
   .rename_i id ver i o' b;obtain ⟨X,g,h⟩:=ah7.1 h;have ⟨y,D,h⟩:=ah7.1 h;have ⟨u,O,C⟩:=aiD.1 h;simp at C;obtain ⟨rfl,rfl⟩:=C;have:=s id (by simp[kA,b,aG]) ver;exact .same rfl (r (by simp only[hv,b,this,g,aix,D,O];rfl))
   .simp at h
  | st x y k =>
   simp only[hv] at h;split at h
   .rename_i id ver i o' b;obtain ⟨X,g,h⟩:=ah7.1 h;have ⟨z,hz,h⟩:=ah7.1 h;split at h<;>simp at h;rename_i q;obtain ⟨rfl,rfl⟩:=h;have hk:=s id (by simp[kA,b,aG]) ver;rw[g] at hk;exact .An id X _ (by simp[jU,b,aG]) (dF g).1 (dF hk).1 rfl (r (by simp only[hv,b,hk,aix,hz];rw[ah1 q]))
   .simp at h
  | rX x lo hi mx k =>
   cases mx with
   | some m=>simp[hv] at h
   | none =>
    simp only[hv] at h;split at h
    .rename_i T id ver i n b;obtain ⟨X,g,h⟩:=ah7.1 h;have hk:=s id (by simp[kA,b,aG]) ver;rw[g] at hk;have hG:J=G:=by
      split at h
      .have ⟨h',_,h⟩:=ah7.1 h;have ⟨l',_,h⟩:=ah7.1 h;simp at h;exact h.2.symm
      .simp at h
     refine .same hG (r ?_);simp only[hv,b,hk,aix];split at h
     .rename_i L;rw[ah1 L];have ⟨h',g1,h⟩:=ah7.1 h;have ⟨l',g2,h⟩:=ah7.1 h;simp at h;rw[g1];simp only[aix];rw[g2];simp[h.1]
     .simp at h
    .simp at h
  | zq x z =>
   simp only[hv] at h;split at h
   .rename_i b;simp at h;obtain ⟨rfl,rfl⟩:=h;exact .same rfl (r (by simp only[hv,b]))
   .rename_i T id ver i n b;obtain ⟨X,g,h⟩:=ah7.1 h;split at h<;>simp at h;rename_i q;obtain ⟨rfl,rfl⟩:=h;have hk:=s id (by simp[kA,b,aG]) ver;rw[g] at hk;exact .An id X _ (by simp[jU,b,aG]) (dF g).1 (dF hk).1 rfl (r (by simp only[hv,b,hk,aix];rw[ah1 q,aio]))
   .simp at h
  | app x y k =>
   simp only[hv] at h;have ⟨U,S,h⟩:=ah7.1 h;have F:dW k K (y.ev e)=ak U:=by
    rw[<-S];generalize D:y.ev e=A;cases A<;>first | rfl | skip
    .rename_i v0;cases v0<;>first | rfl | (rename_i m cap;cases m<;>rfl)
    rename_i T id ver i n;simp only[dW];rw[s id (by simp[kA,D,aG]) ver]
   exact O6 (x.ev e) U (fun id t ver=>s id (by simp[kA,t]) ver) rfl h fun b=>r (by simp only[hv,F,aix];exact b)
  | AX x y k =>
   simp only[hv] at h;split at h
   .rename_i T id ver i n k2 f U b D;obtain ⟨X,g,h⟩:=ah7.1 h;split at h<;>simp at h;rename_i q;obtain ⟨rfl,rfl⟩:=h;have hk:=s id (by simp[kA,b,aG]) ver;rw[g] at hk;exact .An id X _ (by simp[jU,b,aG]) (dF g).1 (dF hk).1 rfl (r (by simp only[hv,b,D,hk,aix];rw[ah1 q,aio]))
   .simp at h
  | s7 x n k z =>
   simp only[hv] at h;split at h
   .rename_i m hm;split at h
    .rename_i q;exact O6 (x.ev e) _ (fun id t ver=>s id (by simp[kA,t]) ver) rfl h fun b=>r (by simp only[hv,hm];rw[ah1 q];exact b)
    .simp at h
   .simp at h
  | _=>exact nomatch (show (an:Option (AV × aF))=ak (v,J) from h)
def eH (H:aF) (id:Nat):Option bz:=(H[id]?).join
def SB {H K:aF} {id:Nat} (h:eH K id=eH H id) (ver:Nat):aI K id ver=aI H id ver:=by
 unfold eH at h;unfold aI;cases z:H[id]? with
 | none =>
  rw[z] at h;cases k:K[id]? with
  | none=>rfl
  | some y=>rw[k] at h;cases y<;>simp at h;rfl
 | some x =>
  rw[z] at h;cases k:K[id]? with
  | none=>rw[k] at h;cases x<;>simp at h;rfl
  | some y=>rw[k] at h;cases x<;>cases y<;>simp_all
def Iz (P:Program) (f:FuncId) (args:List AV) (r:AV):Prop :=
 sZ P f/\∀I β H w vs,Sim I β H w->cG I β args vs->Calls P f vs.toArray w fun e w'=>∃rv I',e = .returned rv/\Ext I β H w I' β H w'/\Sim I' β H w'/\Rel I' β r rv
def tv (P:Program) (f:FuncId) (args:List AV) (v:AV) (a:Nat) (ob ob':bz):Prop :=
 args.flatMap aG=[a]/\sZ P f/\∀K,eH K a=ak ob->bR P f args K v (K.set a (ak ob'))
inductive pJ (P:Program) (fl:Prop) (ao:bU) (e:Env) (G:aF) (v:AV) (G':aF) (W R:List Nat):Prop
 | off:fi ao.g e=some false->v = .bM []->G'=G->W=[]->pJ P fl ao e G v G' W R
 | call (f:FuncId) (args:List AV):fi ao.g e=some true->fI ao.op e=some (f,args)->Iz P f args v->G'=G->W=[]->pJ P fl ao e G v G' W R
 | op:fi ao.g e=some true->fI ao.op e=none->gE ao.op e G=some (v,G')->(G'.drop G.length).all (cg G.length)=true->W=jU ao.op e G.length->R=kA ao.op e->pJ P fl ao e G v G' W R
 | loc (f:FuncId) (args:List AV) (a:Nat) (ob ob':bz):fi ao.g e=some true->fI ao.op e=some (f,args)->tv P f args v a ob ob'->eH G a=some ob->G'=G.set a (some ob')->W=[a]->fl->pJ P fl ao e G v G' W R
structure qf (P:Program) (fl:Prop) (aops:List bU) (E:Nat->Env) (G:Nat->aF) (V:Nat->AV) (W R:Nat->List Nat):Prop where
 step:∀(i:Nat) ao,aops[i]?=some ao->pJ P fl ao (E i) (G i) (V i) (G (i+1)) (W i) (R i)
 env:∀(i:Nat) ao,aops[i]?=some ao->E (i+1)=fq ao.dst (V i) (E i)
 flat:fl->(G aops.length).length=(G 0).length
structure CN (ed:List (List Nat)) (aops:List bU) (W R:Nat->List Nat):Prop where
 low:eZ 0 ed=true
 len:ed.length=aops.length
 vX:∀{i j:Nat} {x y:bU},aops[i]?=some x->aops[j]?=some y->i≠j->kr x y=true->k9 (kF ed []) i j=true
 eQ:∀{i j id:Nat},i < aops.length->j < aops.length->i≠j->id∈W i->(id∈W j\/id∈R j)->k9 (kF ed []) i j=true
def pJ.other {fl:Prop} {i:bU} {e:Env} {G c:aF} {v:AV} {W R:List Nat} (h:pJ P fl i e G v c W R) {id:Nat} (k:id∉W):eH c id=eH G id:=by
 cases h with
 | off _ _ h _=>rw[h]
 | call _ _ _ _ _ h _=>rw[h]
 | op s q l p x n =>
  subst x;cases FZ (K:=G) l (fun _ _ _=>rfl) with
  | same h _=>rw[h]
  | An m g b z r _ h _ =>
   rw[h];unfold eH;rw[ajc (fun y=>k (by subst y;exact z))]
  | alloc g f z _ h _ _ =>
   rw[h];unfold eH;rcases aj0 id (ae G) with x | x | x
   .rw[aic x]
   .subst x;exact absurd z k
   .rw[aiO bW,aiO aD]
 | loc f args a g b _ _ _ _ h j _ =>
  rw[h];unfold eH;rw[ajc (fun y=>k (by subst y;rw[j];simp))]
def pJ.len {fl:Prop} {z:bU} {e:Env} {G x:aF} {v:AV} {W R:List Nat} (h:pJ P fl z e G v x W R):ae G<=ae x:=by
 cases h with
 | off _ _ h _=>rw[h];exact ahZ _
 | call _ _ _ _ _ h _=>rw[h];exact ahZ _
 | op q n c m i j =>
  cases FZ (K:=G) c (fun _ _ _=>rfl) with
  | same h _=>rw[h];exact ahZ _
  | An g y k b p _ h _=>rw[h,ah8];exact ahZ _
  | alloc y f b _ h _ _=>rw[h];simp
 | loc f args a y k _ _ _ _ h l _=>rw[h,ah8];exact ahZ _
def kv (G:Nat->aF) (W:Nat->List Nat) (S:Nat->Bool):Nat->Nat->Option bz
 | 0,id=>eH (G 0) id
 | k+1,id=>if S k=aq/\id∈W k then eH (G (k+1)) id else kv G W S k id
def Li (L n:Nat) (G:Nat->aF) (W:Nat->List Nat) (S:Nat->Bool):aF:=(aC L).map (kv G W S n)
section
variable {fl:Prop} {aops:List bU} {E:Nat->Env} {G:Nat->aF} {V:Nat->AV} {W R:Nat->List Nat} {ed:List (List Nat)}
def qf.get (x:qf P fl aops E G V W R) (h:k < ae aops):pJ P fl aops[k] (E k) (G k) (V k) (G (k+1)) (W k) (R k):=x.step k _ (ah6 h)
def lens (x:qf P fl aops E G V W R):∀{j i:Nat},i<=j->j<=ae aops->ae (G i)<=ae (G j)
 | 0,i,y,_=>by rw[show i=0 by omega];exact ahZ _
 | j+1,i,y,z=>by
  rcases aij i (j+1) with h | h
  .exact aiJ (lens x (show i<=j by omega) (by omega)) (x.get (k:=j) (by omega)).len
  .rw[show i=j+1 by omega];exact ahZ _
def aaI (z:CN ed aops W R) (r:qf P fl aops E G V W R) {S:Nat->Bool} (q:Down ed S) {i:Nat} (n:i < ae aops) (p:S i=ar) (g:Down ed fun j=>S j || j==i) {id:Nat} (x:id∈W i\/id∈R i) :
  ∀k,k<=ae aops->kv G W S k id=eH (G (min k i)) id:=by
 intro k
 induction k with
 | zero=>intro _;simp[kv]
 | succ k s =>
  intro t;rw[kv,s (by omega)];by_cases y:k < i
  .rw[show min (k+1) i=k+1 by omega,show min k i=k by omega];by_cases c:id∈W k
   .have:=z.eQ (show k < ae aops by omega) n (by omega) c x;have b:=gZ _ g y this aO;simp only[akh,ajt] at b;rw[ah1 ⟨b.resolve_right (by omega),c⟩]
   .rw[ah0 (fun h=>c h.2),(r.get (k:=k) (by omega)).other c]
  .rw[show min (k+1) i=i by omega,show min k i=i by omega,ah0];rintro ⟨l,b⟩;rcases alz (ama y) with f | f
   .subst f;simp[p] at l
   .have m:=z.eQ (show k < ae aops by omega) n (by omega) b x;rw[oJ] at m;have:=gZ S q f m l;simp[p] at this
def Y9 (z:qf P fl aops E G V W R) (x:∀i,i < ae aops->S i=aq) (id:Nat):∀k,k<=ae aops->kv G W S k id=eH (G k) id:=by
 intro k
 induction k with
 | zero=>intro _;rfl
 | succ k b =>
  intro c;rw[kv,b aD];by_cases h:id∈W k
  .rw[ah1 ⟨x k aD,h⟩]
  .rw[ah0 (fun y=>h y.2),(z.get (k:=k) aD).other h]
def Za (b:CN ed aops W R) (l:Down ed S) (m:i < ae aops) (n:S i=ar) (id:Nat):∀k,k<=ae aops ->
  kv G W (fun j=>S j || j==i) k id=if i < k/\id∈W i then eH (G (i+1)) id else kv G W S k id:=by
 intro k
 induction k with
 | zero=>intro _;simp[kv]
 | succ k p =>
  intro q;rw[kv,p (by omega),kv];by_cases c:k=i
  .subst c;by_cases f:id∈W k
   .simp[f]
   .simp[f]
  .have g:(S k || k==i)=S k:=by simp[c]
   rw[g];by_cases y:S k=aq/\id∈W k
   .rw[ah1 y];by_cases x:i < k+1/\id∈W i
    .have z:i < k:=aD;have:=b.eQ m (show k < ae aops by omega) (by omega) x.2 (.inl y.2);have:=gZ S l z this y.1;simp[n] at this
    .rw[ah0 x,ah1 y]
   .rw[ah0 y,ah0 y];by_cases x:i < k/\id∈W i
    .rw[ah1 x,ah1 ⟨by omega,x.2⟩]
    .rw[ah0 x,ah0 (fun h=>x ⟨by omega,h.2⟩)]
def Xl {L n:Nat} {S:Nat->Bool} {id:Nat} (h:id < L):(Li L n G W S)[id]?=ak (kv G W S n id):=by simp[Li,amu h]
def Cf:ae (Li L n G W S)=L:=by simp[Li]
def Fs {L n:Nat} {S:Nat->Bool} {id:Nat} (h:id < L):eH (Li L n G W S) id=kv G W S n id:=by unfold eH;rw[Xl h];rfl
def HL {H:aF} {id:Nat} (h:ae H<=id):eH H id=an:=by unfold eH;rw[aiO h];rfl
def Jb (y:ae K=ae K') (h:∀id,id < ae K->eH K id=eH K' id):K=K':=by apply akH y;intro id k x;have:=h id k;unfold eH at this;rw[ah6 k,ah6 x] at this;simpa using this
def vE {K:aF} {id k:Nat} {o:Option bz} (h:id < ae K):eH (K.set id o) k=if k=id then o else eH K k:=by
 unfold eH;by_cases x:k=id
 .subst x;rw[alD h,ah1 rfl];rfl
 .rw[ajc (ait x),ah0 x]
def XO (r:CN ed aops W R) (s:qf P fl aops E G V W R) (q:Down ed S) (X:aops[i]?=ak K) (p:S i=ar)
  (l:Down ed fun j=>S j || j==i) (z:∀(j:Nat) x,aops[j]?=ak x->j≠i->x.dst=ak t->k9 (kF ed []) i j=aq) :
  ∀k,k<=ae aops->gW aops V (E 0) S k t=lk t (E (min k i)):=by
 intro k
 induction k with
 | zero=>intro _;simp[gW]
 | succ k m =>
  intro A;have m:=m aD;have f:aops[k]?=ak (aops[k]'aD):=ah6 _;rw[gW,f,aix,m];by_cases b:k < i
  .rw[show min (k+1) i=k+1 by omega,show min k i=k by omega,s.env k _ f,sM];by_cases y:aops[k].dst=ak t
   .have:=z k _ f aD y;rw[oJ] at this;have c:=gZ _ l b this aO;simp only[akh,ajt] at c;rw[ah1 y,ah1 ⟨c.resolve_right (by omega),y⟩]
   .rw[ah0 y,ah0 (fun h=>y h.2)]
  .rw[show min (k+1) i=i by omega,show min k i=i by omega,ah0];rintro ⟨n,c⟩;rcases alz (ama b) with g | g
   .subst g;simp[p] at n
   .have:=gZ S q g (z k _ f aD c) n;simp[p] at this
def VP (b:qf P fl aops E G V W R) (y:∀i,i < ae aops->S i=aq) (t:Nat):∀k,k<=ae aops->gW aops V (E 0) S k t=lk t (E k):=by
 intro k
 induction k with
 | zero=>intro _;rfl
 | succ k c =>
  intro f;have x:aops[k]?=ak (aops[k]'aD):=ah6 _;rw[gW,x,aix,c aD,b.env k _ x,sM];by_cases h:aops[k].dst=ak t
  .rw[ah1 ⟨y k aD,h⟩,ah1 h]
  .rw[ah0 (fun z=>h z.2),ah0 h]
def VQ (g:CN ed aops W R) (p:Down ed S) (c:aops[i]?=ak z) (q:S i=ar) (t:Nat):∀k,k<=ae aops ->
  gW aops V (E 0) (fun j=>S j || j==i) k t=if i < k/\z.dst=ak t then V i else gW aops V (E 0) S k t:=by
 intro k
 induction k with
 | zero=>intro _;simp[gW]
 | succ k r =>
  intro s;have b:aops[k]?=ak (aops[k]'aD):=ah6 _;rw[gW,b,aix,r aD,gW,b,aix];by_cases l:k=i
  .subst l;rw[b] at c;cases c;by_cases m:aops[k].dst=ak t
   .simp[m]
   .simp[m]
  .have n:(S k || k==i)=S k:=by simp[l]
   rw[n];by_cases y:S k=aq/\aops[k].dst=ak t
   .rw[ah1 y];by_cases x:i < k+1/\z.dst=ak t
    .have f:i < k:=aD;have:kr z aops[k]=aq:=by simp[kr,x.2,y.2]
     have:=g.vX c b aD this;have:=gZ S p f this y.1;simp[q] at this
    .rw[ah0 x,ah1 y]
   .rw[ah0 y,ah0 y];by_cases x:i < k/\z.dst=ak t
    .rw[ah1 x,ah1 ⟨aD,x.2⟩]
    .rw[ah0 x,ah0 (fun h=>x ⟨aD,h.2⟩)]
end
def eS (h:bp n x=aq) (hm:n<=m):bp m x=aq:=by cases x<;>simp_all [bp]<;>omega
structure Mp (K K':aF) (W:List Nat) (G':aF):Prop where
 len:K'.length=K.length
 O8:∀id,id < K.length->eH K' id=if id∈W then eH G' id else eH K id
def Mp.eq {K y z:aF} {W:List Nat} {x:aF} (k:Mp K y W x) (b:Mp K z W x):y=z :=
 Jb (by rw[k.len,b.len]) fun id h=>by rw[k.len] at h;rw[k.O8 id h,b.O8 id h]
def Tf {fl:Prop} {ops:Array Oper} {i:Nat} {rest:List Nat} (b8:ops[i]?=ak o) {ao:bU} (h:jH P N ops o ao=aq) {K K':aF} {E0:Env} {G G':aF} {W R:List Nat} {n0:Nat} (hs:pJ P fl ao E0 G v G' W R)
  (s:cE dl N I β e K a w) (l:ef ao.op.dP E0 e) (h2:ef (uD ao.g) E0 e) (hK:∀id,id∈W\/id∈R->eH K id=eH G id) (m:∀id ver,n0<=id->eH K id=an->β id ver=an) (c0:n0<=ae G) (a8:ae G'<=ae K) (b7:fl->ae K=n0) (U:Mp K K' W G')
  {Q:Exit->Act->World->Prop}
  (F:∀a' X O w',Ext I β K w X O K' w'->cE dl N X O (fq ao.dst v e) K' a' w'->(∀id ver,n0<=id->eH K' id=an->O id ver=an)->wpOpsIn (FR fo) 0 P ops Q rest a' w'):wpOpsIn (FR fo) 0 P ops Q (i::rest) a w:=by
 have hw:fi ao.g E0=fi ao.g e:=by
  cases C:ao.g with
  | none=>rfl
  | some x=>simp only[fi];rw[h2 x.1 (by simp[uD,C])]
 obtain ⟨hd,A,_⟩:=lB h;simp only[wpOpsIn,b8];have same:G'=G->K'=K:=fun C=>by
  refine U.eq ⟨rfl,fun id b=>?_⟩;by_cases hm:id∈W
  .rw[ah1 hm,C,hK id (.inl hm)]
  .rw[ah0 hm]
 cases hs with
 | off j hv C hW =>
  subst hv;rw[same C] at F;rw[hw] at j;rw[ah0 (by rw[fY h s j];simp)];rw[hd];exact ⟨fun _ _=>trivial,F _ I β w (.refl _ _ _ _) (s.put (.refl _ _ _ _) s.bG (fun t ht=>A t (hd ▸ ht)) GK) m⟩
 | call f args j z hA C hW =>
  rw[same C] at F;rw[hw] at j;rw[ah1 (fY h s j)];rw[zp l] at z;refine mN h s z hA.1 (fun vs hr=>hA.2 I β K w vs s.bG hr) ?_;rintro en w' ⟨rv,X,rfl,D,S,k⟩;exact ⟨rv,rfl,F _ X β w' D (hd ▸ s.put D S A k) m⟩
 | loc f args a0 ob a7 j z hA T C hW hf =>
  rw[hw] at j;rw[ah1 (fY h s j)];rw[zp l] at z;have a1:eH K a0=ak ob:=by rw[hK _ (.inl (by rw[hW];simp))];exact T
  have b9:a0 < ae K:=by
   unfold eH at a1;rcases aij a0 (ae K) with l | l
   .exact l
   .rw[aiO l] at a1;simp at a1
  have a5:a0 < ae G:=by
   unfold eH at T;rcases aij a0 (ae G) with l | l
   .exact l
   .rw[aiO l] at T;simp at T
  have e:K'=K.set a0 (ak a7):=by
   refine U.eq ⟨by rw[ah8],fun id b=>?_⟩;rw[vE b9,C,vE a5,hW];by_cases n:id=a0
   .subst n;simp
   .rw[ah0 n,ah0 (by simpa using n)]
  rw[e] at F;refine mN h s z hA.2.1 (fun vs hr=>(hA.2.2 K a1).2 I β w vs s.bG hr) ?_;rintro en w' ⟨rv,X,O,rfl,D,S,k⟩;exact ⟨rv,rfl,F _ X O w' D (hd ▸ s.put D S A k) fun id ver b _=>S.wY (by rw[ah8,b7 hf];exact b)⟩
 | op j z c1 a3 hW hR =>
  rw[hw] at j;rw[ah1 (fY h s j)];cases FZ (K:=K) c1 (fun id b ver=>SB (hK id (.inr (by rw[hR];exact b))) ver) with
  | same C q =>
   rw[same C] at F;rw[wS l] at q;refine om h s q fun rv X O w' D S k hk=>F _ X O w' D (hd ▸ s.put D S A k) fun id ver b c=>?_;rw[hk id ver rfl];exact m id ver b c
  | An b4 ob a7 hm C hk L q =>
   rw[wS l] at q;have hl:=(aid.1 hk).1;have a5:=(aid.1 C).1;have e:K'=K.set b4 (ak a7):=by
    refine U.eq ⟨by rw[ah8],fun id b=>?_⟩;rw[vE hl,L,vE a5];by_cases n:id=b4
    .subst n;rw[ah1 rfl,ah1 (by rw[hW];exact hm),ah1 rfl]
    .rw[ah0 n,ah0 n];by_cases r:id∈W
     .rw[ah1 r,hK id (.inl r)]
     .rw[ah0 r]
   rw[e] at F;refine om h s q fun rv X O w' D S k a2=>F _ X O w' D (hd ▸ s.put D S A k) fun id ver b c=>?_;rw[vE hl] at c;split at c
   .simp at c
   .rename_i n;rw[a2 id ver (ajc (ait n))];exact m id ver b c
  | alloc ob f hm hf L hv q =>
   rw[wS l] at q;have J:ae G < ae K:=by rw[L] at a8;simp at a8;omega
   have b3:ae G∈W:=hW ▸ hm;have p:eH K (ae G)=an:=hK _ (.inl b3) ▸ HL (ahZ _);have b5:K[ae G]?=ak an:=by unfold eH at p;rw[ah6 J] at p ⊢;simpa using p
   have e:K'=K.set (ae G) (ak ob):=by
    refine U.eq ⟨by rw[ah8],fun id b=>?_⟩;rw[vE J,L];have b6:eH (G++[ak ob]) id=if id=ae G then ak ob else eH G id:=by
     unfold eH;rcases aj0 id (ae G) with l | l | l
     .rw[aic l,ah0 aD]
     .subst l;simp
     .rw[aiO bW,aiO aD,ah0 aD]
    rw[b6];by_cases n:id=ae G
    .subst n;rw[ah1 rfl,ah1 b3,ah1 rfl]
    .rw[ah0 n,ah0 n];by_cases r:id∈W
     .rw[ah1 r,hK id (.inl r)]
     .rw[ah0 r]
   have a9:=fun ver=>m _ ver c0 p;have a4:ob.xs.all (fun x=>x.all (bp (ae K)))=aq:=by rw[L] at a3;simp[cg] at a3;simp only[ah4];intro x hx y hy;exact eS (a3 x hx y hy) aD
   rw[e] at F;refine om h s q fun rv X O w' D S k a2=>?_;have M:∀id ver,id≠ae K->O id ver=β id ver:=fun id ver c3=>by
    rcases aij id (ae K) with l | l
    .exact a2 id ver (aic l)
    .exact a2 id ver (by rw[aiO bW,aiO aD])
   have ⟨c2,s2,x2,b1,b2⟩:=VE s.bG D S b5 a9 M a4;have a6:Rel X c2 v rv:=by
    have hr:=k.Rn (ρ:=fun id=>if id=ae K then ae G else id) (β:=c2) (fun id ver B hb=>by
     by_cases n:id=ae K
     .subst n;simp only[ajs];rw[b1];exact hb
     .simp only[ah0 n];rw[M _ _ n] at hb;by_cases b0:id=ae G
      .subst b0;rw[a9] at hb;simp at hb
      .rw[b2 _ _ b0];exact hb);rw[hf] at hr;simp only[ajs] at hr;rw[hv];exact hr
   refine F _ X c2 w' x2 (hd ▸ s.put x2 s2 A a6) fun id ver b c=>?_;rw[vE J] at c;split at c
   .simp at c
   .rename_i n;rw[b2 _ _ n];exact m id ver b c
def U8 {fl:Prop} {ops:Array Oper} {aops:List bU} (hc:fM P N ops ops.toList aops=aq) {E:Nat->Env} {G:Nat->aF} {V:Nat->AV} {W R:Nat->List Nat} (O:CN (ops.toList.map bH) aops W R) (ht:qf P fl aops E G V W R) {Q:Exit->Act->World->Prop} :
  ∀(fuel t:Nat) (y:Array Bool) (e:Env) (K:aF) (I:Imm) (β:Bet) (a:Act) (w:World),y.size=ops.size->ae ((aC ops.size).filter fun i => !y.getD i aq)<=fuel->Down (ops.toList.map bH) (fun i=>y.getD i ar) ->
   (∀s,lk s e=gW aops V (E 0) (fun i=>y.getD i ar) (ae aops) s)->K=Li (ae (G (ae aops))) (ae aops) G W (fun i=>y.getD i ar)->cE dl N I β e K a w->(∀id ver,ae (G 0)<=id->eH K id=an->β id ver=an) ->
   (∀a' w',Out dl N I β K w (E (ae aops)) (G (ae aops)) a' w'->Q .normal a' w')->wpOpsIn (FR fo) 0 P ops Q (Region.linearise.go .any ops fuel t y []) a w:=by
 have ⟨b2,b1⟩:=fR hc;have c2:ops.size=ae aops:=bu b2;have fin:∀(y:Array Bool) (e:Env) (K:aF) (I:Imm) (β:Bet) (a:Act) (w:World),(∀i,i < ae aops->y.getD i ar=aq)->(∀s,lk s e=gW aops V (E 0) (fun i=>y.getD i ar) (ae aops) s) ->
   K=Li (ae (G (ae aops))) (ae aops) G W (fun i=>y.getD i ar)->cE dl N I β e K a w->Out dl N I β K w (E (ae aops)) (G (ae aops)) a w:=by
  intro y e K I β a w b he hH s;have a7:K=G (ae aops):=by rw[hH];refine Jb (by rw[Cf]) fun id A=>?_;rw[Cf] at A;rw[Fs A,Y9 ht b id _ (ahZ _)]
  refine ⟨I,β,a7 ▸ .refl _ _ _ _,⟨by have:=s.bG;rw[a7] at this;exact this,s.size,fun t=>?_,s.sH⟩⟩;have:=s.env t;rw[he,VP ht b t _ (ahZ _)] at this;exact this
 intro fuel
 induction fuel with
 | zero =>
  intro t y e K I β a w b7 a9 z he hH s a1 hq;have b:∀i,i < ae aops->y.getD i ar=aq:=by
   intro i hi;cases hl:y.getD i ar with
   | true=>rfl
   | false =>
    have:i∈(aC ops.size).filter fun i => !y.getD i aq:=by
     simp only[ajb,ajv];refine ⟨aD,?_⟩;have:y.getD i aq=y.getD i ar:=by simp[aib,show i < y.size by omega]
     rw[this,hl];rfl
    have:=alE this;omega
  simp only[Region.linearise.go,alP,wpOpsIn];exact hq a w (fin y e K I β a w b he hH s)
 | succ fuel ih =>
  intro t y e K I β a w b7 a9 z he hH s a1 hq;have a3:∀i,i < ae aops->y.getD i aq=y.getD i ar:=by intro i hi;simp[aib,show i < y.size by omega]
  simp only[Region.linearise.go];split
  .rename_i i a6;rw[mc];have a0:=aiX a6;simp only[ajb,ajv,ah2,ajJ] at a0;have ⟨C,c,n⟩:=a0;have D:i < ae aops:=aD;have F:=aiN C;have T:=ah6 D;rw[a3 i D] at c;rw[F] at n;simp only[ai3,ai9] at n;have a2:∀j,j∈bH ops[i]->y.getD j ar=aq:=by intro j M;simp only[bH,aiw,ajb] at M;obtain ⟨ed,⟨h1,h2⟩,rfl⟩:=M;have:=aj8.1 n ed (bu h1);simpa[h2] using this
   have b8:(ops.toList.map bH)[i]?=ak (bH ops[i]):=by simp[F]
   have b5:∀j,(y.setIfInBounds i aq).getD j ar=(y.getD j ar || j==i):=by
    intro j;simp only[aib,aiH];by_cases h:i=j
    .subst h;simp[show i < y.size by omega]
    .rw[ah0 h];simp[show ¬j=i from fun h'=>h h'.symm]
   have S:=funext b5;have f:Down (ops.toList.map bH) (fun j=>y.getD j ar || j==i):=by
    intro j es M b6 k hk;simp only[akh,ajt] at b6 ⊢;rcases b6 with h | h
    .exact .inl (z j es M h k hk)
    .subst h;rw[b8] at M;cases M;exact .inl (a2 k hk)
   have L:∀l:List Nat,(∀s,s∈l->∀(j:Nat) x,aops[j]?=ak x->j≠i->x.dst=ak s->kr x aops[i]=aq)->ef l (E i) e:=by intro l hl s hs;have:=XO O ht z T c f (t:=s) (fun j x M b4 X=>by have:=O.vX M T b4 (hl s hs j x M b4 X);rw[oJ] at this;exact this) (ae aops) (ahZ _);rw[he,this,akU (by omega)]
   have h1:ef aops[i].op.dP (E i) e:=L _ fun s hs j x _ _ X=>by simp[kr,X,hs]
   have h2:ef (uD aops[i].g) (E i) e:=L _ fun s hs j x _ _ X=>by simp[kr,X,hs]
   have b9:jH P N ops ops[i] aops[i]=aq:=b1 i _ _ (by simp[F]) T;have U:ae K=ae (G (ae aops)):=by rw[hH,Cf]
   have a8:∀id,id∈W i\/id∈R i->eH K id=eH (G i) id:=by
    intro id A;rcases aij id (ae (G (ae aops))) with a4 | c1
    .rw[hH,Fs a4,aaI O ht z D c f A _ (ahZ _),akU (by omega)]
    .rw[HL (by omega),HL (aiJ (lens ht (show i<=ae aops by omega) (ahZ _)) c1)]
   refine Tf (K':=Li (ae (G (ae aops))) (ae aops) G W (fun j=>y.getD j ar || j==i)) (n0:=ae (G 0)) F b9 (ht.step i _ T) s h1 h2 a8 a1 (lens ht (aiL i) aD) (U ▸ lens ht aD (ahZ _)) (fun hf=>U ▸ ht.flat hf)
    ⟨by rw[Cf,U],fun id A=>?_⟩ fun a' I' c8 w' x' s' a5=>?_
   .rw[U] at A;rw[Fs A,Za O z D c id _ (ahZ _),hH,Fs A];simp[D]
   refine ih (t / _) (y.setIfInBounds i aq) (fq aops[i].dst (V i) e) _ I' c8 a' w' (bu b7) ?_ (S ▸ f) ?_ (by rw[S]) s' a5 (fun c6 c7 ho=>hq _ _ (ho.step x'))
   .have:=filter_lt (p:=fun j => !y.getD j aq) (q:=fun j => !(y.setIfInBounds i aq).getD j aq) (i:=i) (l:=aC ops.size) (fun x hx=>by
     simp only[aib,aiH] at hx ⊢;by_cases h:i=x
     .subst h;simp[show i < y.size by omega] at hx
     .rw[ah0 h] at hx;exact hx) (by rw[a3 i D,c];rfl) (by simp[aib,show i < y.size by omega]) (bu C);omega
   .intro s';rw[S,VQ O z T c s' (ae aops) (ahZ _),sM];by_cases hd:aops[i].dst=ak s'
    .rw[ah1 hd,ah1 ⟨D,hd⟩]
    .rw[ah0 hd,ah0 (fun h=>hd h.2),he]
  .rename_i J;have b0:((aC ops.size).filter fun i => !y.getD i aq&&((ops[i]?).map (·.after.all fun e => !Region.binds .any e || y.getD e.on ar)).getD ar)=[]:=by
    cases c3:((aC ops.size).filter fun i => !y.getD i aq&&((ops[i]?).map (·.after.all fun e => !Region.binds .any e || y.getD e.on ar)).getD ar) with
    | nil=>rfl
    | cons x r =>
     rw[c3] at J;have:t % ae (x::r) < ae (x::r):=alh _ aO;rw[ah6 this] at J;simp at J
   have b:∀i,i < ae aops->y.getD i ar=aq:=by
    intro i
    induction i using Nat.strongRecOn with
    | _ i c5 =>
     intro hi;cases hl:y.getD i ar with
     | true=>rfl
     | false =>
      exfalso;have C:i < ops.size:=aD;have F:=aiN C;have b3:∀j,j∈bH ops[i]->j < i:=by
       have gen:∀(l:List (List Nat)) (k:Nat),eZ k l=aq->∀(m:Nat) es,l[m]?=ak es->∀j,j∈es->j < k+m:=by
        intro l
        induction l with
        | nil=>intro k _ m es h;simp at h
        | cons x r c4 =>
         intro k hk m es h j M;simp only[eZ,ah2] at hk;cases m with
         | zero=>simp at h;subst h;have:=ah4.1 hk.1 j M;simpa using this
         | succ m=>have:=c4 (k+1) hk.2 m es (bu h) j M;omega
       intro j M;have:=gen _ 0 O.low i (bH ops[i]) (by simp[F]) j M;omega
      have:i∈((aC ops.size).filter fun i => !y.getD i aq&&((ops[i]?).map (·.after.all fun e => !Region.binds .any e || y.getD e.on ar)).getD ar):=by
       simp only[ajb,ajv,ah2,ajJ];refine ⟨C,a3 i hi ▸ hl,?_⟩;rw[F];simp only[ai3,ai9];refine aj8.2 fun ed c0=>?_;cases hb:Region.binds .any ed with
       | false=>rfl
       | true =>
        have hm:ed.on∈bH ops[i]:=by simp only[bH,aiw,ajb];exact ⟨ed,⟨bu c0,hb⟩,rfl⟩
        have a4:=b3 _ hm;simp[c5 _ a4 aD]
      rw[b0] at this;simp at this
   simp only[alP,wpOpsIn];exact hq a w (fin y e K I β a w b he hH s)
def U9 {ops:Array Oper} {z:List bU} {al:bU} {md:List Nat} (hc:fM P N ops ops.toList (z++[al])=aq) (a6:eZ 0 (ops.toList.map bH)=aq) (D:jV ((ops.toList.map bH).take (ae z)) md z=aq) (a5:∀i,i < ae z->k9 (kF (ops.toList.map bH) []) i (ae z)=aq) {E:Nat->Env} {G:Nat->aF} {V:Nat->AV} (ht:sF P md z E G V) {Q:Exit->Act->World->Prop} :
  ∀(fuel t:Nat) (y:Array Bool) (e:Env) (H:aF) (I:Imm) (β:Bet) (a:Act) (w:World),y.size=ops.size->y.getD (ae z) ar=ar->ae ((aC ops.size).filter fun i => !y.getD i aq)<=fuel->Down (ops.toList.map bH) (fun i=>y.getD i ar) ->
   (∀s,lk s e=gW z V (E 0) (fun i=>y.getD i ar) (ae z) s)->H=jy md G (fun i=>y.getD i ar) (ae z)->cE dl N I β e H a w ->
   (∀a' w',Out dl N I β H w (E (ae z)) (G (ae z)) a' w'->wpOpsIn (FR fo) 0 P ops Q [ae z] a' w')->wpOpsIn (FR fo) 0 P ops Q (Region.linearise.go .any ops fuel t y []) a w:=by
 have ⟨b2,b0⟩:=fR hc;have c3:ops.size=ae z+1:=bu b2;have b:∀S:Nat->Bool,Down (ops.toList.map bH) S->Down ((ops.toList.map bH).take (ae z)) S:=by
  intro S hS i U hi;rw[aj7] at hi;split at hi
  .exact hS i U hi
  .simp at hi
 intro fuel
 induction fuel with
 | zero =>
  intro t y e H I β a w b7 a0 a9 c he hH s hq;exfalso;have:ae z∈(aC ops.size).filter fun i => !y.getD i aq:=by
   simp only[ajb,ajv];refine ⟨aD,?_⟩;have:y.getD (ae z) aq=y.getD (ae z) ar:=by simp[aib,show ae z < y.size by omega]
   rw[this,a0];rfl
  have:=alE this;omega
 | succ fuel ih =>
  intro t y e H I β a w b7 a0 a9 c he hH s hq;have a4:∀i,i < ops.size->y.getD i aq=y.getD i ar:=by intro i hi;simp[aib,show i < y.size by omega]
  simp only[Region.linearise.go];split
  .rename_i i a7;rw[mc];have a1:=aiX a7;simp only[ajb,ajv,ah2,ajJ] at a1;have ⟨n,K,B⟩:=a1;have J:=aiN n;rw[a4 i n] at K;rw[J] at B;simp only[ai3,ai9] at B;have a3:∀j,j∈bH ops[i]->y.getD j ar=aq:=by intro j A;simp only[bH,aiw,ajb] at A;obtain ⟨ed,⟨h1,h2⟩,rfl⟩:=A;have:=aj8.1 B ed (bu h1);simpa[h2] using this
   have b8:(ops.toList.map bH)[i]?=ak (bH ops[i]):=by simp[J]
   have a2:∀j,(y.setIfInBounds i aq).getD j ar=(y.getD j ar || j==i):=by
    intro j;simp only[aib,aiH];by_cases h:i=j
    .subst h;simp[show i < y.size by omega]
    .rw[ah0 h];simp[show ¬j=i from fun h'=>h h'.symm]
   have R:=funext a2;have f:Down (ops.toList.map bH) (fun j=>y.getD j ar || j==i):=by
    intro j U A b6 k hk;simp only[akh,ajt] at b6 ⊢;rcases b6 with h | h
    .exact .inl (c j U A h k hk)
    .subst h;rw[b8] at A;cases A;exact .inl (a3 k hk)
   rcases aij i (ae z) with F | F
   case inr =>
    have c2:i=ae z:=aD;subst c2;have X:∀j,j < ae z->y.getD j ar=aq:=by intro j A;have:=gZ (fun j=>y.getD j ar || j==ae z) f A (a5 j A) aO;simpa[show ¬j=ae z by omega] using this
    have b5:Region.linearise.go .any ops fuel (t / ae ((aC ops.size).filter fun i => !y.getD i aq&&((ops[i]?).map (·.after.all fun e => !Region.binds .any e || y.getD e.on ar)).getD ar)) (y.setIfInBounds (ae z) aq) []=[]:=by
     cases fuel with
     | zero=>simp[Region.linearise.go]
     | succ fuel =>
      simp only[Region.linearise.go];have O:((aC ops.size).filter fun i => !(y.setIfInBounds (ae z) aq).getD i aq&&((ops[i]?).map (·.after.all fun e => !Region.binds .any e || (y.setIfInBounds (ae z) aq).getD e.on ar)).getD ar)=[]:=by
       rw[alF];intro j A;have d3:j < ops.size:=bu A;have:(y.setIfInBounds (ae z) aq).getD j aq=aq:=by
        simp only[aib,aiH];by_cases h:ae z=j
        .subst h;simp[show ae z < y.size by omega]
        .rw[ah0 h];have:=X j aD;simp only[aib] at this ⊢;simp only[show j < y.size by omega,aiN,ai9] at this ⊢;exact this
       simp[this]
      rw[O];simp
    rw[b5];simp only[List.reverse_cons,alP,aiy,aiu];refine hq a w ⟨I,β,?_,?_⟩
    .rw[hH,qD ht X _ (ahZ _)];exact .refl _ _ _ _
    .refine ⟨?_,s.size,fun t=>?_,s.sH⟩
     .have:=s.bG;rw[hH,qD ht X _ (ahZ _)] at this;exact this
     .have:=s.env t;rw[he,GP ht X t _ (ahZ _)] at this;exact this
   have W:=ah6 F;have b1:(z++[al])[i]?=ak z[i]:=by rw[aic F];exact W
   have T:=ht.step i _ W;have M:∀l:List Nat,(∀s,s∈l->∀(j:Nat) x,z[j]?=ak x->j≠i->x.dst=ak s->kr x z[i]=aq)->ef l (E i) e:=by intro l hl s hs;have:=Of D ht (b _ c) W K (b _ f) (t:=s) (fun j x A b4 C=>by have:=(m8 D A W b4).1 (hl s hs j x A b4 C);rw[oJ] at this;exact this) (ae z) (ahZ _);rw[he,this,akU (by omega)]
   have h1:ef z[i].op.dP (E i) e:=M _ fun s hs j x _ _ C=>by simp[kr,C,hs]
   have h2:ef (uD z[i].g) (E i) e:=M _ fun s hs j x _ _ C=>by simp[kr,C,hs]
   have c0:jH P N ops ops[i] z[i]=aq:=b0 i _ _ (by simp[J]) b1;have c7:(z[i].op.dV=aq->iw md i=aq):=by intro hw;simp only[jV,ah2] at D;have h1:=ah4.1 D.2 i (bu F);rw[ah2,W] at h1;have:=h1.1;simpa[hw] using this
   obtain ⟨H1,c6,b9⟩:∃H1,ku P z[i] e H (V i) H1/\H1=jy md G (fun j=>y.getD j ar || j==i) (ae z):=by
    by_cases a8:iw md i=aq\/z[i].op.reads=aq
    .have hh:=Kp D ht (b _ c) W K (b _ f) a8 (ae z) (ahZ _);rw[akU (by omega)] at hh;refine ⟨G (i+1),?_,?_⟩
     .have:=T.Gh h1 h2;rw[hH,hh];exact this
     .rw[vU D (b _ c) W K (ae z) (ahZ _)];by_cases hm:iw md i=aq
      .rw[ah1 ⟨F,hm⟩]
      .rw[ah0 (fun h=>hm h.2),hh,ht.heap i F (by simpa using hm)]
    .have hm:=fun h=>a8 (.inl h);have hr:z[i].op.reads=ar:=bu (fun h=>a8 (.inr h));have c8:z[i].op.dV=ar:=by
      cases c9:z[i].op.dV with
      | false=>rfl
      | true=>exact absurd (c7 c9) hm
     refine ⟨H,(T.Gh h1 h2).Kd hr c8 H,?_⟩;rw[vU D (b _ c) W K (ae z) (ahZ _),ah0 (fun h=>hm h.2),hH]
   refine Eg J c0 s c6 fun a' I' d5 w' x' s'=>?_;refine ih (t / _) (y.setIfInBounds i aq) (fq z[i].dst (V i) e) H1 I' d5 a' w' (bu b7) (by rw[a2,a0];simp;omega) ?_ (by rw[R];exact f) ?_ (by rw[R];exact b9) s' (fun d2 d4 ho=>hq _ _ (ho.step x'))
   .have:=filter_lt (p:=fun j => !y.getD j aq) (q:=fun j => !(y.setIfInBounds i aq).getD j aq) (i:=i) (l:=aC ops.size) (fun x hx=>by
     simp only[aib,aiH] at hx ⊢;by_cases h:i=x
     .subst h;simp[show i < y.size by omega] at hx
     .rw[ah0 h] at hx;exact hx) (by rw[a4 i n,K];rfl) (by simp[aib,show i < y.size by omega]) (bu n);omega
   .intro s';rw[R,KJ D (b _ c) W K s' (ae z) (ahZ _),sM];by_cases hd:z[i].dst=ak s'
    .rw[ah1 hd,ah1 ⟨F,hd⟩]
    .rw[ah0 hd,ah0 (fun h=>hd h.2),he]
  .rename_i L;have O:((aC ops.size).filter fun i => !y.getD i aq&&((ops[i]?).map (·.after.all fun e => !Region.binds .any e || y.getD e.on ar)).getD ar)=[]:=by
    cases c5:((aC ops.size).filter fun i => !y.getD i aq&&((ops[i]?).map (·.after.all fun e => !Region.binds .any e || y.getD e.on ar)).getD ar) with
    | nil=>rfl
    | cons x r =>
     rw[c5] at L;have:t % ae (x::r) < ae (x::r):=alh _ aO;rw[ah6 this] at L;simp at L
   have X:∀i,i < ops.size->y.getD i ar=aq:=by
    intro i
    induction i using Nat.strongRecOn with
    | _ i d1 =>
     intro hi;cases hl:y.getD i ar with
     | true=>rfl
     | false =>
      exfalso;have n:=hi;have J:=aiN n;have b3:∀j,j∈bH ops[i]->j < i:=by
       have gen:∀(l:List (List Nat)) (k:Nat),eZ k l=aq->∀(m:Nat) U,l[m]?=ak U->∀j,j∈U->j < k+m:=by
        intro l
        induction l with
        | nil=>intro k _ m U h;simp at h
        | cons x r d0 =>
         intro k hk m U h j A;simp only[eZ,ah2] at hk;cases m with
         | zero=>simp at h;subst h;have:=ah4.1 hk.1 j A;simpa using this
         | succ m=>have:=d0 (k+1) hk.2 m U (bu h) j A;omega
       intro j A;have:=gen _ 0 a6 i (bH ops[i]) (by simp[J]) j A;omega
      have:i∈((aC ops.size).filter fun i => !y.getD i aq&&((ops[i]?).map (·.after.all fun e => !Region.binds .any e || y.getD e.on ar)).getD ar):=by
       simp only[ajb,ajv,ah2,ajJ];refine ⟨n,by rw[a4 i hi];exact hl,?_⟩;rw[J];simp only[ai3,ai9];refine aj8.2 fun ed c1=>?_;cases hb:Region.binds .any ed with
       | false=>rfl
       | true =>
        have hm:ed.on∈bH ops[i]:=by simp only[bH,aiw,ajb];exact ⟨ed,⟨bu c1,hb⟩,rfl⟩
        have c4:=b3 _ hm;simp[d1 _ c4 aD]
      rw[O] at this;simp at this
   have:=X (ae z) aD;rw[a0] at this;simp at this
end
section
variable {P:Program} {dl:List Deferred} {fo:Option Nat} {N:Nat} {I:Imm} {β:Bet} {e:Env} {H H':aF} {a:Act} {w:World} {v:AV}
inductive cF where
 | skip
 | xG (aY:List Nat) (ops:List bU)
 | BL (aY:List Nat) (ed:List (List Nat)) (ops:List bU)
 | xY (aY:List Nat) (ed:List (List Nat)) (eQ:List (Nat × Nat)) (ops:List bU)
 | Aa (aY:List Nat) (ed:List (List Nat)) (eQ:List (Nat × Nat)) (ops:List bU)
 | DM (aY:List Nat) (ed:List (List Nat)) (ops:List bU) (last:bU)
 | Ab (aY:List Nat) (ed:List (List Nat)) (ops:List bU) (suf:List bU)
 | seq (a b:cF)
 | cond (c:Opd) (a b:cF)
 | block (id:Nat) (a:cF)
 | loop (aY:List Nat) (a:cF)
 | bad
 | Eu (g:Opd) (p:Nat) (a b:cF)
 | exit (id:Nat)
 | wk (a:cF)
 | label (l:Nat)
 | ret
def fk (P:Program) (N:Nat):Code->cF->Bool
 | .skip,.skip=>aq
 | .region _ ops ar,.xG _ aops=>fM P N ops ops.toList aops
 | .region _ ops aq,.BL _ ed aops=>fM P N ops ops.toList aops&&(ops.toList.map bH==ed)&&(P.follows .mixedOrders || !Region.departs ops)
 | .region _ ops aq,.xY _ ed _ aops=>fM P N ops ops.toList aops&&(ops.toList.map bH==ed)&&(P.follows .mixedOrders || !Region.departs ops)
 | .region _ ops aq,.Aa _ ed _ aops=>fM P N ops ops.toList aops&&(ops.toList.map bH==ed)&&(P.follows .mixedOrders || !Region.departs ops)
 | .region _ ops aq,.DM _ ed aops al=>fM P N ops ops.toList (aops++[al])&&(ops.toList.map bH==ed)&&(P.follows .mixedOrders || !Region.departs ops)
 | .region _ ops aq,.Ab _ ed aops suf=>fM P N ops ops.toList (aops++suf)&&(ops.toList.map bH==ed)&&(P.follows .mixedOrders || !Region.departs ops)
 | .seq a b,.seq x y=>fk P N a x&&fk P N b y
 | .cond c a b,.cond d x y=>ea c d&&fk P N a x&&fk P N b y
 | .block i a,.block j x=>i==j&&fk P N a x
 | .loop a,.loop _ x=>fk P N a x
 | _,.bad=>aq
 | k,.wk x=>fk P N k x
 | .rangeFunc g ps a b,.Eu x p c d=>ea g x&&ps==#[p]&&fk P N a c&&fk P N b d
 | .exit i,.exit j=>i==j
 | .label i,.label j=>i==j
 | .ret,.ret=>aq
 | _,_=>ar
def dd (aY:List Nat) (e:Env):Env:=aY.map fun t=>(t,lk t e)
def Pq (aY:List Nat) (e:Env) (t:Nat):lk t (dd aY e)=lk t e\/lk t (dd aY e) = .ba:=by
 induction aY with
 | nil=>exact .inr rfl
 | cons s r k =>
  simp only[dd,aiS,lk];by_cases h:s=t
  .subst h;rw[ah1 rfl];exact .inl rfl
  .rw[ah0 h];exact k
def cE.aY (s:cE dl N I β e H a w) (aY:List Nat):cE dl N I β (dd aY e) H a w:=by
 refine ⟨s.bG,s.size,fun t=>?_,s.sH⟩;rcases Pq aY e t with h | h
 .rw[h];exact s.env t
 .rw[h];exact .ba
abbrev cx:=Exit->Env->aF->Prop
def AR (dl:List Deferred) (N:Nat) (I:Imm) (β:Bet) (H:aF) (w:World) (Q:cx):Exit->Act->World->Prop :=
 fun x a' w'=>∃I' β' e' H',Ext I β H w I' β' H' w'/\cE dl N I' β' e' H' a' w'/\Q x e' H'
def AWp (P:Program) (N:Nat) (c:Code) (Q:cx) (e:Env) (H:aF):Prop :=
 ∀(fo:Option Nat) (dl:List Deferred) I β a w,cE dl N I β e H a w->c.wpIn (FR fo) 0 P (AR dl N I β H w Q) a w
def AW (P:Program) (N:Nat) (c:cF) (Q:cx) (e:Env) (H:aF):Prop:=∀k,fk P N k c=aq->AWp P N k Q e H
def AR.step {Q:cx} {k:Imm} {c:Bet} {w':World} (x:Ext I β H w k c H' w') {z:Exit} {y:Act} {b:World} (h:AR dl N k c H' w' Q z y b):AR dl N I β H w Q z y b:=by have ⟨g,m,i,f,l,j,q⟩:=h;exact ⟨g,m,i,f,x.trans l,j,q⟩
def AW.mono {c:cF} {Q y:cx} (h:AW P N c Q e H) (i:∀x e H,Q x e H->y x e H):AW P N c y e H:=by intro k g fo dl I β a w s;refine wpIn_mono (h k g fo dl I β a w s) fun x o p j=>?_;have ⟨b,n,f,z,m,l,q⟩:=j;exact ⟨b,n,f,z,m,l,i _ _ _ q⟩
def WZ {Q:cx} (h:Q .normal e H):AW P N .skip Q e H:=by intro k x fo dl I β a w s;cases k<;>simp[fk] at x;exact wpIn_skip ⟨I,β,e,H,.refl _ _ _ _,s,h⟩
def WS {Q:cx} {id:Nat} (h:Q (.exit id) e H):AW P N (.exit id) Q e H:=by intro k x fo dl I β a w s;cases k<;>simp[fk] at x;subst x;exact wpIn_exit ⟨I,β,e,H,.refl _ _ _ _,s,h⟩
def Yq {Q:cx} (h:Q .ret e H):AW P N .ret Q e H:=by intro k x fo dl I β a w s;cases k<;>simp[fk] at x;exact wpIn_ret ⟨I,β,e,H,.refl _ _ _ _,s,h⟩
def Un {Q:cx} {l:Nat} (h:Q .normal e H):AW P N (.label l) Q e H:=by intro k x fo dl I β a w s;cases k<;>simp[fk] at x;subst x;exact wpIn_label ⟨I,β,e,H,.refl _ _ _ _,s,h⟩
def lh (next:Env->aF->Prop) (Q:cx):cx:=fun x e H=>match x with
 | .normal=>next e H
 | x=>Q x e H
def Yr {x y:cF} {Q:cx} (h:AW P N x (lh (AW P N y Q) Q) e H):AW P N (.seq x y) Q e H:=by
 intro k z fo dl I β a w s;cases k<;>simp only[fk,ah5,ah2] at z;rename_i p r;refine wpIn_seq (wpIn_mono (h p z.1 fo dl I β a w s) fun f m t b=>?_);have ⟨c,j,o,l,i,g,q⟩:=b;cases f with
 | normal=>exact wpIn_mono (q r z.2 fo dl c j m t g) fun f n K b=>AR.step i b
 | _=>exact ⟨c,j,o,l,i,g,q⟩
def WR {c:Opd} {x y:cF} {Q:cx} {b:Bool} (g:c.ev e = .v0 b) (z:b=aq->AW P N x Q e H) (f:b=ar->AW P N y Q e H):AW P N (.cond c x y) Q e H:=by
 intro k h fo dl I β a w s;cases k<;>simp only[fk,ah5,ah2] at h;have ⟨⟨i,j⟩,l⟩:=h;have r:=s.x i;rw[g] at r;have r:=r.eG.1;cases b with
 | true=>exact wpIn_cond_true r (z rfl _ j fo dl I β a w s)
 | false=>exact wpIn_cond_false r (f rfl _ l fo dl I β a w s)
def qi (id:Nat) (Q:cx):cx:=fun x e H=>match x with
 | .exit i=>if i=id then Q .normal e H else Q (.exit i) e H
 | x=>Q x e H
def Um {id:Nat} {x:cF} {Q:cx} (h:AW P N x (qi id Q) e H):AW P N (.block id x) Q e H:=by
 intro k l fo dl I β a w s;cases k<;>simp only[fk,ah5,ah2,ajt] at l;obtain ⟨rfl,o⟩:=l;refine wpIn_block (wpIn_mono (h _ o fo dl I β a w s) fun m p r n=>?_);have ⟨z,j,b,y,g,f,q⟩:=n;cases m with
 | exit i =>
  simp only[qi] at q;simp only[Exit.inBlock];split
  .rename_i c;rw[ah1 c] at q;exact ⟨z,j,b,y,g,f,q⟩
  .rename_i c;rw[ah0 c] at q;exact ⟨z,j,b,y,g,f,q⟩
 | _=>exact ⟨z,j,b,y,g,f,q⟩
def Nu (P:Program):List Obl->Prop
 | []=>True
 | o::r=>bR P o.f o.args o.H o.r o.H'/\Nu P r
def Nu.all:∀{l:List Obl},Nu P l->∀o,o∈l->o.ok P
 | [],_,o,h=>by simp at h
 | x::r,h,o,k=>by
  simp at k;rcases k with rfl | k
  .exact h.1
  .exact Nu.all h.2 o k
def mF (md:List Nat):Nat->List bU->Env->aF->List (AV × Option aF)->Option (Env × aF × List Obl)
 | _,[],e,H,os=>match os with
  | []=>ak (e,H,[])
  | _=>an
 | i,o::r,e,H,os =>
  match fi o.g e with
  | some ar=>mF md (i+1) r (fq o.dst (.bM []) e) H os
  | some aq=>match fI o.op e with
   | some (f,args)=>match os with
    | (v,h)::os'=>if h.isSome && !(iw md i) then an else (mF md (i+1) r (fq o.dst v e) (h.getD H) os').map fun x=>(x.1,x.2.1,⟨f,args,H,v,h.getD H⟩::x.2.2)
    | []=>an
   | none=>if o.op.dV && !(iw md i) then an else match gE o.op e H with
    | some (v,H')=>mF md (i+1) r (fq o.dst v e) H' os
    | none=>an
  | none=>an
def rG {md:List Nat}:∀{c:List bU} {i:Nat} {e l:Env} {H H':aF} {m:List (AV × Option aF)} {b:List Obl},mF md i c e H m=ak (l,H',b)->(∀o,o∈b->o.ok P)->yZ P md i c e H l H'
 | [],i,e,l,H,H',m,b,h,_=>by
  cases m with
  | nil=>simp[mF] at h;obtain ⟨rfl,rfl,_⟩:=h;exact .nil
  | cons _ _=>simp[mF] at h
 | ao::r,i,e,l,H,H',m,b,h,z=>by
  simp only[mF] at h;split at h
  .rename_i j;exact .cons (.inr ⟨j,rfl,rfl⟩) (fun _=>rfl) (rG h z)
  .rename_i j;split at h
   .rename_i f args k;split at h
    .rename_i v t A;split at h
     case isTrue=>simp at h
     rename_i g;have ⟨x,W,s⟩:=aiD.1 h;simp at s;obtain ⟨rfl,rfl,rfl⟩:=s;refine .cons (.inl ⟨j,?_⟩) (fun n=>?_) (rG (by rw[W]) fun o X=>z o (by simp[X]))
     .unfold uc;rw[k];exact z ⟨f,args,H,v,t.getD H⟩ aO
     .cases t with
      | none=>rfl
      | some G=>simp[n] at g
    .simp at h
   .rename_i k;split at h
    case isTrue=>simp at h
    rename_i g;split at h
    .rename_i v K p;have y:uc P ao.op e H v K:=by unfold uc;rw[k];exact p
     refine .cons (.inl ⟨j,y⟩) (fun n=>?_) (rG h z);refine ku.aQ (P:=P) (.inl ⟨j,y⟩) (by simpa[n] using g) fun f args q=>?_;rw[k] at q;simp at q
    .simp at h
  .simp at h
def WX {aY:List Nat} {l:List (List Nat)} {ops:List bU} (md:List Nat) (p:jV l md ops=aq) {X:Env} {os:List (AV × Option aF)} {j:List Obl} {Q:cx} (h:mF md 0 ops e H os=ak (X,H',j)) (ho:Nu P j)
  (hq:Q .normal (dd aY X) H'):AW P N (.BL aY l ops) Q e H:=by
 intro k m fo dl I β a w s;have n:=m;cases k<;>try (simp only[fk,ah5] at n;done)
 rename_i C x M;cases M<;>simp only[fk,ah5,ah2] at m;have ⟨⟨A,c⟩,f⟩:=m;have c:x.toList.map bH=l:=bu c;have ht:=rG h ho.all;have hl:x.size=ae ops:=by have:=(fR A).1;simpa using this
 have ⟨E,G,V,T,U,h3,W,h5,h6,h7⟩:=ht.fn;have r:sF P md ops E G V:=⟨h5,h6,fun i hi hm=>h7 i hi (bu hm)⟩;have q:cE dl N I β e H a {w with drawn:=w.drawn+1}:=by have he:∀b:Nat,({w with drawn:=w.drawn+1}:World).heap[b]?=w.heap[b]?:=fun _=>rfl;refine ⟨⟨fun b o v e=>s.bG.fP b o v e,fun C ob h=>?_,s.bG.inj,s.bG.jr,s.bG.ver⟩,s.size,s.env,s.sH⟩;have ⟨B,O,R,S⟩:=s.bG.obj C ob h;exact ⟨B,O,R,S.aY (.refl _) (.refl _) (fun _=>rfl) (fun _ _=>rfl)⟩
 have hx:Ext I β H w I β H {w with drawn:=w.drawn+1}:=⟨.refl _,.refl _,ahZ _,ahZ _,rfl,rfl,rfl,fun _ _ _=>⟨rfl,fun _=>rfl⟩,fun _ h => .inl h⟩;refine wpIn_region_draw fun t=>?_;have z:Region.schedule (P.follows .mixedOrders) x t=Region.linearise .any x t:=by unfold Region.schedule;rw[ah1 f]
 rw[z];unfold Region.linearise;refine Xr A (c ▸ p) r x.size t (Array.replicate x.size ar) e H I β a _ aO ?_ ?_ ?_ ?_ q fun a' w' g=>?_
 .exact aiJ (alg _ _) aO
 .intro i es _ y;exfalso;simp only[aib,akI] at y;split at y<;>simp at y
 .intro D;have:∀k,gW ops V (E 0) (fun i=>(Array.replicate x.size ar).getD i ar) k D=lk D (E 0):=by
   intro k
   induction k with
   | zero=>rfl
   | succ k K =>
    rw[gW,K,ah0];rintro ⟨y,_⟩;simp only[aib,akI] at y;split at y<;>simp at y
  rw[this,T]
 .have:∀k,jy md G (fun i=>(Array.replicate x.size ar).getD i ar) k=G 0:=by
   intro k
   induction k with
   | zero=>rfl
   | succ k K =>
    rw[jy,K,ah0];rintro ⟨y,_⟩;simp only[aib,akI] at y;split at y<;>simp at y
  rw[this,U]
 .have ⟨L,a0,J,F⟩:=g;rw[h3,W] at F;rw[W] at J;exact ⟨L,a0,_,H',hx.trans J,F.aY aY,hq⟩
def MK {fl:Prop} {A:cF} {aY:List Nat} {m:List (List Nat)} {eQ:List (Nat × Nat)} {ops:List bU} {E:Nat->Env} {G:Nat->aF} {V:Nat->AV} {W R:Nat->List Nat} (J:CN m ops W R) (O:qf P fl ops E G V W R) (D:A = .xY aY m eQ ops\/A = .Aa aY m eQ ops) (h1:E 0=e) (h2:G 0=H) {Q:cx}
  (hq:Q .normal (dd aY (E (ae ops))) (G (ae ops))):AW P N A Q e H:=by
 intro k l fo dl I β a w s;obtain ⟨id,x,rfl,K⟩:∃id x,k = .region id x aq/\(fM P N x x.toList ops&&(x.toList.map bH==m)&&(P.follows .mixedOrders || !Region.departs x))=aq:=by
  rcases D with rfl | rfl
  .cases k<;>try (simp only[fk,ah5] at l;done)
   rename_i id x C;cases C
   .simp only[fk,ah5] at l
   .exact ⟨_,_,rfl,l⟩
  .cases k<;>try (simp only[fk,ah5] at l;done)
   rename_i id x C;cases C
   .simp only[fk,ah5] at l
   .exact ⟨_,_,rfl,l⟩
 rw[ah2,ah2] at K;have ⟨⟨M,f⟩,q⟩:=K;have f:x.toList.map bH=m:=bu f;subst h1 h2;have hl:x.size=ae ops:=by have:=(fR M).1;simpa using this
 have z:cE dl N I β (E 0) (G 0) a {w with drawn:=w.drawn+1}:=by refine ⟨⟨fun b o v e=>s.bG.fP b o v e,fun id ob h=>?_,s.bG.inj,s.bG.jr,s.bG.ver⟩,s.size,s.env,s.sH⟩;have ⟨B,U,g2,g3⟩:=s.bG.obj id ob h;exact ⟨B,U,g2,g3.aY (.refl _) (.refl _) (fun _=>rfl) (fun _ _=>rfl)⟩
 have hx:Ext I β (G 0) w I β (G 0) {w with drawn:=w.drawn+1}:=⟨.refl _,.refl _,ahZ _,ahZ _,rfl,rfl,rfl,fun _ _ _=>⟨rfl,fun _=>rfl⟩,fun _ h => .inl h⟩;refine wpIn_region_draw fun t=>?_;have c:Region.schedule (P.follows .mixedOrders) x t=Region.linearise .any x t:=by unfold Region.schedule;rw[ah1 q]
 rw[c];unfold Region.linearise;have a0:=lens O (aiL (ae ops)) (ahZ _);have ⟨sp,xp⟩:=XI z.bG (ae (G (ae ops)) - ae (G 0));have j:∀i,(Array.replicate x.size ar).getD i ar=ar:=by intro i;simp only[aib,akI];split<;>rfl
 have p:∀id,eH (G 0++aA (ae (G (ae ops)) - ae (G 0)) (an:Option bz)) id=eH (G 0) id:=by
  intro id;unfold eH;rcases aij id (ae (G 0)) with h | h
  .rw[aic h]
  .rw[aiC h,aji,aiO h];split<;>rfl
 refine U8 M (f ▸ J) O x.size t (Array.replicate x.size ar) (E 0) (G 0++aA (ae (G (ae ops)) - ae (G 0)) an) I β a _ aO ?_ ?_ ?_ ?_ ⟨sp,z.size,z.env,z.sH⟩ ?_ fun a' w' X=>?_
 .exact aiJ (alg _ _) aO
 .intro i es _ n;have y:(Array.replicate x.size ar).getD i ar=aq:=n;rw[j] at y;simp at y
 .intro S;have:∀k,gW ops V (E 0) (fun i=>(Array.replicate x.size ar).getD i ar) k S=lk S (E 0):=by
   intro k
   induction k with
   | zero=>rfl
   | succ k L =>
    rw[gW,L,ah0];rintro ⟨n,_⟩;have y:=n;rw[j] at y;simp at y
  rw[this]
 .have F:∀id k,kv G W (fun i=>(Array.replicate x.size ar).getD i ar) k id=eH (G 0) id:=by
   intro id k
   induction k with
   | zero=>rfl
   | succ k L =>
    rw[kv,L,ah0];rintro ⟨n,_⟩;have y:=n;rw[j] at y;simp at y
  refine Jb (by rw[Cf];simp;omega) fun id g=>?_;have r:id < ae (G (ae ops)):=by simp at g;omega
  rw[Fs r,F,p]
 .intro id ver g _;exact z.bG.wY g
 .have ⟨T,a1,x2,s2⟩:=X;exact ⟨T,a1,_,G (ae ops),hx.trans (xp.trans x2),s2.aY aY,hq⟩
def WW {aY:List Nat} {k:List (List Nat)} {eQ:List (Nat × Nat)} {ops:List bU} {E:Nat->Env} {G:Nat->aF} {V:Nat->AV} {W R:Nat->List Nat} (h:CN k ops W R) (b:qf P False ops E G V W R) (x:E 0=e) (y:G 0=H) {Q:cx}
  (z:Q .normal (dd aY (E (ae ops))) (G (ae ops))):AW P N (.xY aY k eQ ops) Q e H:=MK h b (.inl rfl) x y z
def WY {aY:List Nat} {k:List (List Nat)} {eQ:List (Nat × Nat)} {ops:List bU} {E:Nat->Env} {G:Nat->aF} {V:Nat->AV} {W R:Nat->List Nat} (h:CN k ops W R) (b:qf P True ops E G V W R) (x:E 0=e) (y:G 0=H) {Q:cx}
  (z:Q .normal (dd aY (E (ae ops))) (G (ae ops))):AW P N (.Aa aY k eQ ops) Q e H:=MK h b (.inr rfl) x y z
def Uo {aY:List Nat} {j:List (List Nat)} {ops:List bU} {M:bU} (md:List Nat) (n:eZ 0 j=aq) (A:jV (j.take (ae ops)) md ops=aq) (g:∀i,i < ae ops->k9 (kF j []) i (ae ops)=aq)
  {O:Env} {os:List (AV × Option aF)} {q:List Obl} {Q:cx} (h:mF md 0 ops e H os=ak (O,H',q)) (ho:Nu P q)
  (hq:∀(x:Array Oper),fM P N x x.toList (ops++[M])=aq->∀(I:Imm) (β:Bet) (a:Act) (w:World) (fo:Option Nat) (dl:List Deferred) (L:Exit->Act->World->Prop),cE dl N I β O H' a w->(∀r w' R J,Out dl N I β H' w R J r w'->Q .normal (dd aY R) J->L .normal r w')->wpOpsIn (FR fo) 0 P x L [ae ops] a w):AW P N (.DM aY j ops M) Q e H:=by
 intro k X fo dl I β a w s;have W:=X;cases k<;>try (simp only[fk,ah5] at W;done)
 rename_i T x dr;cases dr<;>simp only[fk,ah5,ah2] at X;have ⟨⟨K,z⟩,m⟩:=X;have z:x.toList.map bH=j:=bu z;have ht:=rG h ho.all;have hl:x.size=ae ops+1:=by have:=(fR K).1;simpa using this
 have ⟨E,G,V,h1,h2,h3,S,h5,h6,h7⟩:=ht.fn;have D:sF P md ops E G V:=⟨h5,h6,fun i hi hm=>h7 i hi (bu hm)⟩;have C:cE dl N I β e H a {w with drawn:=w.drawn+1}:=by refine ⟨⟨fun b o v e=>s.bG.fP b o v e,fun T ob h=>?_,s.bG.inj,s.bG.jr,s.bG.ver⟩,s.size,s.env,s.sH⟩;have ⟨B,g1,g2,g3⟩:=s.bG.obj T ob h;exact ⟨B,g1,g2,g3.aY (.refl _) (.refl _) (fun _=>rfl) (fun _ _=>rfl)⟩
 have hx:Ext I β H w I β H {w with drawn:=w.drawn+1}:=⟨.refl _,.refl _,ahZ _,ahZ _,rfl,rfl,rfl,fun _ _ _=>⟨rfl,fun _=>rfl⟩,fun _ h => .inl h⟩;refine wpIn_region_draw fun t=>?_;have f:Region.schedule (P.follows .mixedOrders) x t=Region.linearise .any x t:=by unfold Region.schedule;rw[ah1 m]
 rw[f];unfold Region.linearise;have c:∀i,(Array.replicate x.size ar).getD i ar=ar:=by intro i;simp only[aib,akI];split<;>rfl
 refine U9 K (z ▸ n) (z ▸ A) (z ▸ g) D x.size t (Array.replicate x.size ar) e H I β a _ aO (c _) ?_ ?_ ?_ ?_ C fun r w' p=>?_
 .exact aiJ (alg _ _) aO
 .intro i es _ l;have y:(Array.replicate x.size ar).getD i ar=aq:=l;rw[c] at y;simp at y
 .intro U;have:∀k,gW ops V (E 0) (fun i=>(Array.replicate x.size ar).getD i ar) k U=lk U (E 0):=by
   intro k
   induction k with
   | zero=>rfl
   | succ k F =>
    rw[gW,F,ah0];rintro ⟨l,_⟩;have y:=l;rw[c] at y;simp at y
  rw[this,h1]
 .have:∀k,jy md G (fun i=>(Array.replicate x.size ar).getD i ar) k=G 0:=by
   intro k
   induction k with
   | zero=>rfl
   | succ k F =>
    rw[jy,F,ah0];rintro ⟨l,_⟩;have y:=l;rw[c] at y;simp at y
  rw[this,h2]
 .have ⟨I2,a0,x2,s2⟩:=p;rw[h3,S] at s2;rw[S] at x2;refine hq x K I2 a0 r w' fo dl _ s2 fun a2 w2 e3 H3 hp q3=>?_;have ⟨I3,a1,x3,s3⟩:=hp;exact ⟨I3,a1,_,H3,hx.trans (x2.trans x3),s3.aY aY,q3⟩
def za (n:Nat) (e:Env) (H:aF) (e2:Env) (H2:aF):Prop :=
 ∀(dl:List Deferred) N I β a w,cE dl N I β e H a w->∃I2 β2,cE dl N I2 β2 e2 H2 a w/\∀I0 β0 H0 w0,ae H0<=n->(∀i v B,β0 i v=ak B->i < ae H0)->Ext I0 β0 H0 w0 I β H w->Ext I0 β0 H0 w0 I2 β2 H2 w
def Kg {c:cF} {Q:cx} {y:Env} {x:aF} (g:za (ae H) e H y x) (h:AW P N c Q y x):AW P N c Q e H:=by intro k b fo dl I β a w s;have ⟨z,m,j,l⟩:=g dl N I β a w s;have i:=l I β H w (ahZ _) s.bG.jr (.refl _ _ _ _);exact wpIn_mono (h k b fo dl z m a w j) fun o n p f=>AR.step i f
def aao {c:cF} {Q:cx} {y:Env} {x:aF} (b:za (ae H) e H y x) (h:AW P N c Q y x):AW P N (.wk c) Q e H:=by intro k z;exact Kg b h k (by cases k<;>simpa only[fk] using z)
def MJ {aY:List Nat} {c:cF} {Q:cx} (Inv:Nat->Env->aF->Prop) {n:Nat} (T:Inv n e H)
  (round:∀n e H,Inv n e H->AW P N c (lh (fun R H'=>∃m z y,m < n/\za (ae H) R H' z y/\Inv m z y) Q) e H):AW P N (.loop aY c) Q e H:=by
 intro k L fo dl I β a w s;cases k<;>simp only[fk,ah5] at L;rename_i k;intro b J W G C F;have key:∀n e H,Inv n e H->∀I β a w,cE dl N I β e H a w->∃r p w',AR dl N I β H w Q r p w'/\ArrivesIn (Machine.fenced P (FR fo)) P (lone (b.atR a (.code k :: .inLoop k::J)) W w) b J W r p w':=by
  intro n
  induction n using Nat.strongRecOn with
  | _ n ih =>
   intro e H U I β a w s;have ⟨r,f,j,V,h⟩:=round n e H U k L fo dl I β a w s b (.inLoop k::J) W G C F;have ⟨o,X,z,y,K,t,q⟩:=V;cases r with
   | normal =>
    have ⟨m,S,M,D,i,B⟩:=q;have ⟨O,a0,s3,x3⟩:=i dl N o X f j t;have ⟨A,p,w',E,g⟩:=ih m D S M B O a0 f j s3;exact ⟨A,p,w',AR.step (x3 I β H w (ahZ _) s.bG.jr K) E,.of_steps (StepsIn.trans h (.one (fenced_calm C F rfl) stepR_inLoop)) g⟩
   | exit id=>exact ⟨_,f,j,⟨o,X,z,y,K,t,q⟩,.pass (x := .inLoop k) rfl (fun _ _ => .inl aO) h⟩
   | goto l=>exact ⟨_,f,j,⟨o,X,z,y,K,t,q⟩,.pass (x := .inLoop k) rfl (fun _ _ => .inl aO) h⟩
   | ret=>exact ⟨_,f,j,⟨o,X,z,y,K,t,q⟩,.pass (x := .inLoop k) rfl (fun _ _ => .inl aO) h⟩
   | panic ch=>exact ⟨_,f,j,⟨o,X,z,y,K,t,q⟩,.pass (x := .inLoop k) rfl (fun _ _ => .inl aO) h⟩
   | outgrown=>exact ⟨_,f,j,⟨o,X,z,y,K,t,q⟩,.pass (x := .inLoop k) rfl (fun _ _ => .inl aO) h⟩
 have ⟨r,p,w',E,h⟩:=key n e H T I β a w s;exact ⟨r,p,w',E,.of_steps (.one (fenced_calm C F rfl) stepR_loop) h⟩
def Gc (n:Nat) (aY:List Nat) (e:Env) (H:aF):za n e H (dd aY e) H :=
 fun _ _ I β _ _ s=>⟨I,β,s.aY aY,fun _ _ _ _ _ _ h=>h⟩
def WT (aY:List Nat) {c:cF} {Q:cx} (h:AW P N c Q (dd aY e) H):AW P N c Q e H:=Kg (Gc _ _ _ _) h
def WU {aY:List Nat} {c:cF} {Q:cx} (Inv:Nat->Env->aF->Prop) {n:Nat} (y:Inv n (dd aY e) H)
  (round:∀n e H,Inv n e H->AW P N c (lh (fun h H'=>∃m,m < n/\Inv m (dd aY h) H') Q) e H):AW P N (.loop aY c) Q e H:=by
 refine WT aY (MJ Inv y fun n e H f=>(round n e H f).mono fun x h H' k=>?_);cases x with
 | normal=>obtain ⟨m,z,b⟩:=k;exact ⟨m,_,_,z,Gc _ _ _ _,b⟩
 | _=>exact k
def WkS (n:Nat) (H H2:aF) (R:AV->AV->Prop):Prop :=
 ∀I β w,Sim I β H w->∃I2 β2,Sim I2 β2 H2 w/\(∀a a2 rv,R a a2->Rel I β a rv->Rel I2 β2 a2 rv)/\∀I0 β0 H0 w0,ae H0<=n->(∀i v B,β0 i v=ak B->i < ae H0)->Ext I0 β0 H0 w0 I β H w->Ext I0 β0 H0 w0 I2 β2 H2 w
def WkS.KQ (h:WkS n H y R) (b:∀t,lk t x = .ba\/R (lk t e) (lk t x)):za n e H x y:=by
 intro dl N I β a w s;have ⟨z,i,g,c,f⟩:=h I β w s.bG;refine ⟨z,i,⟨g,s.size,fun t=>?_,s.sH⟩,f⟩;rcases b t with k | k
 .rw[k];exact .ba
 .exact c _ _ _ k (s.env t)
def WkS.trans (h:WkS n H y R) (g:WkS n y z S):WkS n H z (fun a c=>∃b,R a b/\S b c):=by intro I β w s;have ⟨f,W,K,r,t⟩:=h I β w s;have ⟨i,A,X,j,l⟩:=g f W w K;exact ⟨i,A,X,fun a c rv ⟨b,m,o⟩ p=>j _ _ _ o (r _ _ _ m p),fun C E B D x k q=>l _ _ _ _ x k (t _ _ _ _ x k q)⟩
def WkS.sub (h:WkS n H k R) (f:∀a b,S a b->R a b):WkS n H k S:=by intro I β w s;have ⟨x,j,i,c,g⟩:=h I β w s;exact ⟨x,j,i,fun a y rv z=>c a y rv (f _ _ z),g⟩
inductive Wk0:AV->AV->Prop
 | refl (a:AV):Wk0 a a
 | ba (a:AV):Wk0 a .ba
 | nil (k:Nat):Wk0 .nil (.seq k true [])
 | Dz (k:Nat):Wk0 .nil (.seq k false [])
 | full (k:Nat) (xs:List (List AV)):Wk0 (.seq k true xs) (.seq k false xs)
def Rel.TK {a y:AV} {rv:Value} (h:Wk0 a y) (x:Rel I β a rv):Rel I β y rv:=by
 cases h with
 | refl=>exact x
 | ba=>exact .ba
 | nil k=>rw[x.nZ];exact .kf (fun _=>rfl)
 | Dz k=>rw[x.nZ];exact .kf (fun h=>by simp at h)
 | full k j =>
  cases x with
  | kf h=>exact .kf (fun h=>by simp at h)
  | seq g z b c f i=>exact .seq g z b c f (fun h=>by simp at h)
inductive WkL:List AV->List AV->Prop
 | nil:WkL [] []
 | cons {a b:AV} {l m:List AV}:Wk0 a b->WkL l m->WkL (a::l) (b::m)
inductive Wk1:AV->AV->Prop
 | cell {a b:AV}:Wk0 a b->Wk1 a b
 | agg {l m:List AV}:WkL l m->Wk1 (.agg l) (.agg m)
def cG.wkL (h:WkL l m) (k:cG I β l vs):cG I β m vs:=by
 induction h generalizing vs with
 | nil=>exact k
 | cons x z y =>
  cases vs with
  | nil=>have:=k.1;simp at this
  | cons v vs=>exact .cons (k.head.TK x) (y k.tail)
def Rel.wk1 {a k:AV} {rv:Value} (h:Wk1 a k) (x:Rel I β a rv):Rel I β k rv:=by
 cases h with
 | cell h=>exact x.TK h
 | agg h =>
  obtain ⟨z,rfl,y⟩:=x.vC;exact Rel.Cl (y.wkL h)
def V4 (n:Nat) (H:aF):WkS n H H Wk1:=fun I β _ s=>⟨I,β,s,fun _ _ _ h k=>k.wk1 h,fun _ _ _ _ _ _ h=>h⟩
def wa (n:Nat) (β:Bet):Bet:=fun i v=>if i < n then β i v else an
def KF (n:Nat) (β:Bet):(wa n β).le β:=by
 intro i v x h;unfold wa at h;split at h
 .exact h
 .simp at h
def Rel.NN {n:Nat} {a:AV} {rv:Value} (h:bp n a=aq) (l:Rel I β a rv):Rel I (wa n β) a rv:=by
 cases l with
 | c g=>exact .c g
 | nil=>exact .nil
 | kf g=>exact .kf g
 | seq z k x y b i=>exact .seq z k x y b i
 | fp z f k x=>exact .fp z f k x
 | ptr k x=>simp[bp] at h;exact .ptr (by simp[wa,h,k]) x
 | sl k x y=>simp[bp] at h;exact .sl (by simp[wa,h,k]) x y
 | Ai k x=>simp[bp] at h;exact .Ai (by simp[wa,h,k]) x
 | fn k x y b =>
  simp only[bp,ah2,amN] at h;obtain ⟨rfl,rfl⟩:=h;exact .fn k x (fun j a v e=>by simp at e) (fun j a v e=>by simp at e)
 | ba=>exact .ba
 | _=>simp[bp] at h
def Rel.Ro {n:Nat} {a:AV} {rv:Value} (h:qF n a=aq) (b:Rel I β a rv):Rel I (wa n β) a rv:=by
 cases a with
 | fn f x y =>
  obtain ⟨l,i,rfl,z,c⟩:=b.Cc;simp only[qF,ah2] at h;exact .fn z.1 c.1 (fun j a v e k=>(z.2 j a v e k).NN (fX h.1 e)) (fun j a v e k=>(c.2 j a v e k).NN (fX h.2 e))
 | agg g =>
  obtain ⟨m,rfl,z⟩:=b.vC;exact .agg z.1 (fun j a v e k=>(z.2 j a v e k).NN (fX (by simpa[qF] using h) e))
 | _=>exact b.NN h
def Rel.ac0 {n:Nat} {a:AV} {rv:Value} (h:jO n a=aq) (b:Rel I β a rv):Rel I (wa n β) a rv:=by
 cases a with
 | fn f x y =>
  obtain ⟨l,i,rfl,z,c⟩:=b.Cc;simp only[jO,ah2] at h;exact .fn z.1 c.1 (fun j a v e k=>(z.2 j a v e k).Ro (fX h.1 e)) (fun j a v e k=>(c.2 j a v e k).Ro (fX h.2 e))
 | bM g =>
  obtain ⟨m,rfl,z⟩:=b.CC;exact .bM z.1 (fun j a v e k=>(z.2 j a v e k).Ro (fX (by simpa[jO] using h) e))
 | _=>exact b.Ro h
def Ou (a0:n<=m) (T:(H.take m).all (cg m)=aq):WkS n H (H.take m) (fun a C=>C=a/\jO m a=aq):=by
 intro I β w s;have k:∀(id:Nat) z,(H.take m)[id]?=ak (ak z)->id < m/\H[id]?=ak (ak z):=by grind
 refine ⟨I,wa m β,⟨s.fP,?_,?_,?_,?_⟩,?_,?_⟩
 .intro id z h;have ⟨g,o⟩:=k id z h;have ⟨B,t,K,p⟩:=s.obj id z o;refine ⟨B,by simp[wa,g,t],K,?_⟩;have f:=ah4.1 T _ (aiX h);simp only[cg] at f;unfold eL at p ⊢;split
  .rename_i q;rw[ah1 q] at p;exact p
  .rename_i q;rw[ah0 q] at p;have ⟨c,E,F,G,J,L,M,O⟩:=p;refine ⟨c,E,F,G,J,L,M,fun i j a v l r=>(O i j a v l r).NN ?_⟩;unfold dL at l;have ⟨x,hx,X⟩:=ah7.1 l;exact fX (ah4.1 f x (aiX hx)) X
 .intro id W z A B D h R l r;exact s.inj id W z A B D (k _ _ h).2 (k _ _ R).2 (KF _ _ _ _ _ l) (KF _ _ _ _ _ r)
 .intro id ver B h;unfold wa at h;split at h
  .have:=s.jr id ver B h;simp;omega
  .simp at h
 .intro id z n h q;have ⟨g,o⟩:=k id z h;unfold wa;rw[ah1 g];exact s.ver id z n o q
 .rintro a C rv ⟨rfl,V⟩ hr;exact hr.ac0 V
 .intro I0 a1 H0 w0 hl U x;refine ⟨x.fP,?_,?_,x.size,x.os,x.tape,x.output,x.frame,?_⟩
  .intro i v y h;have g:=x.ue i v y h;unfold wa;rw[ah1 (by have:=U i v y h;omega)];exact g
  .rw[aiG];have:=x.len;omega
  .intro b S;have ⟨id,z,B,g,o,t,K⟩:=S;exact x.own b ⟨id,z,B,(k _ _ g).2,KF _ _ _ _ _ o,t,K⟩
def RK (n:Nat) (H:aF) (id:Nat):WkS n H (H.set id an) (fun a c=>c=a):=by
 intro I β w s;have k:∀(i:Nat) y,(H.set id an)[i]?=ak (ak y)->i≠id/\H[i]?=ak (ak y):=by grind
 refine ⟨I,β,⟨s.fP,fun i y h=>s.obj i y (k i y h).2,fun i j y z B f h g=>s.inj i j y z B f (k _ _ h).2 (k _ _ g).2,fun i v B h=>by rw[ah8];exact s.jr i v B h,fun i y n h=>s.ver i y n (k _ _ h).2⟩,?_,?_⟩
 .rintro a c rv rfl r;exact r
 .intro K W t X _ _ x;refine ⟨x.fP,x.ue,by rw[ah8];exact x.len,x.size,x.os,x.tape,x.output,x.frame,?_⟩;intro b q;have ⟨i,y,B,l,m,o,p⟩:=q;exact x.own b ⟨i,y,B,(k _ _ l).2,m,o,p⟩
def fm (id ver k:Nat) (xs:List (List AV)):AV->AV
 | .sl k' id' ver' i m=>if id'=id/\ver'=ver then (if k'=k/\i+m<=ae xs then .seq k ar ((xs.drop i).take m) else .ba) else .sl k' id' ver' i m
 | .ptr id' ver' i o=>if id'=id/\ver'=ver then (match xs[i]? with | some x => .fp x o | none => .ba) else .ptr id' ver' i o
 | a=>a
def qB (id ver k:Nat) (xs:List (List AV)):AV->AV
 | .agg cs => .agg (cs.map (fm id ver k xs))
 | .fn f a b => .fn f (a.map (fm id ver k xs)) (b.map (fm id ver k xs))
 | a=>fm id ver k xs a
def dD (id ver k:Nat) (xs:List (List AV)):AV->AV
 | .bM cs => .bM (cs.map (qB id ver k xs))
 | a=>qB id ver k xs a
def cG.Q5 (h:cG I β l vs) (b:∀a v,Rel I β a v->Rel y β2 (f a) v):cG y β2 (l.map f) vs:=by refine ⟨by simp[h.1],fun j a v k z=>?_⟩;rw[ajp] at k;obtain ⟨x,c,rfl⟩:=aiD.1 k;exact b _ _ (h.2 j x v c z)
def pf {n id ver:Nat} {ob:bz} (a8:aI H id ver=ak ob) (a7:ob.xs.all (fun x=>x.all bT)=aq):WkS n H (H.set id an) (fun a a2=>a2=dD id ver ob.k ob.xs a):=by
 intro I β w s;have ⟨M,R⟩:=dF a8;obtain ⟨B,hB,r,a5⟩:=s.obj id ob M;have D:∀i j a,dL ob.xs i j=ak a->bT a=aq:=by intro i j a z;unfold dL at z;have ⟨x,l,a9⟩:=ah7.1 z;exact fX (ah4.1 a7 x (aiX l)) a9
 let W:Imm:=fun b o=>if B.gL=ar/\b=B.b then (match w.heap[b]? with | some (.cells c _ _)=>c[o]? | _=>an) else I b o;have t:I.le W:=by
  intro b o v h;simp only[W];rw[ah0]
  .exact h
  .rintro ⟨F,rfl⟩;have:=Own.Q6 s ⟨id,ob,B,M,hB,F,rfl⟩ o;rw[this] at h;simp at h
 have q:∀(i:Nat) ob,(H.set id an)[i]?=ak (ak ob)->i≠id/\H[i]?=ak (ak ob):=by
  intro i ob h;rw[Gt] at h;split at h
  .split at h<;>simp at h
  .exact ⟨fun e=>by simp_all,h⟩
 have a0:∀b,(B.gL=aq\/b≠B.b)->∀o,W b o=I b o:=by
  intro b hb o;simp only[W];rw[ah0];rintro ⟨F,rfl⟩;rcases hb with h | h
  .simp[F] at h
  .exact h rfl
 have J:∀a v,Rel I β a v->Rel W β (fm id ver ob.k ob.xs a) v:=by
  intro a v A;cases a with
  | sl k' b0 a6 i m =>
   simp only[fm];split
   .rename_i hh;obtain ⟨rfl,rfl⟩:=hh;split
    .rename_i hk;obtain ⟨rfl,b3⟩:=hk;obtain ⟨U,p,C,b1,rfl,b2,hp⟩:=A.pz;rw[<-R,hB] at C;cases C;have hl:ae ((ob.xs.drop i).take m)=m:=bW;by_cases h0:m=0
     .subst h0;have:(ob.xs.drop i).take 0=[]:=aO;rw[this];exact .kf (fun h=>by simp at h)
     .rcases hp with ⟨F,rfl⟩ | ⟨h5,_⟩
      case inr=>exact absurd h5 h0
      have ⟨c,E,V,g2,g3,g4,G,g6⟩:=a5.flat r F;have L:∀X j a,dL ((ob.xs.drop i).take m) X j=ak a->dL ob.xs (i+X) j=ak a:=by
       intro X j a z;simp only[dL,aj7,ajS] at z ⊢;split at z
       .exact z
       .simp at z
      have a3:∀X j a,dL ob.xs X j=ak a->∃v,c[B.off+X*B.k+j]?=ak v:=by intro X j a z;have g:=j7 (fun x l=>(G x l).1) z;have K:=(aid.1 g).1;rw[eA (fun x l=>(G x l).1),<-r] at K;have:ae ob.xs*B.k<=B.cap*B.k:=ai7 _ g4;exact ⟨_,aiN aD⟩
      have:=Rel.seq (I:=W) (β:=β) (f:=ar) (k:=ob.k) (xs:=(ob.xs.drop i).take m) (b:=B.b) (off:=B.off+i*B.k) (cap:=B.cap - i) (fun X j=>(c[B.off+(i+X)*B.k+j]?).getD undef)
       (fun x l=>G x (aju (ajP l))) (fun X j a z=>by
        have ⟨v,hv⟩:=a3 _ _ _ (L _ _ _ z);simp only[W];rw[ah1 (by simp[F]),V];simp only;rw[<-r,show B.off+i*B.k+X*B.k+j=B.off+(i+X)*B.k+j by rw[aiW];omega,hv];rfl) (fun X j a z=>by
        have ⟨v,hv⟩:=a3 _ _ _ (L _ _ _ z);rw[hv];have g:=j7 (fun x l=>(G x l).1) (L _ _ _ z);rw[<-r] at g;exact ((g6 _ a v g (by rw[<-ajf];exact hv)).bT (D _ _ _ (L _ _ _ z)) iO).mono t (.refl _)) aD (fun h=>by simp at h);rw[hl] at this;exact this
    .exact .ba
   .exact A.mono t (.refl _)
  | ptr b0 a6 i o =>
   simp only[fm];split
   .rename_i hh;obtain ⟨rfl,rfl⟩:=hh;split
    .rename_i x l;obtain ⟨U,C,F,rfl⟩:=A.yO;rw[<-R,hB] at C;cases C;have ⟨c,E,V,g2,g3,g4,G,g6⟩:=a5.flat r F;have O:∀j a,x[j]?=ak a->∃v,c[B.off+i*B.k+j]?=ak v/\dL ob.xs i j=ak a:=by
      intro j a ha;have z:dL ob.xs i j=ak a:=by simp[dL,l,ha]
      have g:=j7 (fun x l=>(G x l).1) z;have K:=(aid.1 g).1;rw[eA (fun x l=>(G x l).1),<-r] at K;have:ae ob.xs*B.k<=B.cap*B.k:=ai7 _ g4;exact ⟨_,aiN aD,z⟩
     have:=Rel.fp (I:=W) (β:=β) (cs:=x) (o:=o) (b:=B.b) (off:=B.off+i*B.k) (fun j=>(c[B.off+i*B.k+j]?).getD undef) (G x (aiX l)).2 (fun j a ha=>by
       have ⟨v,hv,_⟩:=O j a ha;simp only[W];rw[ah1 (by simp[F]),V];simp only;rw[hv];rfl) (fun j a ha=>by
       have ⟨v,hv,z⟩:=O j a ha;rw[hv];have g:=j7 (fun x l=>(G x l).1) z;rw[<-r] at g;exact ((g6 _ a v g (by rw[<-ajf];exact hv)).bT (D _ _ _ z) iO).mono t (.refl _));exact this
    .exact .ba
   .exact A.mono t (.refl _)
  | _=>exact A.mono t (.refl _)
 have a1:∀a v,Rel I β a v->Rel W β (qB id ver ob.k ob.xs a) v:=by
  intro a v A;cases a with
  | agg cs =>
   obtain ⟨vs,rfl,rs⟩:=A.vC;exact Rel.Cl (rs.Q5 J)
  | fn f x y =>
   obtain ⟨vf,vc,rfl,r1,r2⟩:=A.Cc;have g:=r1.Q5 J;have K:=r2.Q5 J;exact .fn g.1 K.1 g.2 K.2
  | _=>exact J _ _ A
 refine ⟨W,β,⟨?_,?_,?_,?_,?_⟩,?_,?_⟩
 .intro b o v h;simp only[W] at h;split at h
  .split at h
   .rename_i c E fz hc;exact ⟨c,E,fz,hc,h⟩
   .simp at h
  .exact s.fP b o v h
 .intro i T h;have ⟨g,K⟩:=q i T h;have ⟨U,V,g2,g3⟩:=s.obj i T K;refine ⟨U,V,g2,g3.aY t (.refl _) (fun _=>rfl) (fun F o=>a0 _ ?_ o)⟩;cases S:B.gL with
  | true=>exact .inl rfl
  | false=>exact .inr fun e=>g (s.inj i id T ob U B K M V hB F S e)
 .intro i j o1 o2 B1 B2 h h';exact s.inj i j o1 o2 B1 B2 (q _ _ h).2 (q _ _ h').2
 .intro i v B h;rw[ah8];exact s.jr i v B h
 .intro i o n h;exact s.ver i o n (q _ _ h).2
 .rintro a a2 rv rfl A;cases a with
  | bM cs =>
   obtain ⟨vs,rfl,rs⟩:=A.CC;have g:=rs.Q5 a1;exact .bM g.1 g.2
  | _=>exact a1 _ _ A
 .intro I0 b4 H0 w0 _ _ x;refine ⟨x.fP.trans t,x.ue,by rw[ah8];exact x.len,x.size,x.os,x.tape,x.output,?_,?_⟩
  .intro b hb a4;have ⟨g,K⟩:=x.frame b hb a4;refine ⟨g,fun o=>?_⟩;rw[a0 b ?_ o,K o];cases S:B.gL with
   | true=>exact .inl rfl
   | false =>
    refine .inr fun e=>?_;subst e;rcases x.own B.b ⟨id,ob,B,M,hB,S,rfl⟩ with h | h
    .exact a4 h
    .omega
  .intro b hb;have ⟨i,o,U,g,K,h3,h4⟩:=hb;exact x.own b ⟨i,o,U,(q _ _ g).2,K,h3,h4⟩
inductive jZ where
 | t (n:Nat)
 | cell (n:Nat) (ag:Bool) (k:Nat)
def DP (e:Env) (H:aF):jZ->Option AV
 | .t n=>ak (lk n e)
 | .cell n ag k=>match lk n e with
  | .fp cs o=>gC ag cs o k
  | .ptr id ver i o=>(aI H id ver).bind fun ob=>(ob.xs[i]?).bind fun x=>gC ag x o k
  | _=>an
def ng (e:Env) (H:aF):List jZ->Option (List AV)
 | []=>ak []
 | r::l=>(DP e H r).bind fun v=>(ng e H l).map (v::·)
def Ac:List AV->AV
 | [v]=>v
 | vs => .bM vs
def MN (P:Program):ResultVar->jZ->Bool
 | .tmp t,.t n=>t==n
 | .cell x t,.cell n ag k=>x==n&&jF P t==ak ag&&eX P t==ak k
 | _,_=>ar
def tF (P:Program):List ResultVar->List jZ->Bool
 | [],[]=>aq
 | x::r,y::s=>MN P x y&&tF P r s
 | _,_=>ar
def nI (args:List AV):Env:=args.zipIdx.map fun p=>(p.2,p.1)
def Ze (l:List AV) (m t:Nat):lk t ((l.zipIdx m).map fun p=>(p.2,p.1))=if m<=t then l.getD (t - m) .ba else .ba:=by
 induction l generalizing m with
 | nil=>simp[lk]
 | cons x r y =>
  simp only[al8,aiS,lk,y];by_cases h:m=t
  .subst h;simp
  .rw[ah0 h];by_cases k:m<=t
   .rw[ah1 (by omega),ah1 k,show t - m=(t - (m+1))+1 by omega];simp
   .rw[ah0 (by omega),ah0 k]
def Gv (args:List AV) (t:Nat):lk t (nI args)=args.getD t .ba:=by have:=Ze args 0 t;simpa[nI] using this
def Cy (tmps:Array Value):ResultVar->Sem Value
 | .tmp t=>pure (tmps.getD t undef)
 | .cell x t=>do loadVar t (<-asAddr (tmps.getD x undef))
def Rp (k:Func) (tmps:Array Value):results k tmps=(do
  let vs <-k.results.mapM (Cy tmps)
  pure (if h:vs.size=1 then vs[0] else .tuple vs)):=by unfold results;congr 1
def XG (s:cE dl N I β e H a w) (h:MN P x y=aq) (hv:DP e H y=ak v) :
  ∃rv,(Cy a.tmps x).run P w = .ok rv w/\Rel I β v rv:=by
 unfold MN at h;split at h
 .simp at h;subst h;simp[DP] at hv;subst hv;exact ⟨_,rfl,s.env _⟩
 .rename_i x t n r k;simp at h;obtain ⟨⟨rfl,z⟩,j⟩:=h;have r1:=s.env x;simp only[DP] at hv;generalize lk x e=A at *;split at hv
  .have ⟨b,off,X,c,_,l,m⟩:=r1.I8;have ⟨rv,f,g⟩:=wR z j (Sb s.bG l m) hv;exact ⟨rv,by simp only[Cy,c,asAddr];simpa using f,g⟩
  .have ⟨K,i,hv⟩:=ah7.1 hv;have ⟨W,q,hv⟩:=ah7.1 hv;have ⟨B,o,p,c⟩:=r1.yO;have ⟨rv,f,g⟩:=wR z j (s.bG.row i o p q) hv;exact ⟨rv,by simp only[Cy,c,asAddr];simpa using f,g⟩
  .simp at hv
 .simp at h
def NR (s:cE dl N I β e H a w):∀{xs:List ResultVar} {ys:List jZ} {vs:List AV},tF P xs ys=aq->ng e H ys=ak vs ->
  ∃aV:List Value,(xs.mapM (Cy a.tmps)).run P w = .ok aV w/\cG I β vs aV
 | [],[],vs,_,h=>by simp[ng] at h;subst h;exact ⟨[],aO,.nil _ _⟩
 | x::xs,y::ys,vs,k,h=>by simp only[tF,ah2] at k;simp only[ng] at h;have ⟨v,hv,h⟩:=ah7.1 h;obtain ⟨l,g,rfl⟩:=aiD.1 h;have ⟨rv,z,b⟩:=XG s k.1 hv;have ⟨aV,c,f⟩:=NR s k.2 g;refine ⟨rv::aV,?_,.cons b f⟩;simp only[am8,Sem.run_bind,z,Result.andThen_ok,c,Sem.run_pure]
 | [],_::_,_,k,_=>by simp[tF] at k
 | _::_,[],_,k,_=>by simp[tF] at k
def sP (s:cE dl N I β e H a w) (z:tF P x.results.toList ys=aq) (h:ng e H ys=ak vs):∃rv,(results x a.tmps).run P w = .ok rv w/\Rel I β (Ac vs) rv:=by
 have ⟨aV,y,k⟩:=NR s z h;have b:(x.results.mapM (Cy a.tmps)).run P w = .ok aV.toArray w:=by rw[amJ];simp only[Sem.run_map,y,Result.andThen_ok]
 rw[Rp];simp only[Sem.run_bind,b,Result.andThen_ok,Sem.run_pure];refine ⟨_,rfl,?_⟩
 match vs,aV,k with
 | [],[],k=>exact .bM k.1 k.2
 | [v],[rv],k=>exact k.head
 | v::f::vs,rv::c::aV,k =>
  simp only[List.size_toArray,aiF];rw[dif_neg aD];exact .bM k.1 k.2
 | [],_::_,k=>exact absurd k.1 aO
 | _::_,[],k=>exact absurd k.1 aO
 | [_],_::_::_,k=>exact absurd k.1 aO
 | _::_::_,[_],k=>exact absurd k.1 aO
def Fin (n:Nat) (r:AV) (H:aF) (r2:AV) (H2:aF):Prop:=∃R,WkS n H H2 R/\R r r2
structure HG (P:Program) (f:FuncId) (N:Nat) (ac:cF) (rs:List jZ):Prop where
 ok:∃fn body,P.funcs[f]?=some fn/\(fn.name== "runtime.NumGoroutine")=false/\fn.body=some body/\fn.ntmps=N/\fk P N body ac=true/\tF P fn.results.toList rs=true
def MM (O:HG P f N B V) (hl:ae args<=N)
  (h:AW P N B (fun x C H'=>(x = .normal\/x = .ret)/\∃vs,ng C H' V=ak vs/\Fin (ae H) (Ac vs) H' r b) (nI args) H):bR P f args H r b:=by
 have ⟨y,body,o,D,p,E,F,G⟩:=O.ok;refine ⟨⟨y,o,D,by simp[p]⟩,fun I β w vs s K=>?_⟩;refine calls_of_wp o p ?_;have q:=K.1;have s0:cE [] N I β (nI args) H {tmps:=vs.toArray++Array.replicate (y.ntmps - vs.toArray.size) undef,defers:=[]} w:=by
  refine ⟨s,by simp[E];omega,fun t=>?_,rfl⟩;rw[Gv];rcases aij t (ae args) with z | z
  .have g:args.getD t .ba=args[t]:=by simp[af,z]
   have m:(vs.toArray++Array.replicate (y.ntmps - vs.toArray.size) undef).getD t undef=vs[t]'(by omega):=by rw[aib,akv (by simp;omega)];simp[show t < ae vs by omega]
   rw[g,m];exact K.2 t _ _ (by simp[z]) (by simp[show t < ae vs by omega])
  .have g:args.getD t .ba = .ba:=by simp[af,z]
   rw[g];exact .ba
 refine wp_mono ((wpIn_wide (n:=0)).1 (h body F an [] I β _ w s0)) fun ex A w' S=>?_;have ⟨X,a1,m,H3,x2,j,T,a0,k,R,i,M⟩:=S;have fin:bodyPost P y (fun e w'=>∃rv c l,e = .returned rv/\Ext I β H w c l b w'/\Sim c l b w'/\Rel c l r rv) .normal A w':=by have ⟨rv,J,L⟩:=sP j G k;have ⟨W,a2,s3,U,x3⟩:=i X a1 w' j.bG;exact ⟨j.sH,rv,J,rv,W,a2,rfl,x3 I β H w (ahZ _) s.jr x2,s3,U _ _ _ M L⟩
 rcases T with rfl | rfl
 .exact fin
 .exact fin
def bg (P:Program) (f:FuncId) (args:List AV) (r:AV):Prop:=bR P f args [] r []
def bg.call (h:bg P f args r) (H:aF) (D:args.all bJ=aq) (F:bJ r=aq):bR P f args H r H:=by
 have ⟨A,C⟩:=h;refine ⟨A,fun I β w q s k=>?_⟩;have M:Sim I iO [] w:=⟨s.fP,fun c i h=>by simp at h,fun c G i J B O h=>by simp at h,fun c ver B h=>by simp[iO] at h,fun c i n h=>by simp at h⟩;have z:cG I iO args q:=⟨k.1,fun j a v e K=>(k.2 j a v e K).bJ (fX D e) iO⟩;refine (C I iO w q M z).mono fun R S E=>?_;obtain ⟨rv,t,T,rfl,x,L,p⟩:=E;have o:∀b,¬Own iO [] b:=by rintro b ⟨c,i,B,h,_⟩;simp at h
 have y:=fun b g=>x.frame b g (o b);refine ⟨rv,t,β,rfl,⟨x.fP,.refl _,ahZ _,x.size,x.os,x.tape,x.output,fun b g _=>y b g,fun b g => .inl g⟩,⟨L.fP,fun c i h=>?_,s.inj,s.jr,s.ver⟩,p.bJ F β⟩;have ⟨B,X,W,l⟩:=s.obj c i h;exact ⟨B,X,W,l.aY x.fP (.refl _) (fun m=>(y _ (l.lt m)).1) (fun m=>(y _ (l.lt m)).2)⟩
def bg.aau (h:bg P f args r) (D:args.all bJ=aq) (F:bJ r=aq):Iz P f args r:=by
 have ⟨A,C⟩:=h;refine ⟨A,fun I β H w q s k=>?_⟩;have M:Sim I iO [] w:=⟨s.fP,fun c i h=>by simp at h,fun c G i J B O h=>by simp at h,fun c ver B h=>by simp[iO] at h,fun c i n h=>by simp at h⟩;have z:cG I iO args q:=⟨k.1,fun j a v e K=>(k.2 j a v e K).bJ (fX D e) iO⟩;refine (C I iO w q M z).mono fun R S E=>?_;obtain ⟨rv,t,T,rfl,x,L,p⟩:=E;have o:∀b,¬Own iO [] b:=by rintro b ⟨c,i,B,h,_⟩;simp at h
 have y:=fun b g=>x.frame b g (o b);refine ⟨rv,t,rfl,⟨x.fP,.refl _,ahZ _,x.size,x.os,x.tape,x.output,fun b g _=>y b g,fun b g => .inl g⟩,⟨L.fP,fun c i h=>?_,s.inj,s.jr,s.ver⟩,p.bJ F β⟩;have ⟨B,X,W,l⟩:=s.obj c i h;exact ⟨B,X,W,l.aY x.fP (.refl _) (fun m=>(y _ (l.lt m)).1) (fun m=>(y _ (l.lt m)).2)⟩
def dJ (h:Wk1 r k):Fin n r H k H:=⟨_,V4 n H,h⟩
def j6 (k:n<=m) (h:(H.take m).all (cg m)=aq) (x:jO m r=aq):Fin n r H r (H.take m):=⟨_,Ou k h,rfl,x⟩
def Fin.trans (h:Fin n r H f k) (g:Fin n f k i x):Fin n r H i x:=by have ⟨R,b,c⟩:=h;have ⟨S,y,z⟩:=g;exact ⟨_,b.trans y,_,c,z⟩
def uy {n id ver:Nat} {r:AV} {ob:bz} (y:aI H id ver=ak ob) (h:ob.xs.all (fun x=>x.all bT)=aq):Fin n r H (dD id ver ob.k ob.xs r) (H.set id an):=⟨_,pf y h,rfl⟩
end
section
variable {P:Program} {dl:List Deferred} {fo:Option Nat} {N:Nat} {e:Env} {H H':aF} {v:AV}
inductive Md where
 | any
 | aY
 | FM
 | Pf
 | loc
def cR (P:Program) (f:FuncId) (args:List AV) (H:aF) (Post:AV->aF->Prop):Prop :=
 sZ P f/\∀I β w vs,Sim I β H w->cG I β args vs->Calls P f vs.toArray w fun e w'=>∃rv r H' I' β',e = .returned rv/\Ext I β H w I' β' H' w'/\Sim I' β' H' w'/\Rel I' β' r rv/\Post r H'
def bR.q (h:bR P f args H r H'):cR P f args H fun v G=>v=r/\G=H':=by refine ⟨h.1,fun I β w c s b=>(h.2 I β w c s b).mono ?_⟩;rintro e i ⟨rv,k,g,x,y,z,a⟩;exact ⟨rv,r,H',k,g,x,y,z,a,rfl,rfl⟩
def cR.mono (h:cR P f args H R) (g:∀v G,R v G->S v G):cR P f args H S:=by refine ⟨h.1,fun I β w i s c=>(h.2 I β w i s c).mono ?_⟩;rintro e l ⟨rv,r,H',k,j,x,y,z,a,b⟩;exact ⟨rv,r,H',k,j,x,y,z,a,g _ _ b⟩
def Ib (fr:Md):AOp->Md
 | .mO _ _=>match fr with
  | .aY => .Pf
  | .FM => .loc
  | fr=>fr
 | _=>fr
def cS (P:Program) (fr:Md) (op:AOp) (e:Env) (H:aF) (K:AV->aF->Prop):Prop :=
 match fI op e with
 | some (f,args)=>match Ib fr op with
  | .any=>∃Post,cR P f args H Post/\∀v H',Post v H'->K v H'
  | .Pf=>∃v H',bR P f args H v H'/\K v H'
  | .aY=>∃v,bR P f args H v H/\K v H
  | .FM=>∃v,Iz P f args v/\K v H
  | .loc=>∃v a ob ob',tv P f args v a ob ob'/\eH H a=ak ob/\K v (H.set a (ak ob'))
 | none=>match gE op e H with
  | some (v,H')=>K v H'
  | none=>False
def RW (P:Program) (fr:Md):List bU->Env->aF->(Env->aF->Prop)->Prop
 | [],e,H,Q=>Q e H
 | o::r,e,H,Q=>match fi o.g e with
  | some aq=>cS P fr o.op e H fun v H'=>RW P fr r (fq o.dst v e) H' Q
  | some ar=>RW P fr r (fq o.dst (.bM []) e) H Q
  | none=>False
def RW.wp {ops:Array Oper} {k:List bU} (q:fM P N ops ops.toList k=aq) {Q:Exit->Act->World->Prop}:∀(r:List bU) (i:Nat),k.drop i=r->∀{e:Env} {H:aF} {I:Imm} {β:Bet} {a:Act} {w:World} {j:Env->aF->Prop},
  RW P .any r e H j->cE dl N I β e H a w->(∀G w' J H',Out dl N I β H w J H' G w'->j J H'->Q .normal G w')->wpOpsIn (FR fo) 0 P ops Q (List.range' i (ae r)) a w
 | [],i,_,e,H,I,β,a,w,j,h,s,o=>by simp only[aiV,List.range'_zero,wpOpsIn];exact o a w e H ⟨I,β,.refl _ _ _ _,s⟩ h
 | ao::r,i,L,e,H,I,β,a,w,j,h,s,o=>by
  obtain ⟨T,R⟩:=fR q;have M:k[i]?=ak ao:=by have:=akS (fun l=>l[0]?) L;simp at this;exact this
  have U:=(aid.1 M).1;have A:i < ops.size:=by simp at T;omega
  have n:=aiN A;have z:=R i ops[i] ao (by simp[n]) M;have c:k.drop (i+1)=r:=by rw[<-ajo,L];rfl
  have ⟨x,g,_⟩:=lB z;simp only[aiF,alN,wpOpsIn,n];unfold RW at h;split at h
  .rename_i D;rw[ah1 (fY z s D)];unfold cS at h;split at h
   .rename_i f args y;have h:∃Post,cR P f args H Post/\∀v H',Post v H'->RW P .any r (fq ao.dst v e) H' j:=by
     have V:Ib .any ao.op = .any:=by cases ao.op<;>rfl
     rw[V] at h;exact h
    have ⟨Post,m,S⟩:=h;refine mN z s y m.1 (fun vs hr=>m.2 I β w vs s.bG hr) ?_;rintro en w' ⟨rv,v,H',O,a0,rfl,p,E,b,hp⟩;exact ⟨rv,rfl,RW.wp q r (i+1) c (S v H' hp) (x ▸ s.put p E g b) fun X F W K B=>o _ _ _ _ (B.step p)⟩
   .rename_i y;split at h
    .rename_i v H1 C;refine om z s C fun rv O a0 w' p E b _=>?_;exact RW.wp q r (i+1) c h (x ▸ s.put p E g b) fun X F W K B=>o _ _ _ _ (B.step p)
    .exact h.elim
  .rename_i D;rw[ah0 (by rw[fY z s D];simp)];rw[x];exact ⟨fun _ _=>trivial,RW.wp q r (i+1) c h (s.put (.refl _ _ _ _) s.bG (fun t ht=>g t (x ▸ ht)) GK) o⟩
  .exact h.elim
def WV {aY:List Nat} {ops:List bU} {Q:cx} (h:RW P .any ops e H fun c H'=>Q .normal (dd aY c) H'):AW P N (.xG aY ops) Q e H:=by
 intro k z fo dl I β a w s;have b:=z;cases k<;>try (simp only[fk,ah5] at b;done)
 rename_i p x g;cases g<;>simp only[fk,ah5] at z;have i:x.size=ae ops:=by have:=(fR z).1;simpa using this
 refine wpIn_region ?_;rw[amk,i];refine RW.wp z ops 0 rfl h s fun o q c H' y j=>?_;have ⟨f,n,m,l⟩:=y;exact ⟨f,n,_,H',m,l.aY aY,j⟩
def qI:Nat->List bU->List Nat
 | _,[]=>[]
 | i,o::r=>if o.op.dV then i::qI (i+1) r else qI (i+1) r
def RW.mF {md:List Nat}:∀{ops:List bU} {i:Nat} {e:Env} {H:aF} {Q:Env->aF->Prop},(∀j,j∈qI i ops->iw md j=aq)->RW P .aY ops e H Q->∃z x H' k,mF md i ops e H z=ak (x,H',k)/\Nu P k/\Q x H'
 | [],i,e,H,Q,_,h=>⟨[],e,H,[],rfl,trivial,h⟩
 | o::r,i,e,H,Q,hm,h=>by
  have y:∀j,j∈qI (i+1) r->iw md j=aq:=fun j t=>hm j (by unfold qI;split<;>simp[t]);unfold RW at h;split at h
  .rename_i g;unfold cS at h;split at h
   .rename_i f args l;have h:(∃v,bR P f args H v H/\RW P .aY r (fq o.dst v e) H Q)\/(o.op.dV=aq/\∃v H',bR P f args H v H'/\RW P .aY r (fq o.dst v e) H' Q):=by cases K:o.op<;>simp only[K,Ib] at h<;>first | exact .inl h | exact .inr ⟨rfl,h⟩
    rcases h with h | ⟨c,v,m,n,p⟩
    case inr =>
     have ⟨z,x,H',k,w,a,b⟩:=RW.mF y p;have q:=hm i (by unfold qI;rw[ah1 c];simp);exact ⟨(v,ak m)::z,x,H',⟨f,args,H,v,m⟩::k,by simp only[Fx.mF,g,l,q,amB,ajl,ana,ah5,ajO,ai9,w,ai3],⟨n,a⟩,b⟩
    have ⟨v,n,p⟩:=h;have ⟨z,x,H',k,w,a,b⟩:=RW.mF y p;exact ⟨(v,an)::z,x,H',⟨f,args,H,v,H⟩::k,by simp only[Fx.mF,g,l,Option.isSome_none,aj9,ah5,ajO,Option.getD_none,w,ai3],⟨n,a⟩,b⟩
   .rename_i l;split at h
    .rename_i v m X;have s:(o.op.dV && !(iw md i))=ar:=by
      cases c:o.op.dV with
      | false=>rfl
      | true=>rw[hm i (by unfold qI;rw[ah1 c];simp)];rfl
     have ⟨z,x,H',k,w,a,b⟩:=RW.mF y h;exact ⟨z,x,H',k,by simp only[Fx.mF,g,l,s,ah5,ajO,X,w],a,b⟩
    .exact h.elim
  .rename_i g;have ⟨z,x,H',k,w,a,b⟩:=RW.mF y h;exact ⟨z,x,H',k,by simp only[Fx.mF,g,w],a,b⟩
  .exact h.elim
def vk (i:Nat):List (Nat × List Nat × List Nat)->List Nat
 | []=>[]
 | (j,w,_)::r=>if j=i then w else vk i r
def zP (i:Nat):List (Nat × List Nat × List Nat)->List Nat
 | []=>[]
 | (j,_,l)::r=>if j=i then l else zP i r
def RWC (P:Program):Nat->List bU->Env->aF->List (Nat × List Nat × List Nat)->(Env->aF->List (Nat × List Nat × List Nat)->Prop)->Prop
 | _,[],e,H,acc,Q=>Q e H acc
 | i,o::r,e,H,acc,Q=>match fi o.g e with
  | some aq=>cS P .FM o.op e H fun v H'=>(H'.drop (ae H)).all (cg (ae H))=aq/\RWC P (i+1) r (fq o.dst v e) H' ((i,jU o.op e (ae H),kA o.op e)::acc) Q
  | some ar=>RWC P (i+1) r (fq o.dst (.bM []) e) H ((i,[],[])::acc) Q
  | none=>False
def ig (a:Nat):List Nat->Prop
 | []=>True
 | b::r=>a≠b/\ig a r
def E8:List Nat->List Nat->Prop
 | [],_=>True
 | a::r,l=>ig a l/\E8 r l
def pk (acc:List (Nat × List Nat × List Nat)):List (Nat × Nat)->Prop
 | []=>True
 | (i,j)::r=>E8 (vk i acc) (vk j acc++zP j acc)/\pk acc r
def Q9 (h:ig a l):a∉l:=by
 induction l with
 | nil=>simp
 | cons b r k=>simp only[aiz,alJ];exact ⟨h.1,k h.2⟩
def RY (h:E8 l m):∀a,a∈l->a∉m:=by
 induction l with
 | nil=>simp
 | cons b r x =>
  intro a k;rcases aiz.1 k with rfl | k
  .exact Q9 h.1
  .exact x h.2 a k
def OF (h:pk acc l):∀i j,(i,j)∈l->∀a,a∈vk i acc->a∉vk j acc/\a∉zP j acc:=by
 induction l with
 | nil=>simp
 | cons p r z =>
  have ⟨w,b⟩:=p;intro i j k a x;rcases aiz.1 k with y | k
  .cases y;have:=RY h.1 a x;simpa using this
  .exact z h.2 i j k a x
def AOp.yC:AOp->Bool
 | .ld _ _ _ | .rX _ _ _ _ _=>aq
 | _=>ar
def PC (b:List Nat) (eQ:List (Nat × Nat)) (aops:List bU) (i j:Nat):Bool :=
 match aops[i]?,aops[j]? with
 | some x,ak y=>i==j || ((!kr x y || k9 b i j)&&(!(x.op.dV&&(y.op.dV || y.op.yC)) || k9 b i j || eQ.contains (i,j)))
 | _,_=>aq
def Gz (ed:List (List Nat)) (eQ:List (Nat × Nat)) (aops:List bU):Bool :=
 eZ 0 ed&&decide (ae ed=ae aops)&&(aC (ae aops)).all (fun i=>(aC (ae aops)).all fun j=>PC (kF ed []) eQ aops i j)
def Dq (h:a∈jU o e n):o.dV=aq:=by cases o<;>simp[jU] at h<;>rfl
def Fl (h:a∈kA o e):o.dV=aq\/o.yC=aq:=by cases o<;>simp[kA] at h<;>first | exact .inl rfl | exact .inr rfl
def AOp.M8:AOp->Bool
 | .mO _ _=>aq
 | _=>ar
def RWC.trace {fl:Prop}:∀{ops:List bU} {i:Nat} {e:Env} {H:aF} {acc:List (Nat × List Nat × List Nat)} {Q:Env->aF->List (Nat × List Nat × List Nat)->Prop},(∀o,o∈ops->o.op.M8=aq->fl)->RWC P i ops e H acc Q ->
  ∃(E:Nat->Env) (G:Nat->aF) (V:Nat->AV) (W R:Nat->List Nat) (k:List (Nat × List Nat × List Nat)),E 0=e/\G 0=H/\(∀(j:Nat) x,ops[j]?=ak x->pJ P fl x (E j) (G j) (V j) (G (j+1)) (W j) (R j)/\E (j+1)=fq x.dst (V j) (E j))/\Q (E (ae ops)) (G (ae ops)) k /\
   (∀j,j < ae ops->vk (i+j) k=W j/\zP (i+j) k=R j)/\(∀j,j < i->vk j k=vk j acc/\zP j k=zP j acc)/\(∀(j:Nat) x a,ops[j]?=ak x->(a∈W j->x.op.dV=aq)/\(a∈R j->x.op.dV=aq\/x.op.yC=aq))
 | [],i,e,H,acc,Q,_,h=>⟨fun _=>e,fun _=>H,fun _ => .ba,fun _=>[],fun _=>[],acc,rfl,rfl,fun j x h=>by simp at h,h,fun j h=>by simp at h,fun j _=>⟨rfl,rfl⟩,fun j x a h=>by simp at h⟩
 | o::r,i,e,H,acc,Q,hm,h=>by
  unfold RWC at h;have key:∀(v:AV) (m:aF) (q r0:List Nat),pJ P fl o e H v m q r0->(∀a,(a∈q->o.op.dV=aq)/\(a∈r0->o.op.dV=aq\/o.op.yC=aq))->RWC P (i+1) r (fq o.dst v e) m ((i,q,r0)::acc) Q ->
    ∃(E:Nat->Env) (G:Nat->aF) (V:Nat->AV) (W R:Nat->List Nat) (k:List (Nat × List Nat × List Nat)),E 0=e/\G 0=H/\(∀(j:Nat) x,(o::r)[j]?=ak x->pJ P fl x (E j) (G j) (V j) (G (j+1)) (W j) (R j)/\E (j+1)=fq x.dst (V j) (E j))/\Q (E (ae (o::r))) (G (ae (o::r))) k /\
     (∀j,j < ae (o::r)->vk (i+j) k=W j/\zP (i+j) k=R j)/\(∀j,j < i->vk j k=vk j acc/\zP j k=zP j acc)/\(∀(j:Nat) x a,(o::r)[j]?=ak x->(a∈W j->x.op.dV=aq)/\(a∈R j->x.op.dV=aq\/x.op.yC=aq)):=by
   intro v m q r0 B C J;have ⟨E,G,V,W,R,k,l,s,K,X,F,D,I⟩:=RWC.trace (fun o b=>hm o (by simp[b])) J;refine ⟨fun j=>match j with | 0=>e | j+1=>E j,fun j=>match j with | 0=>H | j+1=>G j,fun j=>match j with | 0=>v | j+1=>V j,fun j=>match j with | 0=>q | j+1=>W j,fun j=>match j with | 0=>r0 | j+1=>R j,k,rfl,rfl,?_,X,?_,?_,?_⟩
   .intro j x w;cases j with
    | zero=>simp at w;subst w;exact ⟨by simp only[s];exact B,l⟩
    | succ j=>exact K j x (bu w)
   .intro j w;cases j with
    | zero =>
     have:=D i aD;simp only[vk,zP,ajs] at this;exact this
    | succ j =>
     have:=F j (bu w);rw[show i+(j+1)=i+1+j by omega];exact this
   .intro j w;have:=D j aD;simp only[vk,zP,ah0 (show ¬i=j by omega)] at this;exact this
   .intro j x a w;cases j with
    | zero=>simp at w;subst w;exact C a
    | succ j=>exact I j x a (bu w)
  split at h
  .rename_i p;unfold cS at h;split at h
   .rename_i f args c;cases n:o.op.M8 with
    | true =>
     have h:∃v a t z,tv P f args v a t z/\eH H a=ak t/\((H.set a (ak z)).drop (ae H)).all (cg (ae H))=aq/\RWC P (i+1) r (fq o.dst v e) (H.set a (ak z)) ((i,jU o.op e (ae H),kA o.op e)::acc) Q:=by
      have g:Ib .FM o.op = .loc:=by cases b:o.op<;>simp[b,AOp.M8] at n<;>rfl
      rw[g] at h;exact h
     have ⟨v,a,t,z,l,s,_,X⟩:=h;refine key v _ _ _ (.loc f args a t z p c l s rfl ?_ (hm o aO n)) (fun a=>⟨fun y=>Dq y,fun y=>Fl y⟩) X;have A:jU o.op e (ae H)=args.flatMap aG:=by cases b:o.op<;>simp[b,AOp.M8] at n;rw[b] at c;simp only[fI] at c;cases c;rfl
     rw[A];exact l.1
    | false =>
    have h:∃v,Iz P f args v/\(H.drop (ae H)).all (cg (ae H))=aq/\RWC P (i+1) r (fq o.dst v e) H ((i,jU o.op e (ae H),kA o.op e)::acc) Q:=by
     have g:Ib .FM o.op = .FM:=by cases b:o.op<;>simp[b,AOp.M8] at n<;>rfl
     rw[g] at h;exact h
    have ⟨v,l,s,K⟩:=h;refine key v H _ _ (.call f args p c l rfl ?_) (fun a=>⟨fun y=>Dq y,fun y=>Fl y⟩) K;cases b:o.op<;>simp[b,fI,AOp.M8] at c n<;>rfl
   .rename_i c;split at h
    .rename_i v m L;exact key v m _ _ (.op p c L h.1 rfl rfl) (fun a=>⟨fun y=>Dq y,fun y=>Fl y⟩) h.2
    .exact h.elim
  .rename_i p;exact key (.bM []) H [] [] (.off p rfl rfl rfl) (fun a=>aO) h
  .exact h.elim
def RWC.may (l:Gz o eQ ops=aq) (f:pk acc eQ) (C:∀j,j < ae ops->vk (0+j) acc=W j/\zP (0+j) acc=R j)
  (p:∀(j:Nat) m a,ops[j]?=ak m->(a∈W j->m.op.dV=aq)/\(a∈R j->m.op.dV=aq\/m.op.yC=aq)):CN o ops W R:=by
 simp only[Gz,ah2,aiU] at l;have ⟨⟨G,I⟩,J⟩:=l;have pair:∀{i j:Nat} {x y:bU},ops[i]?=ak x->ops[j]?=ak y->i≠j->((kr x y=aq->k9 (kF o []) i j=aq)/\(x.op.dV=aq->(y.op.dV=aq\/y.op.yC=aq)->k9 (kF o []) i j=aq\/(i,j)∈eQ)):=by
  intro i j x y b c k;have F:=ah4.1 J i (by simp;exact (aid.1 b).1);have z:=ah4.1 F j (by simp;exact (aid.1 c).1);simp only[PC,b,c,akh,ah2,ajt] at z;rcases z with z | ⟨z,w⟩
  .exact absurd z k
  .refine ⟨fun s=>?_,fun t q=>?_⟩
   .rcases z with z | z
    .simp[s] at z
    .exact z
   .rcases w with (w | w) | w
    .have r:(y.op.dV || y.op.yC)=aq:=by rcases q with h | h<;>simp[h]
     simp[t,r] at w
    .exact .inl w
    .exact .inr (bu w)
 refine ⟨G,I,fun b c k s=>(pair b c k).1 s,fun {i j id} b c k D g=>?_⟩;have E:=ah6 b;have K:=ah6 c;have t:=(p i _ id E).1 D;have q:ops[j].op.dV=aq\/ops[j].op.yC=aq:=by
  rcases g with h | h
  .exact .inl ((p j _ id K).1 h)
  .exact (p j _ id K).2 h
 rcases (pair E K k).2 t q with h | h
 .exact h
 .exfalso;have X:=C i b;have n:=C j c;simp only[aia] at X n;have ⟨A,B⟩:=OF f i j h id (X.1 ▸ D);rw[n.1] at A;rw[n.2] at B;rcases g with h | h
  .exact A h
  .exact B h
def dR:cF->Bool
 | .BL _ ed ops=>jV ed (qI 0 ops) ops
 | .xY _ ed eQ ops=>Gz ed eQ ops&&ops.all fun o => !o.op.M8
 | .Aa _ ed eQ ops=>Gz ed eQ ops
 | .DM _ ed ops _=>eZ 0 ed&&jV (ed.take (ae ops)) (qI 0 ops) ops&&(aC (ae ops)).all fun i=>k9 (kF ed []) i (ae ops)
 | .Ab _ ed ops suf=>eZ 0 ed&&jV (ed.take (ae ops)) (qI 0 ops) ops&&(aC (ae suf)).all fun j=>(aC (ae ops+j)).all fun i=>k9 (kF ed []) i (ae ops+j)
 | .seq a b=>dR a&&dR b
 | .cond _ a b=>dR a&&dR b
 | .block _ a=>dR a
 | .loop _ a=>dR a
 | .Eu _ _ a b=>dR a&&dR b
 | .wk a=>dR a
 | _=>aq
def CM (P:Program) (N:Nat) (aY:List Nat) (c:cF) (Q:cx) (e:Env) (H:aF):Prop:=dR c=aq->AW P N (.loop aY c) Q e H
def wH (v:AV) (A B:Prop):Prop:=∃b,v = .c (.bool b)/\(b=aq->A)/\(b=ar->B)
def WP (P:Program) (N:Nat):cF->cx->Env->aF->Prop
 | .skip,Q,e,H=>Q .normal e H
 | .xG aY ops,Q,e,H=>RW P .any ops e H fun e' H'=>Q .normal (dd aY e') H'
 | .BL aY _ ops,Q,e,H=>RW P .aY ops e H fun e' H'=>Q .normal (dd aY e') H'
 | .xY aY _ eQ ops,Q,e,H=>RWC P 0 ops e H [] fun e' H' acc=>pk acc eQ/\Q .normal (dd aY e') H'
 | .Aa aY _ eQ ops,Q,e,H=>RWC P 0 ops e H [] fun e' H' acc=>(pk acc eQ/\ae H'=ae H)/\Q .normal (dd aY e') H'
 | .DM aY _ ops al,Q,e,H=>RW P .aY ops e H fun e' H'=>RW P .any [al] e' H' fun e2 H2=>Q .normal (dd aY e2) H2
 | .seq a b,Q,e,H=>WP P N a (lh (WP P N b Q) Q) e H
 | .cond c a b,Q,e,H=>wH (c.ev e) (WP P N a Q e H) (WP P N b Q e H)
 | .block id a,Q,e,H=>WP P N a (qi id Q) e H
 | .loop aY a,Q,e,H=>CM P N aY a Q e H
 | .exit id,Q,e,H=>Q (.exit id) e H
 | .wk a,Q,e,H=>∃e2 H2,za (ae H) e H e2 H2/\WP P N a Q e2 H2
 | .label _,Q,e,H=>Q .normal e H
 | .ret,Q,e,H=>Q .ret e H
 | .Ab _ _ _ _,_,_,_=>False
 | .Eu _ _ _ _,_,_,_=>False
 | .bad,_,_,_=>False
def WP.aw:∀{c:cF} {Q:cx} {e:Env} {H:aF},dR c=aq->WP P N c Q e H->AW P N c Q e H
 | .skip,Q,e,H,_,h=>WZ h
 | .xG aY ops,Q,e,H,_,h=>WV h
 | .BL aY r ops,Q,e,H,k,h=>by have ⟨os,U,H',F,f,z,y⟩:=RW.mF (md:=qI 0 ops) (i:=0) (fun j C=>by simpa[iw] using C) h;exact WX (qI 0 ops) k f z y
 | .xY aY r eQ ops,Q,e,H,k,h=>by simp only[dR,ah2] at k;have ⟨E,G,V,W,R,n,f,z,y,⟨K,B⟩,X,h6,A⟩:=RWC.trace (fl:=False) (fun o p O=>by have:=ah4.1 k.2 o p;simp[O] at this) h;exact WW (RWC.may k.1 K X A) ⟨fun i m g=>(y i m g).1,fun i m g=>(y i m g).2,fun hf=>hf.elim⟩ f z B
 | .Aa aY r eQ ops,Q,e,H,k,h=>by have ⟨E,G,V,W,R,n,f,z,y,⟨⟨K,h9⟩,B⟩,X,h6,A⟩:=RWC.trace (fl:=True) (fun o p O=>trivial) h;exact WY (RWC.may k K X A) ⟨fun i m g=>(y i m g).1,fun i m g=>(y i m g).2,fun _=>z ▸ h9⟩ f z B
 | .DM aY r ops T,Q,e,H,k,h=>by simp only[dR,ah2] at k;have ⟨os,U,H',F,f,z,y⟩:=RW.mF (md:=qI 0 ops) (i:=0) (fun j C=>by simpa[iw] using C) h;refine Uo (qI 0 ops) k.1.1 k.1.2 (fun i g=>ah4.1 k.2 i (bu g)) f z fun L hc I β a w fo dl Qx s q=>?_;exact RW.wp hc [T] (ae ops) aO y s fun S w' M J p hp=>q S w' M J p hp
 | .seq a b,Q,e,H,k,h=>by
  simp only[dR,ah2] at k;refine Yr ((WP.aw k.1 h).mono fun x e H q=>?_);cases x with
  | normal=>exact WP.aw k.2 q
  | _=>exact q
 | .cond c a b,Q,e,H,k,h=>by simp only[dR,ah2] at k;have ⟨t,f,z,y⟩:=h;exact WR f (fun D=>WP.aw k.1 (z D)) (fun D=>WP.aw k.2 (y D))
 | .block id a,Q,e,H,k,h=>Um (WP.aw k h)
 | .loop aY a,Q,e,H,k,h=>h k
 | .exit id,Q,e,H,_,h=>WS h
 | .wk a,Q,e,H,k,h=>by have ⟨M,J,hw,h⟩:=h;exact aao hw (WP.aw (c:=a) k h)
 | .label l,Q,e,H,_,h=>Un h
 | .ret,Q,e,H,_,h=>Yq h
 | .Ab _ _ _ _,Q,e,H,_,h=>h.elim
 | .Eu _ _ _ _,Q,e,H,_,h=>h.elim
 | .bad,Q,e,H,_,h=>h.elim
def aZ {aY:List Nat} {c:cF} {Q:cx} (Inv:Nat->Env->aF->Prop) {n:Nat} (k:Inv n (dd aY e) H)
  (round:∀n e H,Inv n e H->WP P N c (lh (fun h H'=>∃m,m < n/\Inv m (dd aY h) H') Q) e H):CM P N aY c Q e H :=
 fun y=>WU Inv k fun n e H x=>WP.aw y (round n e H x)
def iZ (rs:List jZ) (Post:AV->aF->Prop):cx:=fun x e' H'=>(x = .normal\/x = .ret)/\∃vs,ng e' H' rs=ak vs/\Post (Ac vs) H'
def L5 {f:FuncId} {j:cF} {K:List jZ} (J:HG P f N j K) {args:List AV} (V:ae args<=N) {Post:AV->aF->Prop}
  (h:AW P N j (iZ K Post) (nI args) H):cR P f args H Post:=by
 have ⟨z,body,m,B,o,C,D,E⟩:=J.ok;refine ⟨⟨z,m,B,by simp[o]⟩,fun I β w x s q=>?_⟩;refine calls_of_wp m o ?_;have p:=q.1;have O:cE [] N I β (nI args) H {tmps:=x.toArray++Array.replicate (z.ntmps - x.toArray.size) undef,defers:=[]} w:=by
  refine ⟨s,by simp[C];omega,fun t=>?_,rfl⟩;rw[Gv];rcases aij t (ae args) with a | a
  .have c:args.getD t .ba=args[t]:=by simp[af,a]
   have l:(x.toArray++Array.replicate (z.ntmps - x.toArray.size) undef).getD t undef=x[t]'(by omega):=by rw[aib,akv (by simp;omega)];simp[show t < ae x by omega]
   rw[c,l];exact q.2 t _ _ (by simp[a]) (by simp[show t < ae x by omega])
  .have c:args.getD t .ba = .ba:=by simp[af,a]
   rw[c];exact .ba
 refine wp_mono ((wpIn_wide (n:=0)).1 (h body D an [] I β _ w O)) fun U A w' L=>?_;have ⟨W,T,l,X,S,g,M,R,y,k⟩:=L;have fin:bodyPost P z (fun e w'=>∃rv r H' b i,e = .returned rv/\Ext I β H w b i H' w'/\Sim b i H' w'/\Rel b i r rv/\Post r H') .normal A w':=by have ⟨rv,F,G⟩:=sP g E y;exact ⟨g.sH,rv,F,rv,_,X,W,T,rfl,S,g.bG,G,k⟩
 rcases M with rfl | rfl
 .exact fin
 .exact fin
def Ur {f:FuncId} {k:cF} {x:List jZ} (z:HG P f N k x) {args:List AV} (w:ae args<=N) (y:dR k=aq) {Post:AV->aF->Prop}
  (h:WP P N k (iZ x Post) (nI args) H):cR P f args H Post:=L5 z w (WP.aw y h)
def jh (rs:List jZ) (n:Nat) (r:AV) (H2:aF):cx:=fun x e' H'=>(x = .normal\/x = .ret)/\∃vs,ng e' H' rs=ak vs/\Fin n (Ac vs) H' r H2
def W3 (z:HG P f N k a) (w:ae args<=N) (y:dR k=aq)
  (h:WP P N k (jh a (ae H) r x) (nI args) H):bR P f args H r x:=MM z w (WP.aw y h)
end
end Go.Fx
