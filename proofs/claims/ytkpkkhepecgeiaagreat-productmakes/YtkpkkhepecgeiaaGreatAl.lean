/- ProductMakes returns true whatever its arguments are: part 12 of 14. No condition. -/
import Derived.Test.YtkpkkhepecgeiaaGreatAc
import Derived.Test.YtkpkkhepecgeiaaGreatAi
import Derived.RangeFuncLeaves
import Derived.Test.YtkpkkhepecgeiaaGreatAd
import Derived.Test.YtkpkkhepecgeiaaGreatAk
import Derived.Test.YtkpkkhepecgeiaaGreatAg
import Derived.Test.YtkpkkhepecgeiaaGreatAh
set_option linter.all false
set_option maxRecDepth 8000
set_option maxHeartbeats 9000000
set_option autoImplicit true
set_option relaxedAutoImplicit true
namespace Go.Fx
open Go.Proofs.Tryz
open List renaming length->ae,getD->af,replicate->aA,eraseIdx->aB,range->aC
open Inhabited renaming default->ah
open Option renaming some->ak,none->an
open Bool renaming true->aq,false->ar
open Go.IntKind renaming wrap->au
open Int renaming natAbs->ay,toNat->az
section
variable {P:Program} {dl:List Deferred} {fo:Option Nat} {N:Nat} {I:Imm} {β:Bet} {e:Env} {H H':aF} {a:Act} {w:World} {o:Oper} {v:AV}
def Ip:∀n,k < n->p k=aq->(∀j,j < n->p j=aq->j=k)->(aC n).filter p=[k]:=by
 intro n
 induction n with
 | zero=>intro h;omega
 | succ n f =>
  intro c z b;rw[ajK,al0];by_cases h:k=n
  .subst h;have:(aC k).filter p=[]:=by rw[alF];intro j y x;have:=b j (cn (ajv.1 y)) x;have:=ajv.1 y;omega
   rw[this];simp[z]
  .grind
def K4 {ops:Array Oper} (y:eZ 0 (ops.toList.map bH)=aq) {i:Nat} {x:Oper} (c:ops[i]?=ak x):∀j,j∈bH x->j < i:=by
 have gen:∀(l:List (List Nat)) (k:Nat),eZ k l=aq->∀(m:Nat) z,l[m]?=ak z->∀j,j∈z->j < k+m:=by
  intro l
  induction l with
  | nil=>intro k _ m z h;simp at h
  | cons x r g =>
   intro k f m z h j b;simp only[eZ,ah2] at f;cases m with
   | zero=>simp at h;subst h;have:=ah4.1 f.1 j b;simpa using this
   | succ m=>have:=g (k+1) f.2 m z (bu h) j b;omega
 intro j b;have:=gen _ 0 y i (bH x) (by simp[c]) j b;omega
def Q3 (c:eZ 0 (ops.toList.map bH)=aq) (p:∀j,q<=j->j < ops.size->∀i,i < j->k9 (kF (ops.toList.map bH) []) i j=aq) :
  ∀(m fuel t:Nat) (y:Array Bool) (k:Nat),q<=k->k+m=ops.size->y.size=ops.size->(∀j,j < k->y.getD j ar=aq)->(∀j,k<=j->y.getD j ar=ar)->m<=fuel ->
   Region.linearise.go .any ops fuel t y []=List.range' k m:=by
 intro m
 induction m with
 | zero =>
  intro fuel t y k hq U C s E _;cases fuel with
  | zero=>simp[Region.linearise.go]
  | succ fuel =>
   simp only[Region.linearise.go];have K:((aC ops.size).filter fun i => !y.getD i aq&&((ops[i]?).map (·.after.all fun e => !Region.binds .any e || y.getD e.on ar)).getD ar)=[]:=by rw[alF];intro j n;have T:j < ops.size:=bu n;have:=s j aD;simp only[aib,show j < y.size by omega,aiN,ai9] at this ⊢;simp[this]
   rw[K];simp
 | succ m ih =>
  intro fuel t y k hq U C s E hf;obtain ⟨fuel,rfl⟩:∃f,fuel=f+1:=⟨fuel - 1,aD⟩;simp only[Region.linearise.go];have X:∀i,i < ops.size->y.getD i aq=y.getD i ar:=by grind
  have b:∀i (h:i < ops.size),ops[i]?=ak ops[i]:=fun i h=>aiN h;have B:((aC ops.size).filter fun i => !y.getD i aq&&((ops[i]?).map (·.after.all fun e => !Region.binds .any e || y.getD e.on ar)).getD ar)=[k]:=by
   refine Ip _ aD ?_ ?_
   .rw[X k (by omega),E k (ahZ _),b k (by omega)];simp only[aja,ajg,ai3,ai9];refine aj8.2 fun r F=>?_;cases R:Region.binds .any r with
    | false=>rfl
    | true =>
     have V:r.on∈bH ops[k]:=by simp only[bH,aiw,ajb];exact ⟨r,⟨bu F,R⟩,rfl⟩
     rw[s _ (K4 c (b k (by omega)) _ V)];rfl
   .intro j n J;simp only[ah2,ajJ] at J;have ⟨g,z⟩:=J;rw[X j n] at g;rw[b j n] at z;simp only[ai3,ai9] at z;rcases aj0 j k with h | h | h
    .rw[s j h] at g;simp at g
    .exact h
    .exfalso;have G:∀i,i∈bH ops[j]->y.getD i ar=aq:=by intro i W;simp only[bH,aiw,ajb] at W;obtain ⟨r,⟨M,O⟩,rfl⟩:=W;have:=aj8.1 z r (bu M);simpa[O] using this
     have l:Down (ops.toList.map bH) (fun i=>decide (i < k) || i==j):=by
      intro i L W D x hx;have A:i < ops.size:=by grind
      have S:L=bH ops[i]:=by simp[b i A] at W;exact W.symm
      subst S;simp only[akh,aiU,ajt] at D ⊢;rcases D with D | D
      .exact .inl (cn (K4 c (b i A) x hx))
      .grind
     have:=gZ (fun i=>decide (i < k) || i==j) l h (p j aD n k h) aO;simp at this;omega
  rw[B];have:∀x:Nat,([k]:List Nat)[x % ae [k]]?=ak k:=fun x=>by simp[Nat.mod_one]
  rw[this];simp only;rw[mc];rw[ih fuel _ (y.setIfInBounds k aq) (k+1) (by omega) (by omega) (by simpa using C) ?_ ?_ (by omega)]
  .simp[alN]
  .intro j n;simp only[aib,aiH];by_cases h:k=j
   .subst h;simp[show k < y.size by omega]
   .rw[ah0 h];have:=s j aD;simpa[aib] using this
  .intro j n;simp only[aib,aiH];rw[ah0 (by omega)];have:=E j aD;simpa[aib] using this
def Va {ops:Array Oper} {z b:List bU} {md:List Nat} (a4:b≠[]) (hc:fM P N ops ops.toList (z++b)=aq) (a2:eZ 0 (ops.toList.map bH)=aq) (J:jV ((ops.toList.map bH).take (ae z)) md z=aq) (M:∀j,ae z<=j->j < ops.size->∀i,i < j->k9 (kF (ops.toList.map bH) []) i j=aq) {E:Nat->Env} {G:Nat->aF} {V:Nat->AV} (ht:sF P md z E G V) {Q:Exit->Act->World->Prop} :
  ∀(fuel t:Nat) (y:Array Bool) (e:Env) (H:aF) (I:Imm) (β:Bet) (a:Act) (w:World),y.size=ops.size->(∀j,ae z<=j->y.getD j ar=ar)->ae ((aC ops.size).filter fun i => !y.getD i aq)<=fuel->Down (ops.toList.map bH) (fun i=>y.getD i ar) ->
   (∀s,lk s e=gW z V (E 0) (fun i=>y.getD i ar) (ae z) s)->H=jy md G (fun i=>y.getD i ar) (ae z)->cE dl N I β e H a w ->
   (∀a' w',Out dl N I β H w (E (ae z)) (G (ae z)) a' w'->wpOpsIn (FR fo) 0 P ops Q (List.range' (ae z) (ae b)) a' w')->wpOpsIn (FR fo) 0 P ops Q (Region.linearise.go .any ops fuel t y []) a w:=by
 have ⟨b7,b5⟩:=fR hc;have a9:ops.size=ae z+ae b:=bu b7;have d5:=akb.2 a4;have c:∀S:Nat->Bool,Down (ops.toList.map bH) S->Down ((ops.toList.map bH).take (ae z)) S:=by
  intro S hS i es hi;rw[aj7] at hi;split at hi
  .exact hS i es hi
  .simp at hi
 intro fuel
 induction fuel with
 | zero =>
  intro t y e H I β a w b2 O b3 f he hH s hq;exfalso;have:ae z∈(aC ops.size).filter fun i => !y.getD i aq:=by
   simp only[ajb,ajv];refine ⟨aD,?_⟩;have:y.getD (ae z) aq=y.getD (ae z) ar:=by simp[aib,show ae z < y.size by omega]
   rw[this,O _ (ahZ _)];rfl
  have:=alE this;omega
 | succ fuel ih =>
  intro t y e H I β a w b2 O b3 f he hH s hq;have a1:∀i,i < ops.size->y.getD i aq=y.getD i ar:=by intro i hi;simp[aib,show i < y.size by omega]
  simp only[Region.linearise.go];split
  .rename_i i b0;rw[mc];have a5:=aiX b0;simp only[ajb,ajv,ah2,ajJ] at a5;have ⟨K,A,C⟩:=a5;have L:=aiN K;rw[a1 i K] at A;rw[L] at C;simp only[ai3,ai9] at C;have a7:∀j,j∈bH ops[i]->y.getD j ar=aq:=by intro j X;simp only[bH,aiw,ajb] at X;obtain ⟨ed,⟨h1,h2⟩,rfl⟩:=X;have:=aj8.1 C ed (bu h1);simpa[h2] using this
   have c1:(ops.toList.map bH)[i]?=ak (bH ops[i]):=by simp[L]
   have U:∀j,(y.setIfInBounds i aq).getD j ar=(y.getD j ar || j==i):=by
    intro j;simp only[aib,aiH];by_cases h:i=j
    .subst h;simp[show i < y.size by omega]
    .rw[ah0 h];simp[show ¬j=i from fun h'=>h h'.symm]
   have a0:=funext U;have n:Down (ops.toList.map bH) (fun j=>y.getD j ar || j==i):=by
    intro j es X c0 k hk;simp only[akh,ajt] at c0 ⊢;rcases c0 with h | h
    .exact .inl (f j es X h k hk)
    .subst h;rw[c1] at X;cases X;exact .inl (a7 k hk)
   rcases aij i (ae z) with F | F
   case inr =>
    have c5:i=ae z:=by
     rcases aij (ae z) i with h | h
     .exfalso;have:=gZ (fun j=>y.getD j ar || j==i) n h (M i F K (ae z) h) aO;simp only[O _ (ahZ _),ann,ajt] at this;omega
     .omega
    subst c5;have W:∀j,j < ae z->y.getD j ar=aq:=by intro j X;have:=gZ (fun j=>y.getD j ar || j==ae z) n X (M (ae z) (ahZ _) K j X) aO;simpa[show ¬j=ae z by omega] using this
    have a6:ae b - 1<=fuel:=by
     have h3:ae ((aC ops.size).filter fun i => !y.getD i aq)=ae b:=by
      have h4:((aC ops.size).filter fun i => !y.getD i aq)=List.range' (ae z) (ae b):=by
       have h5:aC ops.size=aC (ae z)++List.range' (ae z) (ae b):=by rw[amk,amk,a9,<-List.range'_append_1];simp
       rw[h5,al0];have h6:(aC (ae z)).filter (fun i => !y.getD i aq)=[]:=by rw[alF];intro j X;have a8:=ajv.1 X;rw[a1 j (by omega),W j a8];simp
       have h7:(List.range' (ae z) (ae b)).filter (fun i => !y.getD i aq)=List.range' (ae z) (ae b):=by rw[List.filter_eq_self];intro j X;have a8:=List.mem_range'_1.1 X;rw[a1 j (by omega),O j a8.1];rfl
       rw[h6,h7];rfl
      rw[h4];simp
     omega
    have b9:Region.linearise.go .any ops fuel (t / ae ((aC ops.size).filter fun i => !y.getD i aq&&((ops[i]?).map (·.after.all fun e => !Region.binds .any e || y.getD e.on ar)).getD ar)) (y.setIfInBounds (ae z) aq) []=List.range' (ae z+1) (ae b - 1) :=
     Q3 (q:=ae z) a2 M _ _ _ _ _ aD aD (bu b2) (fun j X=>by
      rw[U];by_cases h:j=ae z
      .simp[h]
      .rw[W j (by omega)];rfl) (fun j X=>by rw[U,O j (by omega)];simp;omega) a6;rw[b9];rw[show ([ae z].reverse++List.range' (ae z+1) (ae b - 1))=List.range' (ae z) (ae b) by obtain ⟨m,hm⟩:∃m,ae b=m+1:=⟨ae b - 1,aD⟩;rw[hm,alN];simp];refine hq a w ⟨I,β,?_,?_⟩
    .rw[hH,qD ht W _ (ahZ _)];exact .refl _ _ _ _
    .refine ⟨?_,s.size,fun t=>?_,s.sH⟩
     .have:=s.bG;rw[hH,qD ht W _ (ahZ _)] at this;exact this
     .have:=s.env t;rw[he,GP ht W t _ (ahZ _)] at this;exact this
   have B:=ah6 F;have b6:(z++b)[i]?=ak z[i]:=by rw[aic F];exact B
   have a3:=ht.step i _ B;have T:∀l:List Nat,(∀s,s∈l->∀(j:Nat) x,z[j]?=ak x->j≠i->x.dst=ak s->kr x z[i]=aq)->ef l (E i) e:=by intro l hl s hs;have:=Of J ht (c _ f) B A (c _ n) (t:=s) (fun j x X a4 D=>by have:=(m8 J X B a4).1 (hl s hs j x X a4 D);rw[oJ] at this;exact this) (ae z) (ahZ _);rw[he,this,akU (by omega)]
   have h1:ef z[i].op.dP (E i) e:=T _ fun s hs j x _ _ D=>by simp[kr,D,hs]
   have h2:ef (uD z[i].g) (E i) e:=T _ fun s hs j x _ _ D=>by simp[kr,D,hs]
   have c3:jH P N ops ops[i] z[i]=aq:=b5 i _ _ (by simp[L]) b6;have c9:(z[i].op.dV=aq->iw md i=aq):=by intro hw;simp only[jV,ah2] at J;have h1:=ah4.1 J.2 i (bu F);rw[ah2,B] at h1;have:=h1.1;simpa[hw] using this
   obtain ⟨H1,c8,c2⟩:∃H1,ku P z[i] e H (V i) H1/\H1=jy md G (fun j=>y.getD j ar || j==i) (ae z):=by
    by_cases b1:iw md i=aq\/z[i].op.reads=aq
    .have hh:=Kp J ht (c _ f) B A (c _ n) b1 (ae z) (ahZ _);rw[akU (by omega)] at hh;refine ⟨G (i+1),?_,?_⟩
     .have:=a3.Gh h1 h2;rw[hH,hh];exact this
     .rw[vU J (c _ f) B A (ae z) (ahZ _)];by_cases hm:iw md i=aq
      .rw[ah1 ⟨F,hm⟩]
      .rw[ah0 (fun h=>hm h.2),hh,ht.heap i F (by simpa using hm)]
    .have hm:=fun h=>b1 (.inl h);have hr:z[i].op.reads=ar:=bu (fun h=>b1 (.inr h));have d0:z[i].op.dV=ar:=by
      cases d1:z[i].op.dV with
      | false=>rfl
      | true=>exact absurd (c9 d1) hm
     refine ⟨H,(a3.Gh h1 h2).Kd hr d0 H,?_⟩;rw[vU J (c _ f) B A (ae z) (ahZ _),ah0 (fun h=>hm h.2),hH]
   refine Eg L c3 s c8 fun a' I' d7 w' x' s'=>?_;refine ih (t / _) (y.setIfInBounds i aq) (fq z[i].dst (V i) e) H1 I' d7 a' w' (bu b2) (fun j X=>by rw[U,O j X];simp;omega) ?_ (by rw[a0];exact n) ?_ (by rw[a0];exact c2) s' (fun d4 d6 ho=>hq _ _ (ho.step x'))
   .have:=filter_lt (p:=fun j => !y.getD j aq) (q:=fun j => !(y.setIfInBounds i aq).getD j aq) (i:=i) (l:=aC ops.size) (fun x hx=>by
     simp only[aib,aiH] at hx ⊢;by_cases h:i=x
     .subst h;simp[show i < y.size by omega] at hx
     .rw[ah0 h] at hx;exact hx) (by rw[a1 i K,A];rfl) (by simp[aib,show i < y.size by omega]) (bu K);omega
   .intro s';rw[a0,KJ J (c _ f) B A s' (ae z) (ahZ _),sM];by_cases hd:z[i].dst=ak s'
    .rw[ah1 hd,ah1 ⟨F,hd⟩]
    .rw[ah0 hd,ah0 (fun h=>hd h.2),he]
  .rename_i R;have b4:((aC ops.size).filter fun i => !y.getD i aq&&((ops[i]?).map (·.after.all fun e => !Region.binds .any e || y.getD e.on ar)).getD ar)=[]:=by
    cases c7:((aC ops.size).filter fun i => !y.getD i aq&&((ops[i]?).map (·.after.all fun e => !Region.binds .any e || y.getD e.on ar)).getD ar) with
    | nil=>rfl
    | cons x r =>
     rw[c7] at R;have:t % ae (x::r) < ae (x::r):=alh _ aO;rw[ah6 this] at R;simp at R
   have W:∀i,i < ops.size->y.getD i ar=aq:=by
    intro i
    induction i using Nat.strongRecOn with
    | _ i d3 =>
     intro hi;cases hl:y.getD i ar with
     | true=>rfl
     | false =>
      exfalso;have K:=hi;have L:=aiN K;have b8:∀j,j∈bH ops[i]->j < i:=by
       have gen:∀(l:List (List Nat)) (k:Nat),eZ k l=aq->∀(m:Nat) es,l[m]?=ak es->∀j,j∈es->j < k+m:=by
        intro l
        induction l with
        | nil=>intro k _ m es h;simp at h
        | cons x r d2 =>
         intro k hk m es h j X;simp only[eZ,ah2] at hk;cases m with
         | zero=>simp at h;subst h;have:=ah4.1 hk.1 j X;simpa using this
         | succ m=>have:=d2 (k+1) hk.2 m es (bu h) j X;omega
       intro j X;have:=gen _ 0 a2 i (bH ops[i]) (by simp[L]) j X;omega
      have:i∈((aC ops.size).filter fun i => !y.getD i aq&&((ops[i]?).map (·.after.all fun e => !Region.binds .any e || y.getD e.on ar)).getD ar):=by
       simp only[ajb,ajv,ah2,ajJ];refine ⟨K,by rw[a1 i hi];exact hl,?_⟩;rw[L];simp only[ai3,ai9];refine aj8.2 fun ed c4=>?_;cases hb:Region.binds .any ed with
       | false=>rfl
       | true =>
        have hm:ed.on∈bH ops[i]:=by simp only[bH,aiw,ajb];exact ⟨ed,⟨bu c4,hb⟩,rfl⟩
        have c6:=b8 _ hm;simp[d3 _ c6 aD]
      rw[b4] at this;simp at this
   have:=W (ae z) aD;rw[O _ (ahZ _)] at this;simp at this
end
section
variable {P:Program} {N:Nat} {σ:Type}
structure Ctx (σ:Type) where
 I:Imm
 β:Bet
 H:aF
 w:World
 dl:σ->List Deferred
 pins:σ->List (Nat × Obj)
 jr:∀i v B,β i v=some B->i < H.length
def IC (l:List (Nat × Obj)) (β:Bet) (H:aF) (w:World):Prop:=∀b o,(b,o)∈l->w.heap[b]?=ak o/\¬Own β H b
def IC.ext (h:IC l β H w) (x:Ext I β H w j i H' w'):IC l i H' w':=fun b o f=>by
 have ⟨y,z⟩:=h b o f;have k:=(aj4.1 y).1;refine ⟨(x.frame b k z).1 ▸ y,fun g=>?_⟩;rcases x.own b g with c | c
 .exact z c
 .omega
structure JS (C:Ctx σ) (N:Nat) (s:σ) (I:Imm) (β:Bet) (e:Env) (H:aF) (a:Act) (w:World):Prop where
 ext:Ext C.I C.β C.H C.w I β H w
 bG:cE (C.dl s) N I β e H a w
 Be:IC (C.pins s) β H w
def Mr (C:Ctx σ) (N:Nat) (Q:σ->cx):Exit->Act->World->Prop:=fun x a w=>∃s I β e H,JS C N s I β e H a w/\Q s x e H
def AJ (P:Program) (C:Ctx σ) (N:Nat) (c:cF) (Q:σ->cx) (s:σ) (e:Env) (H:aF):Prop :=
 ∀k,fk P N k c=aq->∀I β a w,JS C N s I β e H a w->k.wpIn (FR an) 0 P (Mr C N Q) a w
variable {C:Ctx σ} {Q:σ->cx} {s:σ} {e:Env} {H:aF}
def AJ.mono (h:AJ P C N c Q s e H) (l:∀s x e H,Q s x e H->f s x e H):AJ P C N c f s e H:=by intro k i I β a w j;refine wpIn_mono (h k i I β a w j) fun x r t m=>?_;have ⟨o,z,p,g,y,n,q⟩:=m;exact ⟨o,z,p,g,y,n,l _ _ _ _ q⟩
def AJ.wO (h:AW P N c (Q s) e H):AJ P C N c Q s e H:=by intro k i I β a w j;refine wpIn_mono (h k i an _ I β a w j.bG) fun x o p l=>?_;have ⟨f,n,g,z,y,m,q⟩:=l;exact ⟨s,f,n,g,z,⟨j.ext.trans y,m,j.Be.ext y⟩,q⟩
def AT (next:σ->Env->aF->Prop) (Q:σ->cx):σ->cx:=fun s=>lh (next s) (Q s)
def BP (id:Nat) (Q:σ->cx):σ->cx:=fun s=>qi id (Q s)
def ZP:AT n Q s .normal e H=n s e H:=(rfl)
def ab2:AT n Q s .ret e H=Q s .ret e H:=(rfl)
def abd:AT n Q s (.exit i) e H=Q s (.exit i) e H:=(rfl)
def X8:BP i Q s .normal e H=Q s .normal e H:=(rfl)
def aaq:BP i Q s .ret e H=Q s .ret e H:=(rfl)
def aag:BP i Q s (.exit j) e H=if j=i then Q s .normal e H else Q s (.exit j) e H:=(rfl)
attribute [go_sem] ZP ab2 abd X8 aaq aag
def Yn (h:AJ P C N x (AT (AJ P C N y Q) Q) s e H):AJ P C N (.seq x y) Q s e H:=by
 intro k z I β a w j;cases k<;>simp only[fk,ah5,ah2] at z;rename_i p r;refine wpIn_seq (wpIn_mono (h p z.1 I β a w j) fun n l v o=>?_);have ⟨t,c,g,m,i,f,q⟩:=o;cases n with
 | normal=>exact q r z.2 c g l v f
 | _=>exact ⟨t,c,g,m,i,f,q⟩
def WK (g:c.ev e = .v0 b) (z:b=aq->AJ P C N x Q s e H) (f:b=ar->AJ P C N y Q s e H):AJ P C N (.cond c x y) Q s e H:=by
 intro k h I β a w j;cases k<;>simp only[fk,ah5,ah2] at h;have ⟨⟨i,l⟩,m⟩:=h;have r:=j.bG.x i;rw[g] at r;have r:=r.eG.1;cases b with
 | true=>exact wpIn_cond_true r (z rfl _ l I β a w j)
 | false=>exact wpIn_cond_false r (f rfl _ m I β a w j)
def Uf {id:Nat} {x:cF} (h:AJ P C N x (BP id Q) s e H):AJ P C N (.block id x) Q s e H:=by
 intro k o I β a w j;cases k<;>simp only[fk,ah5,ah2,ajt] at o;obtain ⟨rfl,t⟩:=o;refine wpIn_block (wpIn_mono (h _ t I β a w j) fun p v K r=>?_);have ⟨c,g,n,z,y,m,q⟩:=r;cases p with
 | exit i =>
  have f:if i=_ then Q c .normal z y else Q c (.exit i) z y:=q;simp only[Exit.inBlock];split
  .rename_i l;rw[ah1 l] at f;exact ⟨c,g,n,z,y,m,f⟩
  .rename_i l;rw[ah0 l] at f;exact ⟨c,g,n,z,y,m,f⟩
 | _=>exact ⟨c,g,n,z,y,m,q⟩
def JS.aY (j:JS C N s I β e H a w) (aY:List Nat):JS C N s I β (dd aY e) H a w:=⟨j.ext,j.bG.aY aY,j.Be⟩
def Ql (aY:List Nat) (Inv:Nat->σ->Env->aF->Prop) (n:Nat):σ->Env->aF->Prop:=fun s e H=>∃m,m < n/\Inv m s (dd aY e) H
def WL (Inv:Nat->σ->Env->aF->Prop) (M:Inv n s (dd aY e) H)
  (round:∀n s e H,Inv n s e H->AJ P C N c (AT (Ql aY Inv n) Q) s e H):AJ P C N (.loop aY c) Q s e H:=by
 intro k L I β a w j;cases k<;>simp only[fk,ah5] at L;rename_i k;intro b J X G B F;have key:∀n s e H,Inv n s e H->∀I β a w,JS C N s I β e H a w->∃o g w',Mr C N Q o g w'/\ArrivesIn (Machine.fenced P (FR an)) P (lone (b.atR a (.code k :: .inLoop k::J)) X w) b J X o g w':=by
  intro n
  induction n using Nat.strongRecOn with
  | _ n T =>
   intro s e H O I β a w j;have ⟨o,i,t,S,h⟩:=round n s e H O k L I β a w j b (.inLoop k::J) X G B F;have ⟨r,f,v,K,z,p,q⟩:=S;cases o with
   | normal =>
    have ⟨m,D,A⟩:=q;have ⟨W,g,w',E,y⟩:=T m D r _ z A f v i t (p.aY aY);exact ⟨W,g,w',E,.of_steps (StepsIn.trans h (.one (fenced_calm B F rfl) stepR_inLoop)) y⟩
   | exit id=>exact ⟨_,i,t,⟨r,f,v,K,z,p,q⟩,.pass (x := .inLoop k) rfl (fun _ _ => .inl aO) h⟩
   | goto l=>exact ⟨_,i,t,⟨r,f,v,K,z,p,q⟩,.pass (x := .inLoop k) rfl (fun _ _ => .inl aO) h⟩
   | ret=>exact ⟨_,i,t,⟨r,f,v,K,z,p,q⟩,.pass (x := .inLoop k) rfl (fun _ _ => .inl aO) h⟩
   | panic U=>exact ⟨_,i,t,⟨r,f,v,K,z,p,q⟩,.pass (x := .inLoop k) rfl (fun _ _ => .inl aO) h⟩
   | outgrown=>exact ⟨_,i,t,⟨r,f,v,K,z,p,q⟩,.pass (x := .inLoop k) rfl (fun _ _ => .inl aO) h⟩
 have ⟨o,g,w',E,h⟩:=key n s _ H M I β a w (j.aY aY);exact ⟨o,g,w',E,.of_steps (.one (fenced_calm B F rfl) stepR_loop) h⟩
def rQ (o:AOp) (e:Env):Option (Nat × List AV):=match o with
 | .oN x args=>match x.ev e with
  | .c (.func (.yield l) _ _)=>ak (l,args.map (·.ev e))
  | _=>an
 | _=>an
abbrev rZ (σ:Type):=σ->Nat->List AV->aF->(σ->AV->aF->Prop)->Prop
def RWJ (P:Program) (Y:rZ σ):List bU->σ->Env->aF->(σ->Env->aF->Prop)->Prop
 | [],s,e,H,Q=>Q s e H
 | o::r,s,e,H,Q=>match fi o.g e with
  | some aq=>match rQ o.op e with
   | some (l,args)=>Y s l args H fun s' v H'=>RWJ P Y r s' (fq o.dst v e) H' Q
   | none=>cS P .any o.op e H fun v H'=>RWJ P Y r s (fq o.dst v e) H' Q
  | some ar=>RWJ P Y r s (fq o.dst (.bM []) e) H Q
  | none=>False
def YOk (P:Program) (C:Ctx σ) (N:Nat) (Y:rZ σ):Prop:=∀(s:σ) (l:Nat) (args:List AV) (e:Env) (H:aF) (K:σ->AV->aF->Prop),Y s l args H K->(∀s',C.dl s'=C.dl s) /\
 ∀(I:Imm) (β:Bet) (a:Act) (w:World) (o:Oper) (next:Act->World->Prop) (Q:Exit->Act->World->Prop),JS C N s I β e H a w ->
  (∃(c:Call) (y:Operand),o.op = .call c/\c.callee = .value y/\a.eval y = .func (.yield l) #[] #[]/\cG I β args (c.args.toList.map a.eval)) ->
  (∀s' v H' I' β' rv w',Ext C.I C.β C.H C.w I' β' H' w'->I.le I'->β.le β'->Sim I' β' H' w'->Rel I' β' v rv->IC (C.pins s') β' H' w'->K s' v H'->next (a.put o.dst rv) w') ->
  o.wpIn (FR an) 0 P a w next Q
def Oy (h:jH P N ops o n=aq) (s:cE t N I β e H a w) (z:rQ n.op e=ak (l,args)) :
  ∃(c:Call) (y:Operand),o.op = .call c/\c.callee = .value y/\a.eval y = .func (.yield l) #[] #[]/\cG I β args (c.args.toList.map a.eval):=by
 have ⟨_,_,g⟩:=lB h;unfold rQ at z;split at z
 .rename_i x X j;split at z<;>simp at z;rename_i K v r q;obtain ⟨rfl,rfl⟩:=z;rw[j] at g;cases p:o.op<;>simp only[p,bV,ah5,ah2] at g;rename_i c;have ⟨k,f⟩:=g;have k:∃y,c.callee = .value y/\ea y x=aq:=by unfold Kh at k;split at k<;>simp_all
  have ⟨y,k,z⟩:=k;have r1:=s.x z;rw[q] at r1;have ⟨m,i⟩:=r1.eG;simp only[isAtom,ah2,Array.isEmpty_iff] at i;rw[i.1,i.2] at m;exact ⟨c,y,rfl,k,m,iR s.env f⟩
 .simp at z
def RWJ.wp {Y:rZ σ} (g:YOk P C N Y) {ops:Array Oper} {z:List bU} (W:fM P N ops ops.toList z=aq) {T:Exit->Act->World->Prop}:∀(r:List bU) (i:Nat),z.drop i=r->∀{s:σ} {e:Env} {H:aF} {I:Imm} {β:Bet} {a:Act} {w:World} {X:σ->Env->aF->Prop},
  RWJ P Y r s e H X->JS C N s I β e H a w->(∀s' U w' V H' E F,JS C N s' E F V H' U w'->X s' V H'->T .normal U w')->wpOpsIn (FR an) 0 P ops T (List.range' i (ae r)) a w
 | [],i,_,s,e,H,I,β,a,w,X,h,j,K=>by simp only[aiV,List.range'_zero,wpOpsIn];exact K s a w e H I β j h
 | ao::r,i,hd,s,e,H,I,β,a,w,X,h,j,K=>by
  have ⟨hl,hg⟩:=fR W;have hi:z[i]?=ak ao:=by have:=akS (fun l=>l[0]?) hd;simp at this;exact this
  have a1:=(aid.1 hi).1;have J:i < ops.size:=by simp at hl;omega
  have B:=aiN J;have c:=hg i ops[i] ao (by simp[B]) hi;have n:z.drop (i+1)=r:=by rw[<-ajo,hd];rfl
  have ⟨k,o,_⟩:=lB c;simp only[aiF,alN,wpOpsIn,B];unfold RWJ at h;split at h
  .rename_i O;rw[ah1 (fY c j.bG O)];split at h
   .rename_i l args S;have ⟨G,hY⟩:=g s l args e H _ h;refine hY I β a w ops[i] _ _ j (Oy c j.bG S) ?_;intro s' v H' E F rv w' x hI a0 s2 y D L;refine RWJ.wp g W r (i+1) n L ⟨x,?_,D⟩ K;rw[G s'];refine ⟨s2,?_,fun t=>?_,?_⟩
    .cases p:ops[i].dst<;>simp[Act.put,j.bG.size]
    .rw[sM,<-k];cases p:ops[i].dst with
     | none=>simp only[Act.put];rw[ah0 aO];exact (j.bG.env t).mono hI a0
     | some d =>
      have:=o d p;simp only[Act.put];by_cases h:d=t
      .subst h;rw[ah1 rfl];simp only[aib,ak0 (by rw[j.bG.size];exact this),ai9];exact y
      .rw[ah0 (by simp[h])];have e2:(a.tmps.setIfInBounds d rv).getD t undef=a.tmps.getD t undef:=by simp only[aib,aiH,ah0 h]
       rw[e2];exact (j.bG.env t).mono hI a0
    .cases p:ops[i].dst<;>simp[Act.put,j.bG.sH]
   .unfold cS at h;split at h
    .rename_i f args m;have h:∃Post,cR P f args H Post/\∀v H',Post v H'->RWJ P Y r s (fq ao.dst v e) H' X:=by
      have hm:Ib .any ao.op = .any:=by cases ao.op<;>rfl
      rw[hm] at h;exact h
     have ⟨Post,A,L⟩:=h;refine mN c j.bG m A.1 (fun vs hr=>A.2 I β w vs j.bG.bG hr) ?_;rintro en w' ⟨rv,v,H',E,F,rfl,q,s',y,hp⟩;exact ⟨rv,rfl,RWJ.wp g W r (i+1) n (L v H' hp) ⟨j.ext.trans q,k ▸ j.bG.put q s' o y,j.Be.ext q⟩ K⟩
    .rename_i m;split at h
     .rename_i v H1 M;refine om c j.bG M fun rv E F w' q s' y _=>?_;exact RWJ.wp g W r (i+1) n h ⟨j.ext.trans q,k ▸ j.bG.put q s' o y,j.Be.ext q⟩ K
     .exact h.elim
  .rename_i O;rw[ah0 (by rw[fY c j.bG O];simp)];rw[k];exact ⟨fun _ _=>trivial,RWJ.wp g W r (i+1) n h ⟨j.ext,j.bG.put (.refl _ _ _ _) j.bG.bG (fun t ht=>o t (by rw[k];exact ht)) GK,j.Be⟩ K⟩
  .exact h.elim
def WM {Y:rZ σ} (hY:YOk P C N Y) {aY:List Nat} {X:List (List Nat)} {ops z:List bU} (M:z≠[]) (hd:dR (.Ab aY X ops z)=aq)
  (h:RW P .aY ops e H fun W H'=>RWJ P Y z s W H' fun s' e2 H2=>Q s' .normal (dd aY e2) H2):AJ P C N (.Ab aY X ops z) Q s e H:=by
 intro k F I β a w j;have J:=F;cases k<;>try (simp only[fk,ah5] at J;done)
 rename_i id x dr;cases dr<;>simp only[fk,ah5,ah2] at F;have ⟨⟨D,c⟩,p⟩:=F;simp only[dR,ah2] at hd;have ⟨⟨r,O⟩,L⟩:=hd;have c:x.toList.map bH=X:=bu c;have ⟨os,W,H',a0,r1,r2,h0⟩:=RW.mF (md:=qI 0 ops) (i:=0) (fun j hj=>by simpa[iw] using hj) h;have ht:=rG r1 r2.all;have hl:x.size=ae ops+ae z:=by have:=(fR D).1;simpa using this
 have ⟨E,G,V,h1,h2,A,m,h5,h6,h7⟩:=ht.fn;have T:sF P (qI 0 ops) ops E G V:=⟨h5,h6,fun i hi hm=>h7 i hi (bu hm)⟩;have S:cE (C.dl s) N I β e H a {w with drawn:=w.drawn+1}:=by refine ⟨⟨fun b o v e=>j.bG.bG.fP b o v e,fun id ob h=>?_,j.bG.bG.inj,j.bG.bG.jr,j.bG.bG.ver⟩,j.bG.size,j.bG.env,j.bG.sH⟩;have ⟨B,g1,g2,g3⟩:=j.bG.bG.obj id ob h;exact ⟨B,g1,g2,g3.aY (.refl _) (.refl _) (fun _=>rfl) (fun _ _=>rfl)⟩
 have hx:Ext I β H w I β H {w with drawn:=w.drawn+1}:=⟨.refl _,.refl _,ahZ _,ahZ _,rfl,rfl,rfl,fun _ _ _=>⟨rfl,fun _=>rfl⟩,fun _ h => .inl h⟩;have l:∀j,ae ops<=j->j < x.size->∀i,i < j->k9 (kF X []) i j=aq:=fun q h1 h2 i hi=>by have A:=ah4.1 L (q - ae ops) bW;have m:=ah4.1 A i bW;rw[show ae ops+(q - ae ops)=q by omega] at m;exact m
 refine wpIn_region_draw fun t=>?_;have g:Region.schedule (P.follows .mixedOrders) x t=Region.linearise .any x t:=by unfold Region.schedule;rw[ah1 p]
 rw[g];unfold Region.linearise;have f:∀i,(Array.replicate x.size ar).getD i ar=ar:=by intro i;simp only[aib,akI];split<;>rfl
 refine Va M D (c ▸ r) (c ▸ O) (c ▸ l) T x.size t (Array.replicate x.size ar) e H I β a _ aO (fun j _=>f j) ?_ ?_ ?_ ?_ S fun a' w' K=>?_
 .exact aiJ (alg _ _) aO
 .intro i es _ n;have y:(Array.replicate x.size ar).getD i ar=aq:=n;rw[f] at y;simp at y
 .intro s';have:∀k,gW ops V (E 0) (fun i=>(Array.replicate x.size ar).getD i ar) k s'=lk s' (E 0):=by
   intro k
   induction k with
   | zero=>rfl
   | succ k U =>
    rw[gW,U,ah0];rintro ⟨n,_⟩;have y:=n;rw[f] at y;simp at y
  rw[this,h1]
 .have:∀k,jy (qI 0 ops) G (fun i=>(Array.replicate x.size ar).getD i ar) k=G 0:=by
   intro k
   induction k with
   | zero=>rfl
   | succ k U =>
    rw[jy,U,ah0];rintro ⟨n,_⟩;have y:=n;rw[f] at y;simp at y
  rw[this,h2]
 .have ⟨I2,a1,x2,s2⟩:=K;rw[A,m] at s2;rw[m] at x2;have j2:JS C N s I2 a1 W H' a' w':=⟨j.ext.trans (hx.trans x2),s2,(j.Be.ext hx).ext x2⟩;exact RWJ.wp hY D z (ae ops) aO h0 j2 fun s' a3 w3 e3 H3 I3 a2 j3 q3=>⟨s',I3,a2,_,H3,j3.aY aY,q3⟩
def aak (i:za (ae H) e H f z) (h:AJ P C N x Q s f z):AJ P C N (.wk x) Q s e H:=by intro k g I β a w j;have ⟨c,m,l,y⟩:=i _ _ _ _ _ _ j.bG;refine h k (by cases k<;>simpa only[fk] using g) c m a w ⟨y _ _ _ _ j.ext.len C.jr j.ext,l,j.Be.ext (y I β H w (ahZ _) j.bG.bG.jr (.refl _ _ _ _))⟩
abbrev CP (σ:Type):=σ->cF->(σ->cx)->Env->aF->Prop
def T7 (P:Program) (Y:rZ σ) (sfx:List bU) (aY:List Nat) (Q:σ->cx) (s:σ):Env->aF->Prop:=fun e H=>RWJ P Y sfx s e H fun s' e2 H2=>Q s' .normal (dd aY e2) H2
def Qn (P:Program) (C:Ctx σ) (N:Nat) (aY:List Nat) (c:cF) (Q:σ->cx) (s:σ) (e:Env) (H:aF):Prop:=dR c=aq->AJ P C N (.loop aY c) Q s e H
def WPJ (P:Program) (C:Ctx σ) (N:Nat) (Y:rZ σ) (R:CP σ):cF->(σ->cx)->σ->Env->aF->Prop
 | .seq a b,Q,s,e,H=>WPJ P C N Y R a (AT (WPJ P C N Y R b Q) Q) s e H
 | .cond c a b,Q,s,e,H=>wH (c.ev e) (WPJ P C N Y R a Q s e H) (WPJ P C N Y R b Q s e H)
 | .block id a,Q,s,e,H=>WPJ P C N Y R a (BP id Q) s e H
 | .loop aY a,Q,s,e,H=>Qn P C N aY a Q s e H
 | .wk a,Q,s,e,H=>∃e2 H2,za (ae H) e H e2 H2/\WPJ P C N Y R a Q s e2 H2
 | .Ab aY _ ops sfx,Q,s,e,H=>sfx≠[]/\RW P .aY ops e H (T7 P Y sfx aY Q s)
 | .Eu g p a b,Q,s,e,H=>R s (.Eu g p a b) Q e H
 | c,Q,s,e,H=>WP P N c (Q s) e H
def ROk (P:Program) (C:Ctx σ) (N:Nat) (R:CP σ):Prop:=∀s c Q e H,R s c Q e H->AJ P C N c Q s e H
def WPJ.aj {Y:rZ σ} {R:CP σ} (z:YOk P C N Y) (y:ROk P C N R):∀{c:cF} {Q:σ->cx} {s:σ} {e:Env} {H:aF},dR c=aq->WPJ P C N Y R c Q s e H->AJ P C N c Q s e H
 | .seq a b,Q,s,e,H,k,h=>by
  simp only[dR,ah2] at k;refine Yn ((WPJ.aj z y (c:=a) k.1 h).mono fun s x e H f=>?_);cases x with
  | normal=>exact WPJ.aj z y (c:=b) k.2 f
  | _=>exact f
 | .cond c a b,Q,s,e,H,k,h=>by simp only[dR,ah2] at k;have ⟨t,i,j,l⟩:=h;exact WK i (fun w=>WPJ.aj z y k.1 (j w)) (fun w=>WPJ.aj z y k.2 (l w))
 | .block id a,Q,s,e,H,k,h=>Uf (WPJ.aj z y (c:=a) k h)
 | .loop aY a,Q,s,e,H,k,h=>h k
 | .Ab aY r ops n,Q,s,e,H,k,h=>WM z h.1 k h.2
 | .Eu g p a b,Q,s,e,H,k,h=>y _ _ _ _ _ h
 | .skip,Q,s,e,H,k,h=>AJ.wO (WP.aw k h)
 | .xG _ _,Q,s,e,H,k,h=>AJ.wO (WP.aw k h)
 | .BL _ _ _,Q,s,e,H,k,h=>AJ.wO (WP.aw k h)
 | .xY _ _ _ _,Q,s,e,H,k,h=>AJ.wO (WP.aw k h)
 | .Aa _ _ _ _,Q,s,e,H,k,h=>AJ.wO (WP.aw k h)
 | .DM _ _ _ _,Q,s,e,H,k,h=>AJ.wO (WP.aw k h)
 | .bad,Q,s,e,H,k,h=>AJ.wO (WP.aw k h)
 | .exit _,Q,s,e,H,k,h=>AJ.wO (WP.aw k h)
 | .wk a,Q,s,e,H,k,h=>by have ⟨q,o,m,h⟩:=h;exact aak m (WPJ.aj z y (c:=a) k h)
 | .label _,Q,s,e,H,k,h=>AJ.wO (WP.aw k h)
 | .ret,Q,s,e,H,k,h=>AJ.wO (WP.aw k h)
section rules
variable {Y:rZ σ} {R:CP σ} {a b:cF}
def ER (P:Program) (C:Ctx σ) (N:Nat) (Y:rZ σ) (R:CP σ) (v:AV) (a b:cF) (Q:σ->cx) (s:σ) (e:Env) (H:aF):Prop:=wH v (WPJ P C N Y R a Q s e H) (WPJ P C N Y R b Q s e H)
def aeR:WPJ P C N Y R (.seq a b) Q s e H=WPJ P C N Y R a (AT (WPJ P C N Y R b Q) Q) s e H:=(rfl)
def adq:WPJ P C N Y R (.cond c a b) Q s e H=ER P C N Y R (c.ev e) a b Q s e H:=(rfl)
def ab6 {id:Nat}:WPJ P C N Y R (.block id a) Q s e H=WPJ P C N Y R a (BP id Q) s e H:=(rfl)
def ads:WPJ P C N Y R (.loop aY a) Q s e H=Qn P C N aY a Q s e H:=(rfl)
def adu:WPJ P C N Y R (.Ab aY h ops (o::r)) Q s e H=RW P .aY ops e H (T7 P Y (o::r) aY Q s):=by show (o::r≠[]/\_)=_;simp
def aeQ:WPJ P C N Y R (.Eu g p a b) Q s e H=R s (.Eu g p a b) Q e H:=(rfl)
def adv:WPJ P C N Y R .skip Q s e H=Q s .normal e H:=(rfl)
def adr:WPJ P C N Y R (.exit i) Q s e H=Q s (.exit i) e H:=(rfl)
def aeP:WPJ P C N Y R .ret Q s e H=Q s .ret e H:=(rfl)
def aeO:WPJ P C N Y R (.xG aY ops) Q s e H=RW P .any ops e H (CO aY (Q s)):=(rfl)
def adt:WPJ P C N Y R (.BL aY h ops) Q s e H=RW P .aY ops e H (CO aY (Q s)):=(rfl)
attribute [go_sem] aeR adq ab6 ads adu aeQ adv adr aeP aeO adt
def V5:WPJ P C N Y R (.xY aY k h ops) Q s e H=WP P N (.xY aY k h ops) (Q s) e H:=(rfl)
def acm:ER P C N Y R (.v0 aq) a b Q s e H=WPJ P C N Y R a Q s e H:=by simp[ER,wH]
def ack:ER P C N Y R (.v0 ar) a b Q s e H=WPJ P C N Y R b Q s e H:=by simp[ER,wH]
def agS {aY:List Nat} {Inv:Nat->σ->Env->aF->Prop} {n:Nat}:Ql aY Inv n s e H=∃m,m < n/\Inv m s (dd aY e) H:=(rfl)
def ahS:T7 P Y h aY Q s e H=RWJ P Y h s e H fun s' x k=>Q s' .normal (dd aY x) k:=(rfl)
attribute [go_sem] acm ack agS ahS
end rules
def lQ {Y:rZ σ} {R:CP σ} (y:YOk P C N Y) (x:ROk P C N R) {aY:List Nat} {c:cF} (Inv:Nat->σ->Env->aF->Prop) {n:Nat} (h:Inv n s (dd aY e) H)
  (round:∀n s e H,Inv n s e H->WPJ P C N Y R c (AT (Ql aY Inv n) Q) s e H):Qn P C N aY c Q s e H :=
 fun z=>WL Inv h fun n s e H k=>WPJ.aj y x z (round n s e H k)
end
section
variable {P:Program} {N:Nat}
def Sim.putObj (s:Sim I β H w) (m:w.heap[l]?=ak x) (p:∀c E k,x ≠ .cells c E k):Sim I β H (w.putObj l o):=by
 have y:∀b c E k,w.heap[b]?=ak (.cells c E k)->b≠l:=fun b c E k h e=>by subst e;rw[m] at h;cases h;exact p _ _ _ rfl
 refine ⟨fun b q v j=>?_,fun r K h=>?_,s.inj,s.jr,s.ver⟩
 .have ⟨c,E,k,a,i⟩:=s.fP b q v j;exact ⟨c,E,k,by rw[World.putObj_heap_other (y _ _ _ _ a)];exact a,i⟩
 .have ⟨B,f,g,z⟩:=s.obj r K h;refine ⟨B,f,g,z.aY (.refl _) (.refl _) (fun n=>?_) (fun _ _=>rfl)⟩;unfold eL at z;rw[ah0 (by simp[n])] at z;have ⟨c,E,t,_⟩:=z;exact World.putObj_heap_other (y _ _ _ _ t)
def Sim.EU (s:Sim I β H w) (o:Obj):Sim I β H (w.alloc o):=by
 have z:∀b x,w.heap[b]?=ak x->(w.alloc o).heap[b]?=ak x:=fun b x h=>by have k:=(aj4.1 h).1;show (w.heap.push o)[b]?=_;rw[al7 k,<-h,aiN k]
 refine ⟨fun b q v l=>?_,fun n p h=>?_,s.inj,s.jr,s.ver⟩
 .have ⟨c,E,e,i,j⟩:=s.fP b q v l;exact ⟨c,E,e,z _ _ i,j⟩
 .have ⟨B,f,g,y⟩:=s.obj n p h;refine ⟨B,f,g,y.aY (.refl _) (.refl _) (fun m=>?_) (fun _ _=>rfl)⟩;unfold eL at y;rw[ah0 (by simp[m])] at y;have ⟨c,E,a,_⟩:=y;rw[z _ _ a,a]
def Ext.putObj (x:Ext I β H w y z H' w') (a:w.heap.size<=l):Ext I β H w y z H' (w'.putObj l o) :=
 ⟨x.fP,x.ue,x.len,by rw[World.putObj_size];exact x.size,x.os,x.tape,x.output,fun b h k=>⟨by rw[World.putObj_heap_other aD];exact (x.frame b h k).1,(x.frame b h k).2⟩,x.own⟩
def Ext.EU (x:Ext I β H w z c H' w') (o:Obj):Ext I β H w z c H' (w'.alloc o):=by
 have a:∀b,b < w'.heap.size->(w'.alloc o).heap[b]?=w'.heap[b]?:=fun b h=>by show (w'.heap.push o)[b]?=_;rw[al7 h,aiN h]
 exact ⟨x.fP,x.ue,x.len,by have:=x.size;rw[World.size_alloc];omega,x.os,x.tape,x.output,fun b k y=>⟨(a b (cn x.size)) ▸ (x.frame b k y).1,(x.frame b k y).2⟩,x.own⟩
def Own.Zh (s:Sim I β H w) (h:Own β H b):b < w.heap.size:=by have ⟨e,f,B,y,z,a,c⟩:=h;have ⟨g,k,i,x⟩:=s.obj e f y;rw[z] at k;cases k;rw[<-c];exact x.lt a
def My (K:Bool->aF->Prop):cx:=fun x _ H=>(x = .normal/\K aq H)\/(x = .ret/\K ar H)
def ab7 (A B:aF->Prop):Bool->cx:=fun s x _ H=>(x = .normal\/x = .ret)/\(s=aq->A H)/\(s=ar->B H)
def Yk (P:Program) (N:Nat) (p:Nat) (ab bd:cF) (g:AV) (e:Env) (H:aF) (A B:aF->Prop):Prop :=
 ∃gf caps N' ac,g = .fn gf [] caps/\HG P gf N' ac []/\ae caps+1<=N'/\p < N/\dR ab=aq/\dR bd=aq /\
  ∃Y:Nat->rZ Bool,(∀l s l' args H K,Y l s l' args H K->s=aq/\l'=l/\∃x,args=[x]/\WP P N ab (lh (WP P N bd (My fun b H'=>K b (.c (.bool b)) H')) (fun _ _ _=>False)) ((p,x)::e) H) /\
   ∀(C:Ctx Bool) (l:Nat),YOk P C N' (Y l)->AJ P C N' ac (ab7 A B) aq (nI (.c (.func (.yield l) #[] #[])::caps)) H
def C0 (I:Imm) (β:Bet) (H:aF) (w:World) (h:∀i v B,β i v=ak B->i < ae H) (rec:LoopState->Option Code->Loop):Ctx Bool :=
 ⟨I,β,H,w,fun _=>[],fun s=>[(w.heap.size+1,.loop (if s then rec .ready an else rec .done (ak .ret))),(w.heap.size,.deferred (ak []))],h⟩
def TO {I:Imm} {β:Bet} {e:Env} {H:aF} {g:Act} {w:World} (s0:cE [] N I β e H g w) {k z:Code} {ab R:cF} (a9:fk P N k ab=aq) (b0:fk P N z R=aq) (b1:dR ab=aq) (b2:dR R=aq) {p:Nat} (hp:p < N) {fnid:FuncId}
  {Y:rZ Bool} (hY:∀s l' args H K,Y s l' args H K->s=aq/\l'=w.heap.size+1/\∃x,args=[x]/\WP P N ab (lh (WP P N R (My fun b H'=>K b (.v0 b) H')) (fun _ _ _=>False)) ((p,x)::e) H) {N':Nat} :
  YOk P (C0 I β H w s0.bG.jr fun st pe=>{state:=st,pending:=pe,fn:=fnid,tmps:=g.tmps,params:=#[p],assign:=k,body:=z,defers:=w.heap.size}) N' Y:=by
 intro s l' args e1 H1 K hy;obtain ⟨rfl,rfl,x,rfl,hw⟩:=hY _ _ _ _ _ hy;refine ⟨fun _=>rfl,fun A M B J o next Q j ⟨c,y,ho,D,b3,a⟩ hk=>?_⟩;obtain ⟨b4,c8⟩:=j.Be (w.heap.size+1) _ (by simp[C0];rfl);obtain ⟨c6,c7⟩:=j.Be w.heap.size (.deferred (ak [])) (by simp[C0]);have X:Ext I β H w A M H1 J:=j.ext;unfold Oper.wpIn;refine ⟨fun _ _=>trivial,?_⟩;rw[Oper.semAt_eq _ _ _ (by intro c hc;rw[ho] at hc;cases hc)];obtain ⟨f,b7,b6⟩:∃f,c.args.toList.map B.eval=[f]/\Rel A M x f:=by
  obtain ⟨vs,G⟩:∃vs,c.args.toList.map B.eval=vs:=⟨_,rfl⟩;rw[G] at a
  match vs,a with
  | [f],h=>exact ⟨f,G,h.head⟩
  | [],h=>exact absurd h.1 aO
  | _::_::_,h=>exact absurd h.1 aO
 have F:(execOp B.eval o).run P J = .ok (.round (w.heap.size+1) fnid (g.tmps.setIfInBounds p f) k z) J:=by
  have T:c.args.map B.eval=#[f]:=by apply akP;simpa using b7
  have b8:=run_yield (P:=P) (args:=#[f]) b4 rfl;simp only[execOp,ho,resolve,D,Sem.run_bind];simp only[b3,Deferred.ofValue,Sem.run_pure,Result.andThen_ok,invoke,T];simpa using b8
 rw[F,Oper.uponIn_round];refine ⟨fun h=>by simp[FR,Fence.wide] at h,roundIn_of_wpIn trivial ?_⟩;have s2:cE [] N A M ((p,x)::e) H1 {tmps:=g.tmps.setIfInBounds p f,defers:=[]} J:=by
  refine ⟨j.bG.bG,by simp[s0.size],fun t=>?_,rfl⟩;show Rel A M (if p=t then x else lk t e) _;by_cases h:p=t
  .subst h;rw[ah1 rfl];simp only[aib,ak0 (by rw[s0.size];exact hp),ai9];exact b6
  .rw[ah0 h];have S:(g.tmps.setIfInBounds p f).getD t undef=g.tmps.getD t undef:=by simp only[aib,aiH,ah0 h]
   rw[S];exact (s0.env t).mono X.fP X.ue
 have a3:=(WP.aw b1 hw) k a9 (ak (w.heap.size+1)) [] A M _ J s2;refine wpIn_mono a3 ?_;rintro ex a2 w2 ⟨I2,c4,S,V,U,m,q⟩;cases ex with
 | normal =>
  have q:WP P N R (My fun b H'=>K b (.v0 b) H') S V:=q;have p2:=j.Be.ext U;obtain ⟨v,r⟩:=p2 (w.heap.size+1) _ (by simp[C0];rfl);obtain ⟨a6,n⟩:=p2 w.heap.size (.deferred (ak [])) (by simp[C0]);have b9:w.heap.size+1 < w2.heap.size:=(aj4.1 v).1;refine ⟨_,run_beginRound v rfl,?_⟩;generalize l:w2.putObj (w.heap.size+1) _=L;have E:L.heap[w.heap.size+1]?=ak (.loop {state := .busy,pending:=an,fn:=fnid,tmps:=g.tmps,params:=#[p],assign:=k,body:=z,defers:=w.heap.size}):=by rw[<-l];exact World.putObj_heap_same b9
  have a7:L.heap[w.heap.size]?=ak (.deferred (ak [])):=by rw[<-l,World.putObj_heap_other aD];exact a6
  have x3:Ext I β H w I2 c4 V L:=by rw[<-l];exact (X.trans U).putObj aD
  have s3:cE [] N I2 c4 S V a2 L:=⟨by rw[<-l];exact m.bG.putObj v (by intros;simp),m.size,m.env,m.sH⟩;have a5:=(WP.aw b2 q) z b0 (ak (w.heap.size+1)) [] I2 c4 a2 L s3;refine wpIn_mono a5 ?_;rintro ex a4 w4 ⟨I4,c5,e4,O,W,s4,q4⟩;have c0:=(aj4.1 E).1;have i:=(W.frame _ c0 r).1.trans E;have a8:=(W.frame _ aD n).1.trans a7;have c3:¬Own c5 O (w.heap.size+1):=fun h=>by rcases W.own _ h with h | h;exact r h;omega
  have c2:¬Own c5 O w.heap.size:=fun h=>by rcases W.own _ h with h | h;exact n h;omega
  have c1:=(aj4.1 i).1;have fin:∀(b:Bool) (ob:Obj),ob = .loop (if b then {state := .ready,pending:=an,fn:=fnid,tmps:=g.tmps,params:=#[p],assign:=k,body:=z,defers:=w.heap.size} else {state := .done,pending:=ak .ret,fn:=fnid,tmps:=g.tmps,params:=#[p],assign:=k,body:=z,defers:=w.heap.size}) ->
    K b (.v0 b) O->next (B.put o.dst (.bool b)) (w4.putObj (w.heap.size+1) ob):=by
   intro b ob b5 C;refine hk b (.v0 b) O I4 c5 (.bool b) _ ((x3.trans W).putObj aD) (U.fP.trans W.fP) (U.ue.trans W.ue) (s4.bG.putObj i (by intros;simp)) (.c rfl) ?_ C;intro b' o' T;simp only[C0,aiz,ak1,ajr,akD] at T;rcases T with ⟨rfl,rfl⟩ | ⟨rfl,rfl⟩
   .exact ⟨by rw[World.putObj_heap_same c1,b5],c3⟩
   .exact ⟨by rw[World.putObj_heap_other aD];exact a8,c2⟩
  rcases q4 with ⟨rfl,C⟩ | ⟨rfl,C⟩
  .refine ⟨.bool aq,_,run_endRound an i,fin aq _ rfl C⟩
  .refine ⟨.bool ar,_,run_endRound (ak .ret) i,fin ar _ rfl C⟩
 | _=>exact q.elim
def Dx (D:Nat):List Deferred:=[{target := .collected D,args:=#[]}]
def Bw (I:Imm) (β:Bet) (H:aF) (w:World) (h:∀i v B,β i v=ak B->i < ae H):Ctx (Option Nat) :=
 ⟨I,β,H,w,fun s=>match s with | none=>[] | some D=>Dx D,fun s=>match s with | none=>[] | some D=>(D,.deferred (ak []))::if w.heap.size<=D then [] else [(D,.deferred an)],h⟩
def RM (P:Program) (N:Nat):CP (Option Nat):=fun s c Q e H=>s=an/\match c with
 | .Eu g p ab bd=>∃A B:aF->Prop,Yk P N p ab bd (g.ev e) e H A B/\(∀D H',A H'->Q (ak D) .normal e H')/\(∀D H',B H'->Q (ak D) .ret e H')
 | _=>False
def Wy:ROk P (Bw S b9 R M h0) N (RM P N):=by
 intro s c Q e H J;obtain ⟨rfl,J⟩:=J;cases c<;>try exact J.elim
 rename_i g p ab bd;have ⟨A,B,⟨V,f,N',ac,hg,b3,c1,hp,b0,b1,Y,hY,a0⟩,a4,a5⟩:=J;intro k hk I β a w j;cases k<;>simp only[fk,ah5,ah2] at hk;rename_i go ps r K;have ⟨⟨⟨hx,n⟩,a7⟩,a8⟩:=hk;have n:ps=#[p]:=bu n;subst n;have rg:=j.bG.x hx;rw[hg] at rg;have ⟨vf,z,b2,rf,rc⟩:=rg.Cc;have b6:vf=[]:=by cases vf with | nil=>rfl | cons x y=>exact absurd rf.1 aO
 subst b6;have ⟨i,body,f1,f2,f3,f4,f5,f6⟩:=b3.ok;have a9:sZ P V:=⟨i,f1,f2,by simp[f3]⟩;have W:cE [] N I β e H a w:=j.bG;refine wpIn_rangeFunc (fun fnid _=>?_);obtain ⟨W1,l⟩:∃W1,(w.alloc (.deferred (ak []))).alloc (.loop {state := .ready,pending:=an,fn:=fnid,tmps:=a.tmps,params:=#[p],assign:=r,body:=K,defers:=w.heap.size})=W1:=⟨_,rfl⟩;refine ⟨w.heap.size+1,Dx w.heap.size,W1,{target := .fn (.func V) z.toArray,args:=#[.func (.yield (w.heap.size+1)) #[] #[]]},W1,V,#[.func (.yield (w.heap.size+1)) #[] #[]]++z.toArray,W1,?_,?_,fun _ _=>trivial,?_,fun h=>by simp[FR,Fence.wide] at h,?_⟩
 .rw[<-l];exact run_enterLoop_outer _ _ _ _ _
 .simp only[resolve,b2];simp[go_sem]
 .have:=um (w:=W1) a9 (#[.func (.yield (w.heap.size+1)) #[] #[]]++z.toArray);simp only[invoke];rw[<-this]
 .have b5:W1.heap[w.heap.size+1]?=ak (.loop {state := .ready,pending:=an,fn:=fnid,tmps:=a.tmps,params:=#[p],assign:=r,body:=K,defers:=w.heap.size}):=by
   rw[<-l];have:=World.alloc_heap_new (w.alloc (.deferred (ak []))) (.loop {state := .ready,pending:=an,fn:=fnid,tmps:=a.tmps,params:=#[p],assign:=r,body:=K,defers:=w.heap.size})
   rwa [World.size_alloc] at this
  have a1:W1.heap[w.heap.size]?=ak (.deferred (ak [])):=by rw[<-l];show ((w.heap.push _).push _)[w.heap.size]?=_;rw[al7 (by simp)];simp
  have sW:Sim I β H W1:=by rw[<-l];exact (W.bG.EU _).EU _
  have xW:Ext I β H w I β H W1:=by rw[<-l];exact ((Ext.refl I β H w).EU _).EU _
  have nO:∀b,w.heap.size<=b->¬Own β H b:=fun b hb h=>cn (Own.Zh W.bG h);refine callsIn_of_wp f1 f3 trivial ?_ rfl;have a6:=TO (Y:=Y (w.heap.size+1)) W a7 a8 b0 b1 hp (fnid:=fnid) (hY (w.heap.size+1)) (N':=N');have aj:=a0 _ _ a6 body f5 I β {tmps:=(#[Value.func (Fn.yield (w.heap.size+1)) #[] #[]]++z.toArray)++Array.replicate (i.ntmps - (#[Value.func (Fn.yield (w.heap.size+1)) #[] #[]]++z.toArray).size) undef,defers:=[]} W1 ⟨xW,?_,?_⟩
  .refine wpIn_mono aj ?_;rintro ex a3 D ⟨s',F,O,G,E,X,b7,hA,hB⟩;obtain ⟨m,c3⟩:=X.Be (w.heap.size+1) _ (by simp[C0];rfl);obtain ⟨a2,b8⟩:=X.Be w.heap.size (.deferred (ak [])) (by simp[C0]);have x3:Ext I β H w F O E D:=X.ext;have c2:w.heap.size+1 < D.heap.size:=(aj4.1 m).1;have js:∀o,JS (Bw S b9 R M h0) N (ak w.heap.size) F O e E {a with defers:=Dx w.heap.size++a.defers} (D.putObj (w.heap.size+1) o):=fun o=>by
    refine ⟨(j.ext.trans x3).putObj (by have:=j.ext.size;simp[Bw] at this ⊢;omega),⟨X.bG.bG.putObj m (by intros;simp),W.size,fun t=>(W.env t).mono x3.fP x3.ue,?_⟩,?_⟩
    .show Dx w.heap.size++a.defers=Dx w.heap.size;rw[W.sH];rfl
    .intro b q C;have b4:M.heap.size<=w.heap.size:=j.ext.size;simp only[Bw,ah1 b4,aiz,ak1,ajr,akD] at C;obtain ⟨rfl,rfl⟩:=C;exact ⟨by rw[World.putObj_heap_other (by omega)];exact a2,b8⟩
   have post:∀v,rangePost (FR an) 0 P (w.heap.size+1) (Mr (Bw S b9 R M h0) N Q) {a with defers:=Dx w.heap.size++a.defers} (.returned v) D:=by
    intro v;cases s' with
    | true =>
     exact ⟨an,_,run_endLoop m aO,ak w.heap.size,F,O,e,E,js _,a4 _ _ (hA rfl)⟩
    | false =>
     exact ⟨ak .ret,_,run_endLoop m aO,wpIn_ret ⟨ak w.heap.size,F,O,e,E,js _,a5 _ _ (hB rfl)⟩⟩
   have fin:bodyPost P i (rangePost (FR an) 0 P (w.heap.size+1) (Mr (Bw S b9 R M h0) N Q) {a with defers:=Dx w.heap.size++a.defers}) .normal a3 D:=by have ⟨rv,h7,h8⟩:=sP X.bG f6 (vs:=[]) rfl;exact ⟨X.bG.sH,rv,h7,post rv⟩
   rcases b7 with rfl | rfl
   .exact fin
   .exact fin
  .have c0:=rc.1;refine ⟨sW,by simp[f4];omega,fun t=>?_,rfl⟩;rw[Gv]
   match t with
   | 0 =>
    have U:((#[Value.func (Fn.yield (w.heap.size+1)) #[] #[]]++z.toArray)++Array.replicate (i.ntmps - (#[Value.func (Fn.yield (w.heap.size+1)) #[] #[]]++z.toArray).size) undef).getD 0 undef=Value.func (Fn.yield (w.heap.size+1)) #[] #[]:=by have G:#[Value.func (Fn.yield (w.heap.size+1)) #[] #[]]++z.toArray=(Value.func (Fn.yield (w.heap.size+1)) #[] #[]::z).toArray:=aO;rw[G,aib,akv (by simp)];simp
    rw[U];exact .c rfl
   | t+1 =>
    rcases aij t (ae f) with L | L
    .have T:(AV.c (.func (.yield (w.heap.size+1)) #[] #[])::f).getD (t+1) .ba=f[t]:=by simp[af,L]
     have U:((#[Value.func (Fn.yield (w.heap.size+1)) #[] #[]]++z.toArray)++Array.replicate (i.ntmps - (#[Value.func (Fn.yield (w.heap.size+1)) #[] #[]]++z.toArray).size) undef).getD (t+1) undef=z[t]'(by omega):=by have G:#[Value.func (Fn.yield (w.heap.size+1)) #[] #[]]++z.toArray=(Value.func (Fn.yield (w.heap.size+1)) #[] #[]::z).toArray:=aO;rw[G,aib,akv (by simp;omega)];simp[show t < ae z by omega]
     rw[T,U];exact rc.2 t _ _ (by simp[L]) (by simp[show t < ae z by omega])
    .have T:(AV.c (.func (.yield (w.heap.size+1)) #[] #[])::f).getD (t+1) .ba = .ba:=by simp[af,L]
     rw[T];exact .ba
  .intro b o C;simp only[C0,aiz,ak1,ajr,akD] at C;rcases C with ⟨rfl,rfl⟩ | ⟨rfl,rfl⟩
   .exact ⟨b5,nO _ aD⟩
   .exact ⟨a1,nO _ aD⟩
abbrev Y0:rZ (Option Nat):=fun _ _ _ _ _=>False
def J7:YOk P C N Y0:=fun _ _ _ _ _ _ h=>h.elim
def OE {f:FuncId} {p:cF} {O:List jZ} (hf:HG P f N p O) {args:List AV} {H:aF} (hl:ae args<=N) (j:dR p=aq) {Post:AV->aF->Prop}
  (h:∀C:Ctx (Option Nat),ROk P C N (RM P N)->WPJ P C N Y0 (RM P N) p (fun _=>iZ O Post) an (nI args) H):cR P f args H Post:=by
 have ⟨g,body,B,V,E,h4,h5,J⟩:=hf.ok;refine ⟨⟨g,B,V,by simp[E]⟩,fun I β w a s M=>?_⟩;have L:=M.1;have s0:cE [] N I β (nI args) H {tmps:=a.toArray++Array.replicate (g.ntmps - a.toArray.size) undef,defers:=[]} w:=by
  refine ⟨s,by simp[h4];omega,fun t=>?_,rfl⟩;rw[Gv];rcases aij t (ae args) with l | l
  .have q:args.getD t .ba=args[t]:=by simp[af,l]
   have r:(a.toArray++Array.replicate (g.ntmps - a.toArray.size) undef).getD t undef=a[t]'(by omega):=by rw[aib,akv (by simp;omega)];simp[show t < ae a by omega]
   rw[q,r];exact M.2 t _ _ (by simp[l]) (by simp[show t < ae a by omega])
  .have q:args.getD t .ba = .ba:=by simp[af,l]
   rw[q];exact .ba
 refine (callsIn_wide (n:=0)).1 (callsIn_of_wp_marks (F:=FR an) B E trivial ?_ rfl);have aj:=WPJ.aj (C:=Bw I β H w s.jr) J7 Wy j (h _ Wy) body h5 I β _ w ⟨.refl _ _ _ _,s0,fun b o hm=>by simp[Bw] at hm⟩;refine wpIn_mono aj fun ex c w' hp=>?_;have ⟨s',U,a2,r,T,x,hx,a1,y,k⟩:=hp;have S:=x.ext;have fin:bodyPostM (FR an) 0 P g (fun e w'=>∃rv v G m A,e = .returned rv/\Ext I β H w m A G w'/\Sim m A G w'/\Rel m A v rv/\Post v G) .normal c w':=by
  cases s' with
  | none =>
   have ⟨rv,K,X⟩:=sP x.bG J y;have j:=x.bG.sH;show LeavesInM (FR an) 0 P g c.tmps _ c.defers .returning w';rw[j];exact ⟨rv,K,rv,_,_,_,_,rfl,S,x.bG.bG,X,k⟩
  | some D =>
   have j:=x.bG.sH;have ⟨W,nD⟩:=x.Be D (.deferred (ak [])) (by simp[Bw]);have z:w.heap.size<=D:=by
    rcases aij D w.heap.size with a0 | z
    .obtain ⟨i,_⟩:=x.Be D (.deferred an) (by simp[Bw,show ¬w.heap.size<=D by omega]);rw[W] at i;cases i
    .exact z
   show LeavesInM (FR an) 0 P g c.tmps _ c.defers .returning w';rw[j];refine ⟨aO,.inl ⟨D,_,rfl,run_takeDeferred W,?_⟩⟩;have R:cE [] N U a2 r T {c with defers:=[]} (w'.putObj D (.deferred an)):=⟨x.bG.bG.putObj W (by intros;simp),x.bG.size,x.bG.env,rfl⟩;have ⟨rv,K,X⟩:=sP R J y;refine ⟨rv,K,rv,_,_,_,_,rfl,?_,R.bG,X,k⟩;exact S.putObj z
 rcases hx with rfl | rfl
 .exact fin
 .exact fin
end
section
variable {P:Program} {f:FuncId} {fn:Func} {rs:List jZ} {args:List AV} {H:aF}
def qm (h:P.funcs[f]?=ak fn) (c:cF) {Post:AV->aF->Prop} (w:∀C:Ctx (Option Nat),ROk P C fn.ntmps (RM P fn.ntmps)->WPJ P C fn.ntmps Y0 (RM P fn.ntmps) c (fun _=>iZ rs Post) an (nI args) H)
  (o:Jx P fn c=aq:=by kernel_rfl) (k:JP fn=rs:=by conv=>lhs;cbv) (x:Nat.ble (ae args) fn.ntmps=aq:=by rfl):cR P f args H Post:=by subst k;exact OE (A9 o h).1 (alK x) (A9 o h).2 w
def LU {σ:Type} {N i j k:Nat} {h:Hn} {a b:cF} {e:Env} {C:Ctx σ} {Q:σ->cx} {s:σ} {Y:rZ σ} {R:CP σ} {g:cF->cF->cF} (w:WPJ P C N Y R (g a b) Q s e H)
  (E:∀y z,Tz i fn h j y k z=g y z:=by intro y z;conv=>lhs;cbv):WPJ P C N Y R (Tz i fn h j a k b) Q s e H:=E a b ▸ w
end
section
variable {P:Program}
section
variable {σ:Type} {Y:rZ σ} {s:σ} {e:Env} {H:aF} {Q:σ->Env->aF->Prop} {g x y n l:Nat} {r:List bU}
def RWJ.sU:∀{r:List bU} {e:Env} {H:aF},(∀o,o∈r->∀e,rQ o.op e=an)->RW P .any r e H (Q s)->RWJ P Y r s e H Q
 | [],e,H,_,h=>h
 | o::r,e,H,w,h=>by
  unfold RW at h;unfold RWJ;have k:=fun q f=>w q (ajR _ f);split at h
  .rename_i z;rw[z,w o aO e];exact h.mono fun v i c=>RWJ.sU k c
  .rename_i z;rw[z];exact RWJ.sU k h
  .exact h.elim
def Ir (w:lk g e = .v0 aq) (f:lk x e = .c (.func (.yield l) #[] #[])) (h:Y s l [lk y e] H fun s' v H'=>RWJ P Y r s' ((n,v)::e) H' Q):RWJ P Y (dg n (.oN (.t x) [.t y]) g aq::r) s e H Q:=by
 have k:fi (dg n (.oN (.t x) [.t y]) g aq).g e=ak aq:=by simp[dg,fi,w]
 have z:rQ (dg n (.oN (.t x) [.t y]) g aq).op e=ak (l,[lk y e]):=by simp[dg,rQ,Opd.ev,f]
 unfold RWJ;rw[k,z];exact h
def GL (z:lk g e = .v0 ar) (h:RWJ P Y r s ((n,.bM [])::e) H Q):RWJ P Y (dg n o g aq::r) s e H Q:=by
 have k:fi (dg n o g aq).g e=ak ar:=by simp[dg,fi,z]
 unfold RWJ;rw[k];exact h
end
def Hx (k:∀e,rQ w e=an) (z:∀e,rQ c e=an):∀o,o∈[dg f w g aq,d i c]->∀e,rQ o.op e=an:=by
 intro o h e;simp only[aiz,ajr,akD] at h;rcases h with rfl | rfl
 .exact k e
 .exact z e
def gQ (f:cs.all bT=aq) (h:s5 (fun a b=>bf (dD (ae H) 0 k [cs] a) b) e c):za n e (H++[ak ⟨k,0,[cs]⟩]) c (H++[an]):=by have z:=V2 (n:=n) (H:=H++[ak (⟨k,0,[cs]⟩:bz)]) (i:=ae H) (oi:=⟨k,0,[cs]⟩) ct (by simp[f]);have w:(H++[ak (⟨k,0,[cs]⟩:bz)]).set (ae H) an=H++[an]:=aO;rw[w] at z;exact h.KQ (bf.refl _) z
def fL {k:Nat} {H:aF} {cs:List AV}:bf (dD (ae H) 0 k [cs] (.ptr (ae H) 0 0 0)) (.fp cs 0):=by
 have:dD (ae H) 0 k [cs] (.ptr (ae H) 0 0 0) = .fp cs 0:=by simp[dD,qB,fm]
 rw[this];exact bf.refl _
def yz (a b:Au) (i k:Nat):Lp:=⟨i,-1,(af a.aN i ah).cI*(ae b.aJ:Int)+(k:Int),(af a.aN i ah).to*(ae b.aJ:Int)+(k:Int)⟩
def yA (b:Au) (k i:Nat):Lp:=⟨-1,k,(i:Int)*(ae b.aJ:Int)+(af b.aN k ah).cI,(i:Int)*(ae b.aJ:Int)+(af b.aN k ah).to⟩
def yB (a b:Au) (i k:Nat):Lp:=⟨i,k,(af a.aN i ah).cI*(ae b.aJ:Int)+(af b.aN k ah).cI,(af a.aN i ah).to*(ae b.aJ:Int)+(af b.aN k ah).to⟩
def A8 (a b:Au) (l:List Int) (i k:Nat):Bool:=l.contains (af a.aN i ah).label&&decide ((af a.aN i ah).label=(af b.aN k ah).label)
def jA (a b:Au) (l:List Int) (i k:Nat):List Lp:=if l.contains (af a.aN i ah).label then [] else (aC k).map (yz a b i)
def jB (b:Au) (l:List Int) (k i:Nat):List Lp:=if l.contains (af b.aN k ah).label then [] else (aC i).map (yA b k)
def kt (a b:Au) (l:List Int) (i k:Nat):List Lp:=((aC k).filter (A8 a b l i)).map (yB a b i)
def qJ (a b:Au) (l:List Int) (i:Nat):List Lp:=jA a b l i (ae b.aJ)
def qK (a b:Au) (l:List Int) (k:Nat):List Lp:=jB b l k (ae a.aJ)
def oW (a b:Au) (l:List Int) (i:Nat):List Lp:=kt a b l i (ae b.aN)
def JC (a b:Au) (l:List Int) (i k:Nat):kt a b l i (k+1)=kt a b l i k++if A8 a b l i k=aq then [yB a b i k] else []:=by
 unfold kt;rw[ajK,al0,aii];congr 1;by_cases h:A8 a b l i k=aq
 .rw[ah1 h,amb,ah1 h];rfl
 .rw[ah0 h,amb,ah0 h];rfl
def JA (a b:Au) (l:List Int) (i k:Nat):jA a b l i (k+1)=jA a b l i k++if l.contains (af a.aN i ah).label=aq then [] else [yz a b i k]:=by
 unfold jA;split
 .rfl
 .rw[ajK,aii];rfl
def JB (b:Au) (l:List Int) (k i:Nat):jB b l k (i+1)=jB b l k i++if l.contains (af b.aN k ah).label=aq then [] else [yA b k i]:=by
 unfold jB;split
 .rfl
 .rw[ajK,aii];rfl
def cz (a b:Au) (l:List Int):List Lp:=(aC (ae a.aN)).flatMap (qJ a b l)++(aC (ae b.aN)).flatMap (qK a b l)++(aC (ae a.aN)).flatMap (oW a b l)
def YL (l0:Nat) (W:List Lp) (IJ:List Lp->aF->Prop) (SJ:aF->Prop):rZ Bool:=fun s l args H K=>s=aq/\l=l0/\∃pre x,args=[.agg (Cj x)]/\(pre++[x]) <+: W/\IJ pre H/\(∀H',IJ (pre++[x]) H'->K aq (.c (.bool aq)) H')/\(∀H',SJ H'->K ar (.c (.bool ar)) H')
def BA {α:Type} {f:Nat->List α} {k n:Nat} (h:k<=n):(aC k).flatMap f <+: (aC n).flatMap f:=by obtain ⟨m,rfl⟩:=al3 h;rw[anj,ak5];exact alC _ _
def Jl {α:Type} {f:Nat->α} {k n:Nat} (h:k<=n):(aC k).map f <+: (aC n).map f:=by obtain ⟨m,rfl⟩:=al3 h;rw[anj,aii];exact alC _ _
def Mk (h:k<=n):(aC k).filter f <+: (aC n).filter f:=by obtain ⟨m,rfl⟩:=al3 h;rw[anj,al0];exact alC _ _
def lD {α:Type} {f:Nat->List α} {k:Nat}:(aC (k+1)).flatMap f=(aC k).flatMap f++f k:=by rw[ajK,ak5];simp
def JIn (a:Au):Prop:=Ka a.aN/\ae a.aJ < 1000000/\∀x,x∈a.aN->(0<=x.cI/\x.cI < 1000000)/\(0<=x.to/\x.to < 1000000)
section
variable {C:Ctx Bool} {l0:Nat} {a b:Au} {l:List Int} {fl:Bool} {W:List Lp} {IJ:List Lp->aF->Prop} {SJ:aF->Prop}
abbrev R0:CP Bool:=fun _ _ _ _ _=>False
def DJ:ROk prog C N R0:=fun _ _ _ _ _ h=>h.elim
abbrev TV (W:List Lp) (IJ:List Lp->aF->Prop) (SJ:aF->Prop):Bool->cx:=fun s x _ H=>(x = .normal\/x = .ret)/\(s=aq->IJ W H)/\(s=ar->SJ H)
def NB {i k n:Nat} (h:k<=n):jA a b l i k <+: jA a b l i n:=by
 unfold jA;split
 .exact List.prefix_refl _
 .exact Jl h
def NC {i k n:Nat} (h:i<=n):jB b l k i <+: jB b l k n:=by
 unfold jB;split
 .exact List.prefix_refl _
 .exact Jl h
def ND (h:k<=n):kt a b l i k <+: kt a b l i n:=(Mk h).map _
def U7 (U:YOk prog C 143 (YL l0 W IJ SJ)) (hn:∀pre H,IJ pre H->IJ pre (H++[an])) (V:JIn a) (E:JIn b) (hl:ae l < 1000000) {z:List Lp} (T:W=z++(aC (ae a.aN)).flatMap (oW a b l)) {H:aF} (h0:IJ z H) (er:Env) :
  WPJ prog C 143 (YL l0 W IJ SJ) R0 pQ (TV W IJ SJ) aq ((0,.c (.func (.yield l0) #[] #[]))::(1,.fp (gN a b l fl) 0)::er) H:=by
 refine LU ?_;refine Y ?_;refine lQ U DJ (fun m s e H=>s=aq/\∃i:Nat,i<=ae a.aN/\m=ae a.aN - i/\IJ (z++(aC i).flatMap (oW a b l)) H /\
  e=[(0,.c (.func (.yield l0) #[] #[])),(1,.fp (gN a b l fl) 0),(93,.seq 6 ar (a.aN.map dI)),(94,.q0 (ae a.aN:Int)),(95,.q0 (i:Int))]) (n:=ae a.aN) ⟨rfl,0,aD,rfl,bu h0,rfl⟩ ?_;rintro n s _ H ⟨rfl,i,hi,a0,t,rfl⟩;by_cases B:(i:Int) < (ae a.aN:Int)
 .have e1:au .i64 ((i:Int)+1)=((i+1:Nat):Int):=by have:=V.1.1;rw[wrap_i64 aD aD];rfl
  have O:af a.aN i ah∈a.aN:=bS aD;have v:=V.2.2 _ O;have M:∀k,A8 a b l i k=(l.contains (af a.aN i ah).label&&decide ((af a.aN i ah).label=(af b.aN k ah).label)):=fun k=>rfl;have L:∀k,yB a b i k=⟨i,k,(af a.aN i ah).cI*(ae b.aJ:Int)+(af b.aN k ah).cI,(af a.aN i ah).to*(ae b.aJ:Int)+(af b.aN k ah).to⟩:=fun k=>rfl;generalize hx:af a.aN i ah=x at *;have j:IJ (z++(aC i).flatMap (oW a b l)) (H++[an]):=hn _ _ t;refine Y2 B hx ?_;refine ⟨aD,[(0,.c (.func (.yield l0) #[] #[])),(1,.fp (gN a b l fl) 0),(9,.q0 (i:Int)),(10,.fp (dI x) 0),(93,.seq 6 ar (a.aN.map dI)),(94,.q0 (ae a.aN:Int)),(95,.q0 (i:Int))],H++[an],?_,?_⟩
  .exact gQ (cs:=dI x) rfl (.cons (bf.refl _) (.cons (bf.refl _) (.cons (bf.refl _) (.cons fL (.cons (bf.refl _) (.cons (bf.refl _) (.cons (bf.refl _) .nil)))))))
  refine Y ?_;refine lQ U DJ (fun m s e H=>s=aq/\∃k:Nat,k<=ae b.aN/\m=ae b.aN - k/\IJ (z++(aC i).flatMap (oW a b l)++kt a b l i k) H /\
   e=[(0,.c (.func (.yield l0) #[] #[])),(1,.fp (gN a b l fl) 0),(9,.q0 (i:Int)),(10,.fp (dI x) 0),(93,.seq 6 ar (a.aN.map dI)),(94,.q0 (ae a.aN:Int)),(95,.q0 (i:Int)),
    (102,.seq 6 ar (b.aN.map dI)),(103,.q0 (ae b.aN:Int)),(104,.q0 (k:Int))]) (n:=ae b.aN) ⟨rfl,0,aD,rfl,by simpa[kt] using j,rfl⟩ ?_;clear j t H;rintro q s _ H ⟨rfl,k,hk,a1,t,rfl⟩;by_cases A:(k:Int) < (ae b.aN:Int)
  .have G:au .i64 ((k:Int)+1)=((k+1:Nat):Int):=by have:=E.1.1;rw[wrap_i64 aD aD];rfl
   have R:af b.aN k ah∈b.aN:=bS aD;have K:=E.2.2 _ R;have w:=JC a b l i k;rw[M k,L k] at w;generalize hy:af b.aN k ah=y at *;have j:=hn _ _ t;refine Y2 A hy ?_;refine ⟨aD,[(0,.c (.func (.yield l0) #[] #[])),(1,.fp (gN a b l fl) 0),(9,.q0 (i:Int)),(10,.fp (dI x) 0),(11,.q0 (k:Int)),(12,.fp (dI y) 0),(93,.seq 6 ar (a.aN.map dI)),(94,.q0 (ae a.aN:Int)),(95,.q0 (i:Int)),
    (102,.seq 6 ar (b.aN.map dI)),(103,.q0 (ae b.aN:Int)),(104,.q0 (k:Int))],H++[an],?_,?_⟩
   .exact gQ (cs:=dI y) rfl (.cons (bf.refl _) (.cons (bf.refl _) (.cons (bf.refl _) (.cons (bf.refl _) (.cons (bf.refl _) (.cons fL (.cons (bf.refl _) (.cons (bf.refl _) (.cons (bf.refl _) (.cons (bf.refl _) (.cons (bf.refl _) (.cons (bf.refl _) .nil))))))))))))
   refine Y ?_;refine cX (KL a b l fl x.label hl) ?_;have skip:(l.contains x.label&&decide (x.label=y.label))=ar->IJ (z++(aC i).flatMap (oW a b l)++kt a b l i (k+1)) (H++[an]):=fun hf=>by rw[w,hf];simpa using j
   by_cases F:l.contains x.label=aq
   .by_cases o:x.label=y.label
    .have f:(x.label=y.label)=True:=aiq o;rw[F,air o,ah1 (by rfl)] at w;have p:z++(aC i).flatMap (oW a b l)++kt a b l i k++[⟨i,k,x.cI*(ae b.aJ:Int)+y.cI,x.to*(ae b.aJ:Int)+y.to⟩]=z++(aC i).flatMap (oW a b l)++kt a b l i (k+1):=by rw[w,<-aio]
     have N:z++(aC i).flatMap (oW a b l)++kt a b l i (k+1) <+: W:=by rw[T,aio];refine (akK _).2 (alu ?_ (BA (k:=i+1) aD));rw[lD];exact (akK _).2 (ND aD)
     refine Z2 F f ?_;refine cY (Iw a b l fl x.cI y.cI v.1 K.1 E.2.1) ?_;refine cY (Iw a b l fl x.to y.to v.2 K.2 E.2.1) ?_;refine Ir rfl rfl ⟨rfl,rfl,_,⟨i,k,x.cI*(ae b.aJ:Int)+y.cI,x.to*(ae b.aJ:Int)+y.to⟩,rfl,by rw[p];exact N,j,fun H' D=>RWJ.sU (Hx (fun _=>rfl) (fun _=>rfl)) ?_,fun H' D=>RWJ.sU (Hx (fun _=>rfl) (fun _=>rfl)) ?_⟩
     .rw[p] at D;refine Z1 G ?_;exact ⟨ae b.aN - (k+1),aD,k+1,aD,rfl,D,rfl⟩
     .refine Z0 ?_;exact ⟨.inr rfl,fun h=>by simp at h,fun _=>D⟩
    .have f:(x.label=y.label)=False:=aie o;have S:=skip (by rw[aif o];simp);refine Z2 F f ?_;refine GL rfl (RWJ.sU (Hx (fun _=>rfl) (fun _=>rfl)) ?_);refine Z1 G ?_;exact ⟨ae b.aN - (k+1),aD,k+1,aD,rfl,S,rfl⟩
   .have X:l.contains x.label=ar:=bu F;have S:=skip (by rw[X];rfl);refine Z1 X ?_;refine GL rfl (RWJ.sU (Hx (fun _=>rfl) (fun _=>rfl)) ?_);refine Z1 G ?_;exact ⟨ae b.aN - (k+1),aD,k+1,aD,rfl,S,rfl⟩
  .have J:k=ae b.aN:=aD;subst J;refine Y2 A e1 ?_;refine ⟨ae a.aN - (i+1),aD,i+1,aD,rfl,?_,rfl⟩;rw[lD,<-aio];exact t
 .have I:i=ae a.aN:=aD;subst I;refine Y1 B ?_;exact ⟨.inl rfl,fun _=>by rw[T];exact t,fun h=>by simp at h⟩
def U6 (D:YOk prog C 143 (YL l0 W IJ SJ)) (T:∀pre H,IJ pre H->IJ pre (H++[an])) (E:JIn a) (p:JIn b) (S:ae l < 1000000) {z:List Lp} (R:W=z++(aC (ae b.aN)).flatMap (qK a b l)++(aC (ae a.aN)).flatMap (oW a b l)) {H:aF} (h0:IJ z H) (er:Env) :
  WPJ prog C 143 (YL l0 W IJ SJ) R0 pP (TV W IJ SJ) aq ((0,.c (.func (.yield l0) #[] #[]))::(1,.fp (gN a b l fl) 0)::er) H:=by
 refine LU ?_;refine Y ?_;refine lQ D DJ (fun m s e H=>s=aq/\∃i:Nat,i<=ae b.aN/\m=ae b.aN - i/\IJ (z++(aC i).flatMap (qK a b l)) H /\
  e=[(0,.c (.func (.yield l0) #[] #[])),(1,.fp (gN a b l fl) 0),(54,.seq 6 ar (b.aN.map dI)),(55,.q0 (ae b.aN:Int)),(56,.q0 (i:Int))]) (n:=ae b.aN) ⟨rfl,0,aD,rfl,bu h0,rfl⟩ ?_;rintro n s _ H ⟨rfl,i,hi,a0,j,rfl⟩;by_cases K:(i:Int) < (ae b.aN:Int)
 .have V:au .i64 ((i:Int)+1)=((i+1:Nat):Int):=by have:=p.1.1;rw[wrap_i64 aD aD];rfl
  have N:af b.aN i ah∈b.aN:=bS aD;have o:=p.2.2 _ N;have J:∀k,yA b i k=⟨-1,i,(k:Int)*(ae b.aJ:Int)+(af b.aN i ah).cI,(k:Int)*(ae b.aJ:Int)+(af b.aN i ah).to⟩:=fun k=>rfl;have M:=JB b l i;generalize hx:af b.aN i ah=x at *;have X:IJ (z++(aC i).flatMap (qK a b l)) (H++[an]):=T _ _ j;refine Y2 K hx ?_;refine ⟨aD,[(0,.c (.func (.yield l0) #[] #[])),(1,.fp (gN a b l fl) 0),(6,.q0 (i:Int)),(7,.fp (dI x) 0),(54,.seq 6 ar (b.aN.map dI)),(55,.q0 (ae b.aN:Int)),(56,.q0 (i:Int))],H++[an],?_,?_⟩
  .exact gQ (cs:=dI x) rfl (.cons (bf.refl _) (.cons (bf.refl _) (.cons (bf.refl _) (.cons fL (.cons (bf.refl _) (.cons (bf.refl _) (.cons (bf.refl _) .nil)))))))
  refine Y ?_;refine lQ D DJ (fun m s e H=>s=aq/\∃k:Nat,k<=ae a.aJ/\m=ae a.aJ - k/\IJ (z++(aC i).flatMap (qK a b l)++jB b l i k) H /\
   e=[(0,.c (.func (.yield l0) #[] #[])),(1,.fp (gN a b l fl) 0),(6,.q0 (i:Int)),(7,.fp (dI x) 0),(54,.seq 6 ar (b.aN.map dI)),(55,.q0 (ae b.aN:Int)),(56,.q0 (i:Int)),
    (64,.q0 (ae a.aJ:Int)),(65,.q0 (k:Int))]) (n:=ae a.aJ) ⟨rfl,0,aD,rfl,by simpa[jB] using X,rfl⟩ ?_;clear X j H;rintro q s _ H ⟨rfl,k,hk,a1,j,rfl⟩;by_cases v:(k:Int) < (ae a.aJ:Int)
  .have O:au .i64 ((k:Int)+1)=((k+1:Nat):Int):=by have:=E.2.1;rw[wrap_i64 aD aD];rfl
   have w:=M k;rw[J k] at w;have t:0<=(k:Int)/\(k:Int) < 1000000:=cn E.2.1;refine Y1 v ?_;refine cX (KL a b l fl x.label S) ?_;by_cases B:l.contains x.label=aq
   .rw[ah1 B,aiu] at w;refine Z1 B ?_;refine GL rfl (RWJ.sU (Hx (fun _=>rfl) (fun _=>rfl)) ?_);refine Z1 O ?_;exact ⟨ae a.aJ - (k+1),aD,k+1,aD,rfl,by rw[w];exact j,rfl⟩
   .rw[ah0 B] at w;have F:l.contains x.label=ar:=bu B;have f:z++(aC i).flatMap (qK a b l)++jB b l i k++[⟨-1,i,(k:Int)*(ae b.aJ:Int)+x.cI,(k:Int)*(ae b.aJ:Int)+x.to⟩]=z++(aC i).flatMap (qK a b l)++jB b l i (k+1):=by rw[w,<-aio]
    have L:z++(aC i).flatMap (qK a b l)++jB b l i (k+1) <+: W:=by rw[R,aio,aio];refine (akK _).2 (alu (alu ?_ (BA (k:=i+1) aD)) (alC _ _));rw[lD];exact (akK _).2 (NC aD)
    refine Z1 F ?_;refine cY (Iw a b l fl k x.cI t o.1 p.2.1) ?_;refine cY (Iw a b l fl k x.to t o.2 p.2.1) ?_;refine Ir rfl rfl ⟨rfl,rfl,_,⟨-1,i,(k:Int)*(ae b.aJ:Int)+x.cI,(k:Int)*(ae b.aJ:Int)+x.to⟩,rfl,by rw[f];exact L,j,fun U A=>RWJ.sU (Hx (fun _=>rfl) (fun _=>rfl)) ?_,fun U A=>RWJ.sU (Hx (fun _=>rfl) (fun _=>rfl)) ?_⟩
    .rw[f] at A;refine Z1 O ?_;exact ⟨ae a.aJ - (k+1),aD,k+1,aD,rfl,A,rfl⟩
    .refine Z0 ?_;exact ⟨.inr rfl,fun h=>by simp at h,fun _=>A⟩
  .have I:k=ae a.aJ:=aD;subst I;refine Y2 v V ?_;refine ⟨ae b.aN - (i+1),aD,i+1,aD,rfl,?_,rfl⟩;rw[lD,<-aio];exact j
 .have G:i=ae b.aN:=aD;subst G;refine Y1 K ?_;exact U7 D T E p S R j _
def U5 (B:YOk prog C 143 (YL l0 (cz a b l) IJ SJ)) (R:∀pre H,IJ pre H->IJ pre (H++[an])) (D:JIn a) (o:JIn b) (O:ae l < 1000000) {H:aF} (V:IJ [] H) (U:Env) :
  WPJ prog C 143 (YL l0 (cz a b l) IJ SJ) R0 kj (TV (cz a b l) IJ SJ) aq ((0,.c (.func (.yield l0) #[] #[]))::(1,.fp (gN a b l fl) 0)::U) H:=by
 refine LU ?_;refine Y ?_;refine lQ B DJ (fun m s e H=>s=aq/\∃i:Nat,i<=ae a.aN/\m=ae a.aN - i/\IJ ((aC i).flatMap (qJ a b l)) H /\
  e=[(0,.c (.func (.yield l0) #[] #[])),(1,.fp (gN a b l fl) 0),(15,.seq 6 ar (a.aN.map dI)),(16,.q0 (ae a.aN:Int)),(17,.q0 (i:Int))]) (n:=ae a.aN) ⟨rfl,0,aD,rfl,bu V,rfl⟩ ?_;rintro n s _ H ⟨rfl,i,hi,a0,f,rfl⟩;by_cases v:(i:Int) < (ae a.aN:Int)
 .have T:au .i64 ((i:Int)+1)=((i+1:Nat):Int):=by have:=D.1.1;rw[wrap_i64 aD aD];rfl
  have M:af a.aN i ah∈a.aN:=bS aD;have j:=D.2.2 _ M;have I:∀k,yz a b i k=⟨i,-1,(af a.aN i ah).cI*(ae b.aJ:Int)+(k:Int),(af a.aN i ah).to*(ae b.aJ:Int)+(k:Int)⟩:=fun k=>rfl;have L:=JA a b l i;generalize hx:af a.aN i ah=x at *;have K:IJ ((aC i).flatMap (qJ a b l)) (H++[an]):=R _ _ f;refine Y2 v hx ?_;refine ⟨aD,[(0,.c (.func (.yield l0) #[] #[])),(1,.fp (gN a b l fl) 0),(3,.q0 (i:Int)),(4,.fp (dI x) 0),(15,.seq 6 ar (a.aN.map dI)),(16,.q0 (ae a.aN:Int)),(17,.q0 (i:Int))],H++[an],?_,?_⟩
  .exact gQ (cs:=dI x) rfl (.cons (bf.refl _) (.cons (bf.refl _) (.cons (bf.refl _) (.cons fL (.cons (bf.refl _) (.cons (bf.refl _) (.cons (bf.refl _) .nil)))))))
  refine Y ?_;refine lQ B DJ (fun m s e H=>s=aq/\∃k:Nat,k<=ae b.aJ/\m=ae b.aJ - k/\IJ ((aC i).flatMap (qJ a b l)++jA a b l i k) H /\
   e=[(0,.c (.func (.yield l0) #[] #[])),(1,.fp (gN a b l fl) 0),(3,.q0 (i:Int)),(4,.fp (dI x) 0),(15,.seq 6 ar (a.aN.map dI)),(16,.q0 (ae a.aN:Int)),(17,.q0 (i:Int)),
    (25,.q0 (ae b.aJ:Int)),(26,.q0 (k:Int))]) (n:=ae b.aJ) ⟨rfl,0,aD,rfl,by simpa[jA] using K,rfl⟩ ?_;clear K f H;rintro q s _ H ⟨rfl,k,hk,a1,f,rfl⟩;by_cases t:(k:Int) < (ae b.aJ:Int)
  .have N:au .i64 ((k:Int)+1)=((k+1:Nat):Int):=by have:=o.2.1;rw[wrap_i64 aD aD];rfl
   have z:=L k;rw[I k] at z;have p:0<=(k:Int)/\(k:Int) < 1000000:=cn o.2.1;refine Y1 t ?_;refine cX (KL a b l fl x.label O) ?_;by_cases A:l.contains x.label=aq
   .rw[ah1 A,aiu] at z;refine Z1 A ?_;refine GL rfl (RWJ.sU (Hx (fun _=>rfl) (fun _=>rfl)) ?_);refine Z1 N ?_;exact ⟨ae b.aJ - (k+1),aD,k+1,aD,rfl,by rw[z];exact f,rfl⟩
   .rw[ah0 A] at z;have E:l.contains x.label=ar:=bu A;have w:(aC i).flatMap (qJ a b l)++jA a b l i k++[⟨i,-1,x.cI*(ae b.aJ:Int)+(k:Int),x.to*(ae b.aJ:Int)+(k:Int)⟩]=(aC i).flatMap (qJ a b l)++jA a b l i (k+1):=by rw[z,<-aio]
    have J:(aC i).flatMap (qJ a b l)++jA a b l i (k+1) <+: cz a b l:=by unfold cz;rw[aio];refine alu (alu ?_ (BA (k:=i+1) aD)) (alC _ _);rw[lD];exact (akK _).2 (NB aD)
    refine Z1 E ?_;refine cY (Iw a b l fl x.cI k j.1 p o.2.1) ?_;refine cY (Iw a b l fl x.to k j.2 p o.2.1) ?_;refine Ir rfl rfl ⟨rfl,rfl,_,⟨i,-1,x.cI*(ae b.aJ:Int)+(k:Int),x.to*(ae b.aJ:Int)+(k:Int)⟩,rfl,by rw[w];exact J,f,fun S X=>RWJ.sU (Hx (fun _=>rfl) (fun _=>rfl)) ?_,fun S X=>RWJ.sU (Hx (fun _=>rfl) (fun _=>rfl)) ?_⟩
    .rw[w] at X;refine Z1 N ?_;exact ⟨ae b.aJ - (k+1),aD,k+1,aD,rfl,X,rfl⟩
    .refine Z0 ?_;exact ⟨.inr rfl,fun h=>by simp at h,fun _=>X⟩
  .have G:k=ae b.aJ:=aD;subst G;refine Y2 t T ?_;refine ⟨ae a.aN - (i+1),aD,i+1,aD,rfl,?_,rfl⟩;rw[lD];exact f
 .have F:i=ae a.aN:=aD;subst F;refine Y1 v ?_;exact U6 B R D o O rfl f _
end
def XU (a b:Au) (l:List Int) (fl:Bool):bg prog 51 [.agg (gN a b l fl)] (.fn 75 [] [.fp (gN a b l fl) 0]):=by refine pw func51 ?_;refine Y ?_;exact aW rfl rfl
def cW (v:AV) (xs:List (List AV)):AV->AV:=match v with
 | .sl k id ver _ _=>fm id ver k xs
 | _=>id
def oQ (v:AV) (xs:List (List AV)):AV->AV
 | .agg cs => .agg (cs.map (cW v xs))
 | a=>cW v xs a
def oR (v:AV) (xs:List (List AV)):AV->AV
 | .bM cs => .bM (cs.map (oQ v xs))
 | a=>oQ v xs a
def Dy (H:aF):AV->aF
 | .sl _ id _ _ _=>H.set id an
 | _=>H
def iY:AV->Bool
 | .fn _ _ _=>ar
 | .agg _=>ar
 | .bM _=>ar
 | _=>aq
def wN:AV->Bool
 | .agg cs=>cs.all iY
 | a=>iY a
def Jw:AV->Bool
 | .bM cs=>cs.all wN
 | a=>wN a
def Xt {k id ver i n:Nat} {xs:List (List AV)} {a:AV} (h:Jw a=aq):oR (.sl k id ver i n) xs a=dD id ver k xs a:=by
 have y:∀b,wN b=aq->oQ (.sl k id ver i n) xs b=qB id ver k xs b:=fun b x=>by
  cases b with
  | fn=>exact absurd x (by simp[wN,iY])
  | bM=>exact absurd x (by simp[wN,iY])
  | _=>rfl
 cases a with
 | bM z =>
  show AV.bM _=AV.bM _;congr 1;exact ajh fun b x=>y b (ah4.1 h b x)
 | fn=>exact absurd h (by simp[Jw,wN,iY])
 | _=>rfl
def Zj {v:AV} {xs:List (List AV)} (hv:∀k id ver i n,v ≠ .sl k id ver i n):cW v xs=id:=by cases v<;>first | rfl | exact absurd rfl (hv _ _ _ _ _)
def Pv {v:AV} {xs:List (List AV)} (hv:∀k id ver i n,v ≠ .sl k id ver i n) (a:AV):oR v xs a=a:=by
 have h:=Zj (xs:=xs) hv;have y:∀b,oQ v xs b=b:=fun b=>by cases b<;>simp[oQ,h]
 cases a with
 | bM x =>
  show AV.bM (x.map (oQ v xs))=_;rw[show oQ v xs=id from funext y,List.map_id]
 | _=>simp[oR,oQ,h]
def Acc.Ly {n n0 k:Nat} {H:aF} {v:AV} {xs:List (List AV)} (h:Acc n0 H k v xs) (z:xs.all (fun x=>x.all bT)=aq):WkS n H (Dy H v) (fun a b=>Jw a=aq/\b=oR v xs a):=by
 cases h with
 | nil=>exact (qS n H).sub fun a b ⟨_,h⟩=>by rw[h,Pv (by intros;simp)];exact bf.refl _
 | sq=>exact (qS n H).sub fun a b ⟨_,h⟩=>by rw[h,Pv (by intros;simp)];exact bf.refl _
 | sl c y=>exact (pf (ob:=⟨k,_,xs⟩) y z).sub fun a b ⟨w,h⟩=>by rw[h,Xt w]
def Acc.Nm {n0 k:Nat} {H:aF} {v:AV} {xs:List (List AV)} (h:Acc n0 H k v xs):bf (cW v xs v) (.seq k ar xs)/\iY (cW v xs v)=aq/\iY v=aq/\aG (cW v xs v)=[]:=by
 cases h with
 | nil=>exact ⟨eW k,rfl,rfl,rfl⟩
 | sq=>exact ⟨fun _ _ _ y=>y.TK (.full k xs),rfl,rfl,rfl⟩
 | sl z w =>
  rename_i x ver;have e:cW (.sl k x ver 0 (ae xs)) xs (.sl k x ver 0 (ae xs)) = .seq k ar xs:=by simp[cW,fm]
  rw[e];exact ⟨bf.refl _,rfl,rfl,rfl⟩
def jI {v u:AV} {xs:List (List AV)} (h:∀id,id∈aG v->id∉aG u):cW v xs u=u:=by
 cases v with
 | sl k id ver i n =>
  have x:=h id (by simp[aG]);cases u<;>first | rfl | (simp[aG] at x;simp[cW,fm,ait x])
 | _=>rfl
def Acc.Ku {n0 k z:Nat} {H:aF} {v u:AV} {xs ys:List (List AV)} (h:Acc n0 H z u ys) (_hv:Acc n0 H k v xs) (b:∀id,id∈aG v->id∉aG u):Acc n0 (Dy H v) z u ys:=by
 cases v with
 | sl k id ver i n =>
  have a:=b id (by simp[aG]);exact h.aQ (ids:=[id]) ⟨by simp[Dy],fun j _ x w=>by simp at x;exact aS (ait x)⟩ (fun j x y=>by simp at y;subst y;exact a x)
 | _=>exact h
def bg.borrow (h:bg P f args2 (.c v)) (S:args2.all bJ=aq) (hw:WkS (ae H) H H2 R) (C:ae args2=ae args)
  (hr:∀(j:Nat) a r,args[j]?=ak a->args2[j]?=ak r->R a r):bR P f args H (.c v) H:=by
 have ⟨M,N⟩:=h;refine ⟨M,fun I β w W s y=>?_⟩;have ⟨m,a3,s2,O,hx⟩:=hw I β w s;have k:cG m a3 args2 W:=by refine ⟨C ▸ y.1,fun j r v p t=>?_⟩;have T:j < ae args:=C ▸ (aid.1 p).1;have q:=ah6 T;exact O _ _ _ (hr j _ _ q p) (y.2 j _ v q t)
 have s0:Sim m iO [] w:=⟨s2.fP,fun id l h=>by simp at h,fun id a0 l a1 B B' h=>by simp at h,fun id ver B h=>by simp[iO] at h,fun id l n h=>by simp at h⟩;have i:cG m iO args2 W:=⟨k.1,fun j a v e F=>(k.2 j a v e F).bJ (fX S e) iO⟩;refine (N m iO w W s0 i).mono fun en w' V=>?_;have ⟨rv,I',a4,p,x,s',X⟩:=V;have K:∀b,¬Own iO [] b:=by rintro b ⟨id,l,B,h,_⟩;simp at h
 have g:=fun b z=>(x.frame b z (K b)).1;refine ⟨rv,I,β,p,⟨.refl _,.refl _,ahZ _,x.size,x.os,x.tape,x.output,fun b z _=>⟨g b z,fun _=>rfl⟩,fun b z => .inl z⟩,⟨fun b o v z=>?_,fun id l h=>?_,s.inj,s.jr,s.ver⟩,by obtain ⟨t,q⟩:=X.eG;rw[t];exact .c q⟩
 .have ⟨c,E,G,D,k2⟩:=s.fP b o v z;exact ⟨c,E,G,g b (aj4.1 D).1 ▸ D,k2⟩
 .have ⟨B,J,L,A⟩:=s.obj id l h;exact ⟨B,J,L,A.aY (.refl _) (.refl _) (fun U=>g _ (A.lt U)) (fun _ _=>rfl)⟩
def mh (a b:Au) (m k:Nat):List Lc:=a.aJ.flatMap fun x=>b.aJ.map fun y=>⟨eK m k x.inv.l y.inv.l,eK m k x.dy.l y.dy.l⟩
def iE (a b:Au) (m k:Nat):List Zn:=a.init.flatMap fun x=>b.init.map fun y=>⟨x.loc*(ae b.aJ:Int)+y.loc,eK m k x.set.l y.set.l⟩
def eT (a b:Au) (m k:Nat) (l:List Int):Au:=⟨(m:Int)+k,mh a b m k,(cz a b l).map (eC a b m k),iE a b m k⟩
def gp (x:Lp):Int × Int:=(x.i,x.k)
def Pn (l:List Lc):(l.map iy).all (fun x=>x.all bT)=aq:=by rw[aj6,ah4];exact fun c _=>rfl
def Pj (l:List Jp):(l.map dI).all (fun x=>x.all bT)=aq:=by rw[aj6,ah4];exact fun c _=>rfl
def Qg (l:List Zn):(l.map iF).all (fun x=>x.all bT)=aq:=by rw[aj6,ah4];exact fun c _=>rfl
def NI (l:List (Int × Int)):(l.map sD).all (fun x=>x.all bT)=aq:=by rw[aj6,ah4];exact fun c _=>rfl
structure PrR (H:aF) (d:Int) (vl vj vi:AV) (L:List Lc) (J:List Jp) (Z:List Zn) (x:Option Nat) (vp:AV) (ps:List (Int × Int)):Prop where
 o0:aI H 0 0=some ⟨4,0,[[.c (.int .i64 0),.nil,.nil,.nil]]⟩
 o1:aI H 1 0=some ⟨1,0,[[.nil]]⟩
 o2:aI H 2 0=some ⟨1,0,[[.c (.int .i64 0)]]⟩
 o3:aI H 3 0=some ⟨4,0,[[.c (.int .i64 d),vl,vj,vi]]⟩
 ox:∀q,x=some q->4<=q/\aI H q 0=some ⟨1,0,[[vp]]⟩/\q∉aG vl/\q∉aG vj/\q∉aG vi/\q∉aG vp
 al:Acc 4 H 4 vl (L.map iy)
 aj:Acc 4 H 6 vj (J.map dI)
 ai:Acc 4 H 3 vi (Z.map iF)
 ap:Acc 4 H 2 vp (ps.map sD)
 uZ:∀id,id∈aG vl->id∉aG vj
 uY:∀id,id∈aG vl->id∉aG vi
 w9:∀id,id∈aG vl->id∉aG vp
 Hj:∀id,id∈aG vj->id∉aG vi
 IL:∀id,id∈aG vj->id∉aG vp
 w7:∀id,id∈aG vi->id∉aG vp
section
variable {H G:aF} {d:Int} {vl vj vi vp:AV} {L:List Lc} {J:List Jp} {Z:List Zn} {x:Option Nat} {ps:List (Int × Int)}
def PrR.len (h:PrR H d vl vj vi L J Z x vp ps):4<=ae H:=cn (aP h.o3)
def PrR.aQ (h:PrR H d vl vj vi L J Z x vp ps) (k:aL H G []):PrR G d vl vj vi L J Z x vp ps:=by
 have e:=fun w y=>k.2 w y aO 0;have f:=h.len;exact ⟨(e 0 aD).trans h.o0,(e 1 aD).trans h.o1,(e 2 aD).trans h.o2,(e 3 aD).trans h.o3,
  fun q z=>by obtain ⟨a,b,c⟩:=h.ox q z;exact ⟨a,(e q (aP b)).trans b,c⟩,
  h.al.aQ k aO,h.aj.aQ k aO,h.ai.aQ k aO,h.ap.aQ k aO,h.uZ,h.uY,h.w9,h.Hj,h.IL,h.w7⟩
def PrR.gT (h:PrR H d vl vj vi L J Z x vp ps) (S:ae L < 1000000) (y:Lc) :
  ∃v G,(∀K,bX 4 vl [iy y] H K=K v G)/\(bB v=aq/\v.cells=[v]/\dA v=aq)/\aI G 3 0=ak ⟨4,0,[[.q0 d,vl,vj,vi]]⟩/\PrR (G.set 3 (ak ⟨4,0,[[.q0 d,v,vj,vi]]⟩)) d v vj vi (L++[y]) J Z x vp ps:=by
 have N:=h.len;have ⟨v,G,t,X,g,R,p,W,A,B⟩:=h.al.app N bW (iy y);have ge:=fun z a=>(h.al.ge z a).1;have e:∀z,z < ae H->z∉aG vl->z≠3->∀w,aI (G.set 3 (ak ⟨4,0,[[.q0 d,v,vj,vi]]⟩)) z w=aI H z w:=fun z c I M w=>by rw[aS (ait M),g.2 z c I]
 have s:aI G 3 0=ak ⟨4,0,[[.q0 d,vl,vj,vi]]⟩:=by rw[g.2 3 aD (fun b=>by have:=ge 3 b;omega)];exact h.o3
 have m:∀{k u} {o:List (List AV)},Acc 4 H k u o->(∀z,z∈aG vl->z∉aG u)->Acc 4 (G.set 3 (ak ⟨4,0,[[.q0 d,v,vj,vi]]⟩)) k u o:=fun {k u o} f j =>
  (f.aQ g (fun z a b=>j z b a)).hZ aR;have n:∀u,(∀z,z∈aG vl->z∉aG u)->(∀z,z∈aG u->z < ae H)->∀z,z∈aG v->z∉aG u:=fun u j l z a f=>by
  rcases p z a with c | c
  .exact j z c f
  .have:=l z f;omega
 refine ⟨v,G,t,⟨W,A,B⟩,s,⟨?_,?_,?_,bn (aP s),fun q O=>?_,aii ▸ X.hZ aR,m h.aj h.uZ,m h.ai h.uY,m h.ap h.w9,
  n _ h.uZ (fun z a=>(h.aj.ge z a).2),n _ h.uY (fun z a=>(h.ai.ge z a).2),n _ h.w9 (fun z a=>(h.ap.ge z a).2),h.Hj,h.IL,h.w7⟩⟩
 .rw[e 0 aD (fun b=>by have:=ge 0 b;omega) aR];exact h.o0
 .rw[e 1 aD (fun b=>by have:=ge 1 b;omega) aR];exact h.o1
 .rw[e 2 aD (fun b=>by have:=ge 2 b;omega) aR];exact h.o2
 .have ⟨C,i,r,D,E,F⟩:=h.ox q O;refine ⟨C,by rw[e q (aP i) r aD];exact i,fun b=>?_,D,E,F⟩;rcases p q b with c | c
  .exact r c
  .have:=aP i;omega
def PrR.Ub (h:PrR H d vl vj vi L J Z x vp ps) (hL:ae J < 1000000) (y:Jp) :
  ∃v G,(∀K,bX 6 vj [dI y] H K=K v G)/\(bB v=aq/\v.cells=[v]/\dA v=aq)/\aI G 3 0=ak ⟨4,0,[[.q0 d,vl,vj,vi]]⟩/\PrR (G.set 3 (ak ⟨4,0,[[.q0 d,vl,v,vi]]⟩)) d vl v vi L (J++[y]) Z x vp ps:=by
 have T:=h.len;have ⟨v,G,W,A,j,V,s,B,C,D⟩:=h.aj.app T bW (dI y);have ge:=fun z c=>(h.aj.ge z c).1;have e:∀z,z < ae H->z∉aG vj->z≠3->∀w,aI (G.set 3 (ak ⟨4,0,[[.q0 d,vl,v,vi]]⟩)) z w=aI H z w:=fun z g N O w=>by rw[aS (ait O),j.2 z g N]
 have X:aI G 3 0=ak ⟨4,0,[[.q0 d,vl,vj,vi]]⟩:=by rw[j.2 3 aD (fun f=>by have:=ge 3 f;omega)];exact h.o3
 have o:∀{k u} {r:List (List AV)},Acc 4 H k u r->(∀z,z∈aG vj->z∉aG u)->Acc 4 (G.set 3 (ak ⟨4,0,[[.q0 d,vl,v,vi]]⟩)) k u r:=fun {k u r} i m =>
  (i.aQ j (fun z c f=>m z f c)).hZ aR;have p:∀u,(∀z,z∈aG vj->z∉aG u)->(∀z,z∈aG u->z < ae H)->∀z,z∈aG v->z∉aG u:=fun u m n z c i=>by
  rcases s z c with g | g
  .exact m z g i
  .have:=n z i;omega
 refine ⟨v,G,W,⟨B,C,D⟩,X,⟨?_,?_,?_,bn (aP X),fun q U=>?_,o h.al (fun z a b=>h.uZ z b a),aii ▸ A.hZ aR,o h.ai h.Hj,o h.ap h.IL,(fun z R S=>p _ (fun z a b=>h.uZ z b a) (fun z c=>(h.al.ge z c).2) z S R),h.uY,h.w9,p _ h.Hj (fun z c=>(h.ai.ge z c).2),p _ h.IL (fun z c=>(h.ap.ge z c).2),h.w7⟩⟩
 .rw[e 0 aD (fun f=>by have:=ge 0 f;omega) aR];exact h.o0
 .rw[e 1 aD (fun f=>by have:=ge 1 f;omega) aR];exact h.o1
 .rw[e 2 aD (fun f=>by have:=ge 2 f;omega) aR];exact h.o2
 .have ⟨E,l,F,t,I,M⟩:=h.ox q U;refine ⟨E,by rw[e q (aP l) t aD];exact l,F,fun f=>?_,I,M⟩;rcases s q f with g | g
  .exact t g
  .have:=aP l;omega
def PrR.Ud (h:PrR H d vl vj vi L J Z x vp ps) (hL:ae Z < 1000000) (y:Zn) :
  ∃v G,(∀K,bX 3 vi [iF y] H K=K v G)/\(bB v=aq/\v.cells=[v]/\dA v=aq)/\aI G 3 0=ak ⟨4,0,[[.q0 d,vl,vj,vi]]⟩/\PrR (G.set 3 (ak ⟨4,0,[[.q0 d,vl,vj,v]]⟩)) d vl vj v L J (Z++[y]) x vp ps:=by
 have T:=h.len;have ⟨v,G,B,C,j,V,X,D,E,F⟩:=h.ai.app T bW (iF y);have ge:=fun z c=>(h.ai.ge z c).1;have e:∀z,z < ae H->z∉aG vi->z≠3->∀w,aI (G.set 3 (ak ⟨4,0,[[.q0 d,vl,vj,v]]⟩)) z w=aI H z w:=fun z g R S w=>by rw[aS (ait S),j.2 z g R]
 have A:aI G 3 0=ak ⟨4,0,[[.q0 d,vl,vj,vi]]⟩:=by rw[j.2 3 aD (fun f=>by have:=ge 3 f;omega)];exact h.o3
 have r:∀{k u} {t:List (List AV)},Acc 4 H k u t->(∀z,z∈aG vi->z∉aG u)->Acc 4 (G.set 3 (ak ⟨4,0,[[.q0 d,vl,vj,v]]⟩)) k u t:=fun {k u t} i o =>
  (i.aQ j (fun z c f=>o z f c)).hZ aR;have s:∀u,(∀z,z∈aG vi->z∉aG u)->(∀z,z∈aG u->z < ae H)->∀z,z∈aG v->z∉aG u:=fun u o p z c i=>by
  rcases X z c with g | g
  .exact o z g i
  .have:=p z i;omega
 refine ⟨v,G,B,⟨D,E,F⟩,A,⟨?_,?_,?_,bn (aP A),fun q U=>?_,r h.al (fun z a b=>h.uY z b a),r h.aj (fun z a b=>h.Hj z b a),aii ▸ C.hZ aR,r h.ap h.w7,h.uZ,(fun z m n=>s _ (fun z a b=>h.uY z b a) (fun z c=>(h.al.ge z c).2) z n m),h.w9,(fun z m n=>s _ (fun z a b=>h.Hj z b a) (fun z c=>(h.aj.ge z c).2) z n m),h.IL,s _ h.w7 (fun z c=>(h.ap.ge z c).2)⟩⟩
 .rw[e 0 aD (fun f=>by have:=ge 0 f;omega) aR];exact h.o0
 .rw[e 1 aD (fun f=>by have:=ge 1 f;omega) aR];exact h.o1
 .rw[e 2 aD (fun f=>by have:=ge 2 f;omega) aR];exact h.o2
 .have ⟨I,l,M,N,W,O⟩:=h.ox q U;refine ⟨I,by rw[e q (aP l) W aD];exact l,M,N,fun f=>?_,O⟩;rcases X q f with g | g
  .exact W g
  .have:=aP l;omega
def PrR.ab9 (h:PrR H d vl vj vi L J Z (ak q) vp ps) (hL:ae ps < 1000000) (y:Int × Int) :
  ∃v G,(∀K,bX 2 vp [sD y] H K=K v G)/\(bB v=aq/\v.cells=[v]/\dA v=aq)/\aI G q 0=ak ⟨1,0,[[vp]]⟩/\PrR (G.set q (ak ⟨1,0,[[v]]⟩)) d vl vj vi L J Z (ak q) v (ps++[y]):=by
 have U:=h.len;have ⟨O,i,t,X,W,A⟩:=h.ox q rfl;have ⟨v,G,E,F,g,a4,s,I,M,N⟩:=h.ap.app U bW (sD y);have ge:=fun z a=>(h.ap.ge z a).1;have e:∀z,z < ae H->z∉aG vp->z≠q->∀w,aI (G.set q (ak ⟨1,0,[[v]]⟩)) z w=aI H z w:=fun z c R S w=>by rw[aS (ait S),g.2 z c R]
 have B:aI G q 0=ak ⟨1,0,[[vp]]⟩:=by rw[g.2 q (aP i) A];exact i
 have C:∀{k u} {f:List (List AV)},Acc 4 G k u f->q∉aG u->Acc 4 (G.set q (ak ⟨1,0,[[v]]⟩)) k u f:=fun {k u f} o n =>
  o.aQ (ids:=[q]) (aL.write aO (fun j T w=>aS (ait T))) (fun z a b=>by simp at b;subst b;exact n a);have p:∀{k u} {f:List (List AV)},Acc 4 H k u f->(∀z,z∈aG u->z∉aG vp)->q∉aG u->Acc 4 (G.set q (ak ⟨1,0,[[v]]⟩)) k u f:=fun {k u f} o l n =>
  C (o.aQ g (fun z a b=>l z a b)) n;have r:∀u,(∀z,z∈aG u->z∉aG vp)->(∀z,z∈aG u->z < ae H)->∀z,z∈aG u->z∉aG v:=fun u l m z a hv=>by
  rcases s z hv with c | c
  .exact l z a c
  .have:=m z a;omega
 have D:q∉aG v:=fun b=>by
  rcases s q b with c | c
  .exact A c
  .have:=aP i;omega
 refine ⟨v,G,E,⟨I,M,N⟩,B,⟨?_,?_,?_,?_,fun q' V=>?_,p h.al h.w9 t,p h.aj h.IL X,p h.ai h.w7 W,aii ▸ C F D,h.uZ,h.uY,
  r _ h.w9 (fun z a=>(h.al.ge z a).2),h.Hj,r _ h.IL (fun z a=>(h.aj.ge z a).2),r _ h.w7 (fun z a=>(h.ai.ge z a).2)⟩⟩
 .rw[e 0 aD (fun b=>by have:=ge 0 b;omega) aD];exact h.o0
 .rw[e 1 aD (fun b=>by have:=ge 1 b;omega) aD];exact h.o1
 .rw[e 2 aD (fun b=>by have:=ge 2 b;omega) aD];exact h.o2
 .rw[e 3 aD (fun b=>by have:=ge 3 b;omega) aD];exact h.o3
 .cases V;exact ⟨O,bn (aP B),t,X,W,D⟩
end
def qO (h:mM l m):bf (.agg l) (.agg m):=by intro I β v k;obtain ⟨y,rfl,x⟩:=k.vC;exact Rel.Cl (h.Vs x)
def F4 (h:mM l m):bf (.bM l) (.bM m):=by
 intro I β v z;cases z with
 | bM x y =>
  have k:=h.Vs ⟨x,y⟩;exact .bM k.1 k.2
def HE:∀l:List AV,mM l l
 | [] => .nil
 | _::l => .cons (bf.refl _) (HE l)
structure CL (n0:Nat) (H:aF) (va vb vc vd:AV) (ka kb kc kd:Nat) (A B C D:List (List AV)):Prop where
 a:Acc n0 H ka va A
 b:Acc n0 H kb vb B
 c:Acc n0 H kc vc C
 d:Acc n0 H kd vd D
 ab:∀id,id∈aG va->id∉aG vb
 ac:∀id,id∈aG va->id∉aG vc
 ad:∀id,id∈aG va->id∉aG vd
 bc:∀id,id∈aG vb->id∉aG vc
 bd:∀id,id∈aG vb->id∉aG vd
 cd:∀id,id∈aG vc->id∉aG vd
section
variable {n0:Nat} {H:aF} {va vb vc vd:AV} {ka kb kc kd:Nat} {A B C D:List (List AV)}
def CL.Ly (h:CL n0 H va vb vc vd ka kb kc kd A B C D) (cA:A.all (fun x=>x.all bT)=aq) (cB:B.all (fun x=>x.all bT)=aq) (cC:C.all (fun x=>x.all bT)=aq) (cD:D.all (fun x=>x.all bT)=aq) :
  ∃H2 R,WkS n H H2 R/\(∀x:Value,R (.agg [.c x,va,vb,vc]) (.agg [.c x,.seq ka ar A,.seq kb ar B,.seq kc ar C])) /\
   (∀(x:Value) (ys:List Value),R (.bM (.agg [.c x,va,vb,vc]::vd::ys.map .c)) (.bM (.agg [.c x,.seq ka ar A,.seq kb ar B,.seq kc ar C] :: .seq kd ar D::ys.map .c))):=by
 have J:=h.b.Ku h.a h.ab;have c1:=h.c.Ku h.a h.ac;have d1:=h.d.Ku h.a h.ad;have T:=c1.Ku J h.bc;have d2:=d1.Ku J h.bd;have d3:=d2.Ku T h.cd;have ⟨tA,o,K,O⟩:=h.a.Nm;have ⟨tB,F,g,iB⟩:=h.b.Nm;have ⟨tC,nC,e,iC⟩:=h.c.Nm;have ⟨tD,nD,z,iD⟩:=h.d.Nm;have W:∀(v:AV) f (x:Value),cW v f (.c x) = .c x:=fun v f x=>jI (fun m _ k=>by simp[aG] at k);have U:∀x,oQ va A (.agg [.c x,va,vb,vc]) = .agg [.c x,cW va A va,vb,vc]:=fun x=>by simp only[oQ,aiS,ajE,W,jI h.ab,jI h.ac]
 have V:∀x,oQ vb B (.agg [.c x,cW va A va,vb,vc]) = .agg [.c x,cW va A va,cW vb B vb,vc]:=fun x=>by simp only[oQ,aiS,ajE,W,jI h.bc,jI (v:=vb) (u:=cW va A va) (fun m _ k=>by rw[O] at k;simp at k)]
 have e3:∀x,oQ vc C (.agg [.c x,cW va A va,cW vb B vb,vc]) = .agg [.c x,cW va A va,cW vb B vb,cW vc C vc]:=fun x=>by simp only[oQ,aiS,ajE,W,jI (v:=vc) (u:=cW va A va) (fun m _ k=>by rw[O] at k;simp at k),jI (v:=vc) (u:=cW vb B vb) (fun m _ k=>by rw[iB] at k;simp at k)]
 have e4:∀x,oQ vd D (.agg [.c x,cW va A va,cW vb B vb,cW vc C vc]) = .agg [.c x,cW va A va,cW vb B vb,cW vc C vc]:=fun x=>by simp only[oQ,aiS,ajE,W,jI (v:=vd) (u:=cW va A va) (fun m _ k=>by rw[O] at k;simp at k),jI (v:=vd) (u:=cW vb B vb) (fun m _ k=>by rw[iB] at k;simp at k),jI (v:=vd) (u:=cW vc C vc) (fun m _ k=>by rw[iC] at k;simp at k)]
 have t:∀(v u:AV) (f:List (List AV)),iY u=aq->oQ v f u=cW v f u:=fun v u f E=>by cases u<;>first | rfl | simp[iY] at E
 have w:=((((h.a.Ly (n:=n) cA).trans (J.Ly (n:=n) cB)).trans (T.Ly (n:=n) cC)).trans (d3.Ly (n:=n) cD)).trans (qS n _);have ta:∀x,bf (.agg [.c x,cW va A va,cW vb B vb,cW vc C vc]) (.agg [.c x,.seq ka ar A,.seq kb ar B,.seq kc ar C]):=fun x =>
  qO (.cons (bf.refl _) (.cons tA (.cons tB (.cons tC .nil))));have f0:∀x:Value,iY (.c x)=aq:=fun _=>rfl;have n1:∀u,iY u=aq->wN u=aq:=fun u E=>by cases u<;>first | exact E | simp[iY] at E
 have na:∀(x:Value) (p q r:AV),iY p=aq->iY q=aq->iY r=aq->wN (.agg [.c x,p,q,r])=aq:=fun x p q r L M N=>by show [AV.c x,p,q,r].all iY=aq;simp only[ais,ajd,f0,L,M,N,aiM]
 have i:∀(x:Value) (p q r:AV),iY p=aq->iY q=aq->iY r=aq->Jw (.agg [.c x,p,q,r])=aq:=na;have G:∀(x:Value) (ys:List Value) (p q r s:AV),iY p=aq->iY q=aq->iY r=aq->iY s=aq->Jw (.bM (.agg [.c x,p,q,r]::s::ys.map .c))=aq:=fun x ys p q r s L M N hs=>by
  show (AV.agg [.c x,p,q,r]::s::ys.map .c).all wN=aq;have hy:(ys.map AV.c).all wN=aq:=by rw[aj6,ah4];exact fun _ _=>rfl
  simp only[ais,hy,na x p q r L M N,n1 s hs,aiM]
 refine ⟨_,_,w,fun x=>?_,fun x ys=>?_⟩
 .have j:oR va A (.agg [.c x,va,vb,vc]) = .agg [.c x,cW va A va,vb,vc]:=U x;have l:oR vb B (.agg [.c x,cW va A va,vb,vc]) = .agg [.c x,cW va A va,cW vb B vb,vc]:=V x;have X:oR vc C (.agg [.c x,cW va A va,cW vb B vb,vc]) = .agg [.c x,cW va A va,cW vb B vb,cW vc C vc]:=e3 x;have S:oR vd D (.agg [.c x,cW va A va,cW vb B vb,cW vc C vc]) = .agg [.c x,cW va A va,cW vb B vb,cW vc C vc]:=e4 x;refine ⟨_,⟨_,⟨_,⟨_,⟨i _ _ _ _ K g e,rfl⟩,?_,rfl⟩,?_,rfl⟩,?_,rfl⟩,?_⟩
  .rw[j];exact i _ _ _ _ o g e
  .rw[j,l];exact i _ _ _ _ o F e
  .rw[j,l,X];exact i _ _ _ _ o F nC
  .rw[j,l,X,S];exact ta x
 .have I:∀(v:AV) f,(ys.map AV.c).map (oQ v f)=ys.map AV.c:=fun v f=>by rw[amO];exact ajh fun y _=>(t v (.c y) f rfl).trans (W v f y)
  have j:oR va A (.bM (.agg [.c x,va,vb,vc]::vd::ys.map .c)) = .bM (.agg [.c x,cW va A va,vb,vc]::vd::ys.map .c):=by simp only[oR,aiS,U,t va vd A z,jI h.ad,I]
  have l:oR vb B (.bM (.agg [.c x,cW va A va,vb,vc]::vd::ys.map .c)) = .bM (.agg [.c x,cW va A va,cW vb B vb,vc]::vd::ys.map .c):=by simp only[oR,aiS,V,t vb vd B z,jI h.bd,I]
  have X:oR vc C (.bM (.agg [.c x,cW va A va,cW vb B vb,vc]::vd::ys.map .c)) = .bM (.agg [.c x,cW va A va,cW vb B vb,cW vc C vc]::vd::ys.map .c):=by simp only[oR,aiS,e3,t vc vd C z,jI h.cd,I]
  have S:oR vd D (.bM (.agg [.c x,cW va A va,cW vb B vb,cW vc C vc]::vd::ys.map .c)) = .bM (.agg [.c x,cW va A va,cW vb B vb,cW vc C vc]::cW vd D vd::ys.map .c):=by simp only[oR,aiS,e4,t vd vd D z,I]
  refine ⟨_,⟨_,⟨_,⟨_,⟨G _ _ _ _ _ _ K g e z,rfl⟩,?_,rfl⟩,?_,rfl⟩,?_,rfl⟩,?_⟩
  .rw[j];exact G _ _ _ _ _ _ o g e z
  .rw[j,l];exact G _ _ _ _ _ _ o F e z
  .rw[j,l,X];exact G _ _ _ _ _ _ o F nC z
  .rw[j,l,X,S];exact F4 (.cons (ta x) (.cons tD (HE _)))
def CL.fin (h:CL n0 H va vb vc vd ka kb kc kd A B C D) (k:A.all (fun x=>x.all bT)=aq) (y:B.all (fun x=>x.all bT)=aq) (cC:C.all (fun x=>x.all bT)=aq) (z:D.all (fun x=>x.all bT)=aq) (x:Value) (ys:List Value) :
  Fin 0 (.bM (.agg [.c x,va,vb,vc]::vd::ys.map .c)) H (.bM (.agg [.c x,.seq ka ar A,.seq kb ar B,.seq kc ar C] :: .seq kd ar D::ys.map .c)) []:=by
 have ⟨e,R,a,_,w⟩:=h.Ly (n:=0) k y cC z;exact Fin.trans ⟨R,a,w x ys⟩ (jK (by
  have b:(ys.map AV.c).all (qF 0)=aq:=by rw[aj6,ah4];exact fun _ _=>rfl
  simp only[jO,ais,b,aiM];rfl))
def CL.borrow (h:CL n0 H va vb vc vd ka kb kc kd A B C D) (z:A.all (fun x=>x.all bT)=aq) (w:B.all (fun x=>x.all bT)=aq) (cC:C.all (fun x=>x.all bT)=aq) (b:D.all (fun x=>x.all bT)=aq)
  (g:bg P f [.agg [.c x,.seq ka ar A,.seq kb ar B,.seq kc ar C]] (.c v)):bR P f [.agg [.c x,va,vb,vc]] H (.c v) H:=by
 have ⟨l,R,i,e,_⟩:=h.Ly (n:=ae H) z w cC b;refine bg.borrow g rfl i rfl fun j a m k y=>?_
 match j with
 | 0=>simp at k y;subst k y;exact e x
 | j+1=>simp at k
end
def RXL (e:Env) (H:aF) (Post:AV->aF->Prop):List AV->List jZ->Prop
 | vs,[]=>Post (Ac vs) H
 | vs,.t n::r=>RXL e H Post (vs++[lk n e]) r
 | vs,.cell n ag k::r=>LdP ag k (lk n e) H fun v=>RXL e H Post (vs++[v]) r
def RXK (e:Env) (H:aF) (Post:AV->aF->Prop) (vs:List AV) (r:List jZ):AV->Prop:=fun v=>RXL e H Post (vs++[v]) r
def rxK {e:Env} {H:aF} {Post:AV->aF->Prop} {vs:List AV} {r:List jZ} {v:AV}:RXK e H Post vs r v=RXL e H Post (vs++[v]) r:=(rfl)
def ahb {e:Env} {H:aF} {Post:AV->aF->Prop} {vs:List AV}:RXL e H Post vs []=Post (Ac vs) H:=(rfl)
def ahc {e:Env} {H:aF} {Post:AV->aF->Prop} {vs:List AV} {r:List jZ} {n:Nat}:RXL e H Post vs (.t n::r)=RXL e H Post (vs++[lk n e]) r:=(rfl)
def aha {e:Env} {H:aF} {Post:AV->aF->Prop} {vs:List AV} {r:List jZ} {n k:Nat} {ag:Bool}:RXL e H Post vs (.cell n ag k::r)=LdP ag k (lk n e) H (RXK e H Post vs r):=(rfl)
def afO:Ac (x::y::l) = .bM (x::y::l):=(rfl)
attribute [go_sem] rxK ahb ahc aha afO
def DQ {e:Env} {H:aF} {Post:AV->aF->Prop}:∀(h:List jZ) (vs:List AV),bO (ng e H h) (fun x=>Post (Ac (vs++x)) H)=RXL e H Post vs h
 | [],vs=>by simp[ng,bO,RXL]
 | .t n::r,vs=>by rw[RXL,<-DQ r];simp only[ng,DP,aix,zW];simp
 | .cell n ag k::r,vs=>by rw[RXL];simp only[ng,LL,Sn,kC];congr 1;funext v;rw[<-DQ r,zW];simp
def FP {e:Env} {H:aF} {Post:AV->aF->Prop} {h:List jZ}:ES e H h Post=RXL e H Post [] h:=by rw[<-DQ];rfl
def Cx {e:Env} {H:aF} {k:List jZ} {n:Nat} {r:AV} {h:aF}:xN e H k n r h=RXL e H (fun v G=>Fin n v G r h) [] k:=by rw[<-DQ];rfl
def e9 {H:aF} {a b v:Nat} {o:Option bz} {K:bz->Prop} (h:a≠b):bk (H.set a o) b v K=bk H b v K:=by unfold bk;rw[aS h]
def Hz {H:aF} {a k v:Nat} {xs:List (List AV)} {K:bz->Prop} (h:a < ae H):bk (H.set a (ak ⟨k,v,xs⟩)) a v K=K ⟨k,v,xs⟩:=aK (bn h) K
def PrR.four {H:aF} {d:Int} {vl vj vi vp:AV} {L:List Lc} {J:List Jp} {Z:List Zn} {x:Option Nat} {ps:List (Int × Int)} (h:PrR H d vl vj vi L J Z x vp ps) :
  CL 4 H vl vj vi vp 4 6 3 2 (L.map iy) (J.map dI) (Z.map iF) (ps.map sD):=⟨h.al,h.aj,h.ai,h.ap,h.uZ,h.uY,h.w9,h.Hj,h.IL,h.w7⟩
def jW (A:Au) (ps:List (Int × Int)):AV := .bM [.agg (c9 A),.seq 2 ar (ps.map sD),.c (.int .i64 0)]
def B8:AV := .bM [.agg (c9 ⟨0,[],[],[]⟩),.seq 2 ar [],.c (.int .i64 3)]
def Gm {H:aF}:Fin 0 (.bM [.agg [.q0 0,.nil,.nil,.nil],.nil,.q0 3]) H B8 [] :=
 (j6 (m:=0) (ahZ _) aO rfl).trans (A3 (F4 (.cons (qO (.cons (bf.refl _) (.cons (eW 4) (.cons (eW 6) (.cons (eW 3) .nil))))) (.cons (eW 2) (.cons (bf.refl _) .nil)))))
section
variable {C:Ctx (Option Nat)} {H:aF} {d:Int} {vl vj vi vp:AV} {L:List Lc} {J:List Jp} {Z:List Zn} {ps:List (Int × Int)}
abbrev Qj (R:AV):Option Nat->cx:=fun _=>iZ [.cell 2 aq 4,.cell 3 ar 1,.cell 4 ar 1] fun r G=>Fin 0 r G R []
def Ri (h:PrR H d vl vj vi L J Z (ak q) vp ps) (hv:bg prog 27 [.agg (c9 ⟨d,L,J,Z⟩)] (.v0 bv)) (p:Env) :
  WPJ prog C 148 Y0 (RM prog 148) pU (Qj (if bv then jW ⟨d,L,J,Z⟩ ps else B8)) s ((2,.ptr 0 0 0 0)::(3,.ptr 1 0 0 0)::(4,.ptr 2 0 0 0)::(5,.ptr 3 0 0 0)::(10,.ptr q 0 0 0)::p) H:=by
 refine LU ?_;have i:=aK h.o3;have wl:=h.al.cell;have t:=h.aj.cell;have wi:=h.ai.cell;have wp:=h.ap.cell;refine Y1 i ?_;refine dS (h.four.borrow (Pn _) (Pj _) (Qg _) (NI _) hv) ?_;have o0:=aK h.o0;have o1:=aK h.o1;have o2:=aK h.o2;have o:=fun K=>aK (h.ox q rfl).2.1 K;have j:=aP h.o0;have l1:=aP h.o1;have l:=aP h.o2;have x:(0:Nat)≠1:=aR;have y:(0:Nat)≠2:=aR;have z:(1:Nat)≠0:=aR;have w:(1:Nat)≠2:=aR;have e:(2:Nat)≠0:=aR;have f:(2:Nat)≠1:=aR;cases bv with
 | true =>
  simp only[go_sem,↓reduceIte,ahZ,ajl,V5,i,o,wl,t,wi,wp,o0,o1,o2,e9 x,e9 y,e9 z,e9 w,e9 e,e9 f,Hz,ah8,j,l1,l,FP];have m:∀G:aF,ae G=ae H->(G.drop (ae H)).all (cg (ae H))=aq:=fun G v=>by rw[aih aD];rfl
  have g:∀{k u} {n:List (List AV)} (a b c:Option bz),Acc 4 H k u n->Acc 4 (((H.set 0 a).set 1 b).set 2 c) k u n:=fun a b c r=>((r.hZ aR).hZ aR).hZ aR;refine ⟨m _ aO,m _ aO,cn ((h.ox q rfl).1),?_⟩;exact CL.fin (n0:=4) ⟨g _ _ _ h.al,g _ _ _ h.aj,g _ _ _ h.ai,g _ _ _ h.ap,h.uZ,h.uY,h.w9,h.Hj,h.IL,h.w7⟩ (Pn _) (Pj _) (Qg _) (NI _) _ [_]
 | false =>
  simp only[go_sem,↓reduceIte,ahZ,aja,ah5,o0,o1,o2,e9 x,e9 y,e9 z,e9 w,e9 e,e9 f,Hz,ah8,j,l1,l,FP];exact Gm
structure yV (a:Au) (m:Nat):Prop where
 bA:a.bA=m
 lt:m<=100
 aJ:a.aJ.length<=100
 FD:∀x,x∈a.aJ->mC x.inv.l/\mC x.dy.l
 aN:a.aN.length<=100
 Wn:JIn a
 init:a.init.length<=100
 Fv:∀x,x∈a.init->mC x.set.l/\0<=x.loc/\x.loc < 1000000
def FI (b:Au) (m k:Nat) (x y:Zn):Zn:=⟨x.loc*(ae b.aJ:Int)+y.loc,eK m k x.set.l y.set.l⟩
def rR (a b:Au) (m k i:Nat):List Zn:=(a.init.take i).flatMap fun x=>b.init.map (FI b m k x)
def TP (a b:Au) (m k:Nat):rR a b m k (ae a.init)=iE a b m k:=by unfold rR iE;rw[aiK];rfl
def lg {α:Type} [Inhabited α] {l:List α} {i:Nat} (h:i < ae l):l.take (i+1)=l.take i++[af l i ah]:=by rw[aiT h];simp[af,h]
def J8 (h:i < ae a.init):rR a b m k (i+1)=rR a b m k i++b.init.map (FI b m k (af a.init i ah)):=by unfold rR;rw[lg h,ak5];simp
def L0 (a b:Au) (m k:Nat):∀i,ae (rR a b m k i)<=i*ae b.init
 | 0=>by simp[rR]
 | i+1=>by
  have:=L0 a b m k i;by_cases h:i < ae a.init
  .rw[J8 h,ain,ah3,aiW];omega
  .have e:rR a b m k (i+1)=rR a b m k i:=by unfold rR;rw[aiv aD,aiv aD]
   rw[e,aiW];omega
def lO {k id v i o:Nat} {H:aF} {cs:List AV} (h:id < ae H):bf (dD (ae H) 0 k [cs] (.ptr id v i o)) (.ptr id v i o):=by
 have:dD (ae H) 0 k [cs] (.ptr id v i o) = .ptr id v i o:=by simp[dD,qB,fm];omega
 rw[this];exact bf.refl _
def zZ (z:4<=ae H) (y:∀id ver k xs,dD id ver k xs p=p) (x:s5 (fun a b=>bf (dD (ae H) 0 k [cs] a) b) e h) :
  s5 (fun a b=>bf (dD (ae H) 0 k [cs] a) b) ((1,p)::(2,.ptr 0 0 0 0)::(3,.ptr 1 0 0 0)::(4,.ptr 2 0 0 0)::(5,.ptr 3 0 0 0)::e) ((1,p)::(2,.ptr 0 0 0 0)::(3,.ptr 1 0 0 0)::(4,.ptr 2 0 0 0)::(5,.ptr 3 0 0 0)::h) :=
 .cons (by rw[y];exact bf.refl _) (.cons (lO aD) (.cons (lO aD) (.cons (lO aD) (.cons (lO aD) x))))
def Rh (S:ROk prog C 148 (RM prog 148)) {a b:Au} {m k:Nat} {l:List Int} {fl:Bool} (f:yV a m) (z:yV b k) {s:Option Nat} {q:Nat} {vi:AV} (h:PrR H d vl vj vi L J [] (ak q) vp ps) {bv:Bool} (hv:bg prog 27 [.agg (c9 ⟨d,L,J,iE a b m k⟩)] (.v0 bv)) (er:Env) :
  WPJ prog C 148 Y0 (RM prog 148) pT (Qj (if bv then jW ⟨d,L,J,iE a b m k⟩ ps else B8)) s ((1,.fp (gN a b l fl) 0)::(2,.ptr 0 0 0 0)::(3,.ptr 1 0 0 0)::(4,.ptr 2 0 0 0)::(5,.ptr 3 0 0 0)::(10,.ptr q 0 0 0)::er) H:=by
 refine LU ?_;generalize X:(if bv then jW ⟨d,L,J,iE a b m k⟩ ps else B8)=RR;refine Y ?_;refine lQ J7 S (fun n R e H=>R=s/\∃(i:Nat) (vi:AV),i<=ae a.init/\n=ae a.init - i/\PrR H d vl vj vi L J (rR a b m k i) (ak q) vp ps /\
  e=[(1,.fp (gN a b l fl) 0),(2,.ptr 0 0 0 0),(3,.ptr 1 0 0 0),(4,.ptr 2 0 0 0),(5,.ptr 3 0 0 0),(10,.ptr q 0 0 0),(106,.seq 3 ar (a.init.map iF)),(107,.q0 (ae a.init:Int)),(108,.q0 (i:Int))]) (n:=ae a.init) ⟨rfl,0,vi,aD,rfl,h,rfl⟩ ?_;clear h vi;rintro n R _ H ⟨rfl,i,vi,hi,a0,h,rfl⟩;by_cases p:(i:Int) < (ae a.init:Int)
 .have e1:au .i64 ((i:Int)+1)=((i+1:Nat):Int):=by have:=f.init;rw[wrap_i64 (by omega) (by omega)];rfl
  have F:af a.init i ah∈a.init:=bS aD;have O:=J8 (b:=b) (m:=m) (k:=k) (show i < ae a.init by omega);have ⟨D,E⟩:=f.Fv _ F;generalize hx:af a.init i ah=x at *;refine Y2 p hx ?_;refine ⟨aD,[(1,.fp (gN a b l fl) 0),(2,.ptr 0 0 0 0),(3,.ptr 1 0 0 0),(4,.ptr 2 0 0 0),(5,.ptr 3 0 0 0),(10,.ptr q 0 0 0),(13,.fp (iF x) 0),(106,.seq 3 ar (a.init.map iF)),(107,.q0 (ae a.init:Int)),(108,.q0 (i:Int))],H++[an],?_,?_⟩
  .exact gQ (cs:=iF x) rfl (zZ h.len (fun _ _ _ _=>rfl) (.cons (lO (aP (h.ox q rfl).2.1)) (.cons fL (.cons (bf.refl _) (.cons (bf.refl _) (.cons (bf.refl _) .nil))))))
  refine Y ?_;have w:=h.aQ (aL.app H [an] []);refine lQ J7 S (fun n r e H=>r=R/\∃(j:Nat) (vi:AV),j<=ae b.init/\n=ae b.init - j/\PrR H d vl vj vi L J (rR a b m k i++(b.init.take j).map (FI b m k x)) (ak q) vp ps /\
   e=[(1,.fp (gN a b l fl) 0),(2,.ptr 0 0 0 0),(3,.ptr 1 0 0 0),(4,.ptr 2 0 0 0),(5,.ptr 3 0 0 0),(10,.ptr q 0 0 0),(13,.fp (iF x) 0),(106,.seq 3 ar (a.init.map iF)),(107,.q0 (ae a.init:Int)),(108,.q0 (i:Int)),
    (114,.seq 3 ar (b.init.map iF)),(115,.q0 (ae b.init:Int)),(116,.q0 (j:Int))]) (n:=ae b.init) ⟨rfl,0,vi,aD,rfl,bu w,rfl⟩ ?_;clear h w vi;rintro n2 r _ H ⟨rfl,j,vi,hj,a2,h,rfl⟩;by_cases g:(j:Int) < (ae b.init:Int)
  .have e2:au .i64 ((j:Int)+1)=((j+1:Nat):Int):=by have:=z.init;rw[wrap_i64 (by omega) (by omega)];rfl
   have N:af b.init j ah∈b.init:=bS aD;have B:b.init.take (j+1)=b.init.take j++[af b.init j ah]:=lg aD;have ⟨I,M⟩:=z.Fv _ N;generalize hy:af b.init j ah=y at *;have w:=h.aQ (aL.app H [an] []);have o:ae (rR a b m k i++(b.init.take j).map (FI b m k x)) < 1000000:=by have q1:=L0 a b m k i;have q3:=z.init;have q2:i*ae b.init<=100*100:=akp (cn f.init) z.init;simp;omega
   have ⟨T,G,U,cv,g3,h2⟩:=w.Ud o (FI b m k x y);have V:∀K,bk (H++[an]) 3 0 K=K ⟨4,0,[[.q0 d,vl,vj,vi]]⟩:=aK w.o3;have v:∀K,bk G 3 0 K=K ⟨4,0,[[.q0 d,vl,vj,vi]]⟩:=aK g3;have wi:=h.ai.cell;have t:∀K,bX 3 vi [[.q0 (x.loc*(ae b.aJ:Int)+y.loc),.c (.int .i64 (eK m k x.set.l y.set.l).n),.seq 3 ar ((eK m k x.set.l y.set.l).l.map cC)]] (H++[an]) K=K T G:=U;refine Y2 g hy ?_;refine ⟨aD,[(1,.fp (gN a b l fl) 0),(2,.ptr 0 0 0 0),(3,.ptr 1 0 0 0),(4,.ptr 2 0 0 0),(5,.ptr 3 0 0 0),(10,.ptr q 0 0 0),(13,.fp (iF x) 0),(15,.fp (iF y) 0),(106,.seq 3 ar (a.init.map iF)),(107,.q0 (ae a.init:Int)),(108,.q0 (i:Int)),
    (114,.seq 3 ar (b.init.map iF)),(115,.q0 (ae b.init:Int)),(116,.q0 (j:Int))],H++[an],?_,?_⟩
   .exact gQ (cs:=iF y) rfl (zZ h.len (fun _ _ _ _=>rfl) (.cons (lO (aP (h.ox q rfl).2.1)) (.cons (bf.refl _) (.cons fL (.cons (bf.refl _) (.cons (bf.refl _) (.cons (bf.refl _) (.cons (bf.refl _) (.cons (bf.refl _) (.cons (bf.refl _) .nil))))))))))
   refine Y1 V ?_;refine cY (Iw a b l fl x.loc y.loc E M (by have:=z.aJ;omega)) ?_;refine cX (tu a b l fl m k f.bA z.bA (by have:=f.lt;omega) (by have:=z.lt;omega) _ _ ar ar D I) ?_;refine Y4 t cv v e2 ?_;refine ⟨rfl,ae b.init - (j+1),aD,j+1,T,aD,rfl,?_,rfl⟩;rw[B,aii,<-aio];exact h2
  .have A:j=ae b.init:=aD;subst A;refine Y2 g e1 ?_;rw[aiK] at h;refine ⟨ae a.init - (i+1),aD,i+1,vi,aD,rfl,by rw[O];exact h,rfl⟩
 .have W:i=ae a.init:=aD;subst W;refine Y1 p ?_;rw[TP] at h;rw[<-X];exact Ri h hv _
end
def cR.ado {f:FuncId} {args:List AV} {H c:aF} {g:AV} {Post:AV->aF->Prop} (h:cR P f args H Post) (p:∀r G,Post r G->Fin (ae H) r G g c):bR P f args H g c:=by refine ⟨h.1,fun I β w W s y=>(h.2 I β w W s y).mono fun M A q=>?_⟩;have ⟨rv,r,i,j,E,e,B,K,t,x⟩:=q;obtain ⟨R,z,o⟩:=p r i x;obtain ⟨n,F,X,v,D⟩:=z j E A K;exact ⟨rv,n,F,e,D I β H w (ahZ _) s.jr B,X,v _ _ _ o t⟩
def Acc.fN {n0 k:Nat} {H:aF} {v:AV} {xs:List (List AV)} (h:Acc n0 H k v xs) (K:AV->Prop):gH v K=K (.q0 (ae xs:Int)):=by cases h<;>simp[gH,Kt,bO]
section
variable {C:Ctx (Option Nat)} {H:aF} {d:Int} {vl vj vi vp:AV} {L:List Lc} {J:List Jp} {Z:List Zn} {ps:List (Int × Int)} {a b:Au} {m k:Nat} {l:List Int} {fl:Bool}
def TX (a b:Au) (m k:Nat) (d:Int) (vl:AV) (L:List Lc) (q:Nat) (pre:List Lp) (H:aF):Prop:=∃vj vp,PrR H d vl vj .nil L (pre.map (eC a b m k)) [] (ak q) vp (pre.map gp)/\ae pre<=40
def We (W:List Lp) (H:aF):Prop:=aI H 0 0=ak ⟨4,0,[[.c (.int .i64 0),.nil,.nil,.nil]]⟩/\aI H 1 0=ak ⟨1,0,[[.nil]]⟩/\aI H 2 0=ak ⟨1,0,[[.c (.int .i64 3)]]⟩/\40 < ae W
def Xo (w:yV a m) (c:yV b k) (h:x∈cz a b l):(-1<=x.i/\x.i < ae a.aN)/\(-1<=x.k/\x.k < ae b.aN):=by
 unfold cz at h;simp only[aiE,akT,ajv] at h;rcases h with (⟨i,z,h⟩ | ⟨i,z,h⟩) | ⟨i,z,h⟩
 .unfold qJ jA at h;split at h
  .simp at h
  .obtain ⟨j,y,rfl⟩:=aiw.1 h;simp only[yz];omega
 .unfold qK jB at h;split at h
  .simp at h
  .obtain ⟨j,y,rfl⟩:=aiw.1 h;simp only[yA];omega
 .unfold oW kt at h;obtain ⟨j,y,rfl⟩:=aiw.1 h;have:=(ajb.1 y).1;simp only[ajv] at this;simp only[yB];omega
def Rg (hR:ROk prog C 148 (RM prog 148)) (r:yV a m) (t:yV b k) (hl:ae l < 1000000) (h:PrR H d vl .nil .nil L [] [] an .nil [])
  (hv:ae (cz a b l)<=40->bg prog 27 [.agg (c9 ⟨d,L,(cz a b l).map (eC a b m k),iE a b m k⟩)] (.v0 bv)) (er:Env) :
  WPJ prog C 148 Y0 (RM prog 148) pS (Qj (if ae (cz a b l)<=40/\bv=aq then jW ⟨d,L,(cz a b l).map (eC a b m k),iE a b m k⟩ ((cz a b l).map gp) else B8)) an
   ((1,.fp (gN a b l fl) 0)::(2,.ptr 0 0 0 0)::(3,.ptr 1 0 0 0)::(4,.ptr 2 0 0 0)::(5,.ptr 3 0 0 0)::er) H:=by
 refine LU ?_;generalize E:(if ae (cz a b l)<=40/\bv=aq then jW ⟨d,L,(cz a b l).map (eC a b m k),iE a b m k⟩ ((cz a b l).map gp) else B8)=RR;refine Y ?_;refine cY (XU a b l fl) ?_;have hq:4<=ae H:=h.len;have S:TX a b m k d vl L (ae H) [] (H++[ak ⟨1,0,[[.seq 2 aq []]]⟩]):=by have j:=h.aQ (aL.app H [ak ⟨1,0,[[.seq 2 aq []]]⟩] []);refine ⟨.nil,.seq 2 aq [],⟨j.o0,j.o1,j.o2,j.o3,fun q hq=>?_,j.al,j.aj,j.ai,.sq,j.uZ,j.uY,fun id _ o=>by simp[aG] at o,j.Hj,fun id _ o=>by simp[aG] at o,fun id _ o=>by simp[aG] at o⟩,aO⟩;cases hq;exact ⟨hq,ct,fun o=>cn ((h.al.ge _ o).2),by simp[aG],by simp[aG],by simp[aG]⟩
 generalize b2:ae H=q at *;generalize H++[ak ⟨1,0,[[.seq 2 aq []]]⟩]=G at *;refine ⟨rfl,TX a b m k d vl L q (cz a b l),We (cz a b l),?_,?_,?_⟩
 .refine ⟨75,[.fp (gN a b l fl) 0],143,kj,rfl,(A9 (c:=kj) (by kernel_rfl) func75).1,aO,aO,aR,(A9 (c:=kj) (by kernel_rfl) func75).2,fun n=>YL n (cz a b l) (TX a b m k d vl L q) (We (cz a b l)),?_,?_⟩
  .rintro n s l' args w K ⟨rfl,rfl,pre,x,rfl,p,⟨vj,vp,g,y⟩,U,V⟩;refine ⟨rfl,rfl,_,rfl,?_⟩;have a2:x∈cz a b l:=p.subset aO;have ⟨a3,a4⟩:=Xo r t a2;have z:=g.aQ (aL.app w [ak ⟨4,0,[Cj x]⟩] []);have ⟨q1,q2,q3,q4,q5,q6⟩:=z.ox q rfl;have cq:∀K,bk (w++[ak ⟨4,0,[Cj x]⟩]) q 0 K=K ⟨1,0,[[vp]]⟩:=aK q2;have wp:=g.ap.cell;have lp:∀K,gH vp K=K (.q0 (ae pre:Int)):=fun K=>by rw[g.ap.fN K,ah3,ah3]
   by_cases W:(ae pre:Int)=40
   .have f:((ae pre:Int)=40)=True:=aiq W;have l0:0 < ae (w++[ak (⟨4,0,[Cj x]⟩:bz)]):=aP z.o0;have l1:1 < ae (w++[ak (⟨4,0,[Cj x]⟩:bz)]):=aP z.o1;have l2:2 < ae (w++[ak (⟨4,0,[Cj x]⟩:bz)]):=aP z.o2;have o0:∀K,bk (w++[ak ⟨4,0,[Cj x]⟩]) 0 0 K=K ⟨4,0,[[.q0 0,.nil,.nil,.nil]]⟩:=aK z.o0;have o1:∀K,bk (w++[ak ⟨4,0,[Cj x]⟩]) 1 0 K=K ⟨1,0,[[.nil]]⟩:=aK z.o1;have o2:∀K,bk (w++[ak ⟨4,0,[Cj x]⟩]) 2 0 K=K ⟨1,0,[[.q0 0]]⟩:=aK z.o2;have a8:(0:Nat)≠1:=aR;have a9:(0:Nat)≠2:=aR;have b0:(1:Nat)≠2:=aR;generalize hG:w++[ak (⟨4,0,[Cj x]⟩:bz)]=X at *;simp only[go_sem,↓reduceIte,ahZ,hG,cq,lp,f,ajH,o0,o1,o2,e9 a8,e9 a9,e9 b0];have a0:=p.length_le;rw[ain,amh] at a0;refine .inr ⟨rfl,V _ ⟨?_,?_,?_,aD⟩⟩
    .rw[aS aR,aS aR];exact bn l0
    .rw[aS aR];exact bn (bu l1)
    .exact bn (bu l2)
   .have f:((ae pre:Int)=40)=False:=aie W;refine Z3 cq lp f ?_;refine ⟨[(1,.fp (gN a b l fl) 0),(2,.ptr 0 0 0 0),(3,.ptr 1 0 0 0),(4,.ptr 2 0 0 0),(5,.ptr 3 0 0 0),(10,.ptr q 0 0 0),(11,.fp (Cj x) 0),(86,.v0 ar)],w++[an],?_,?_⟩
    .exact gQ (cs:=Cj x) rfl (zZ g.len (fun _ _ _ _=>rfl) (.cons (lO (aP (g.ox q rfl).2.1)) (.cons fL (.cons (bf.refl _) .nil))))
    have A:=g.aQ (aL.app w [an] []);have ⟨v,X,a1,cv,gq,B⟩:=A.ab9 bW (gp x);have ⟨v',G2,b1,N,g3,T⟩:=B.Ub bW (eC a b m k x);have dq:∀K,bk (w++[an]) q 0 K=K ⟨1,0,[[vp]]⟩:=fun K=>aK (A.ox q rfl).2.1 K;have R:∀K,bk X q 0 K=K ⟨1,0,[[vp]]⟩:=aK gq;have I:∀K,bX 2 vp [[.q0 x.i,.q0 x.k]] (w++[an]) K=K v X:=a1;have e3:∀K,bk (X.set q (ak ⟨1,0,[[v]]⟩)) 3 0 K=K ⟨4,0,[[.q0 d,vl,vj,.nil]]⟩:=aK B.o3;have O:∀K,bk G2 3 0 K=K ⟨4,0,[[.q0 d,vl,vj,.nil]]⟩:=aK g3;have wj:=g.aj.cell;have M:∀K,bX 6 vj [dI (eC a b m k x)] (X.set q (ak ⟨1,0,[[v]]⟩)) K=K v' G2:=b1;refine Y5 dq I cv R e3 ?_;refine ⟨rfl,?_⟩;refine cX (VY a b l fl m k r.bA t.bA (by have:=r.lt;omega) (by have:=t.lt;omega) r.Wn.1 t.Wn.1 x a3 a4) ?_;refine Y3 M N O ?_;refine ⟨rfl,.inl ⟨rfl,U _ ⟨v',v,?_,?_⟩⟩⟩
    .rw[aii,aii];exact T
    .simp only[ain,amh];omega
  .intro C' n hY;have e:nI [.c (.func (.yield n) #[] #[]),.fp (gN a b l fl) 0]=[(0,.c (.func (.yield n) #[] #[])),(1,.fp (gN a b l fl) 0)]:=rfl;rw[e];exact WPJ.aj hY DJ aR (U5 hY (fun pre G ⟨vj,vp,o,y⟩=>⟨vj,vp,o.aQ (aL.app G [an] []),y⟩) r.Wn t.Wn hl S [])
 .intro D F g;have ⟨vj,vp,g,y⟩:=g;refine Y ?_;rw[<-E];have e:(if ae (cz a b l)<=40/\bv=aq then jW ⟨d,L,(cz a b l).map (eC a b m k),iE a b m k⟩ ((cz a b l).map gp) else B8)=if bv then jW ⟨d,L,(cz a b l).map (eC a b m k),iE a b m k⟩ ((cz a b l).map gp) else B8:=by cases bv<;>simp[y]
  rw[e];exact Rh hR r t g (hv y) _
 .rintro D F ⟨o0,o1,o2,hW⟩;have a5:∀K,bk F 0 0 K=K ⟨4,0,[[.q0 0,.nil,.nil,.nil]]⟩:=aK o0;have a6:∀K,bk F 1 0 K=K ⟨1,0,[[.nil]]⟩:=aK o1;have a7:∀K,bk F 2 0 K=K ⟨1,0,[[.q0 3]]⟩:=aK o2;simp only[go_sem,↓reduceIte,ahZ,a5,a6,a7,FP];rw[<-E,ah0 aD];exact Gm
def JG (m k:Nat) (x y:Lc):Lc:=⟨eK m k x.inv.l y.inv.l,eK m k x.dy.l y.dy.l⟩
def ri (a b:Au) (m k i:Nat):List Lc:=(a.aJ.take i).flatMap fun x=>b.aJ.map (JG m k x)
def Sl (a b:Au) (m k:Nat):ri a b m k (ae a.aJ)=mh a b m k:=by unfold ri mh;rw[aiK];rfl
def Je (h:i < ae a.aJ):ri a b m k (i+1)=ri a b m k i++b.aJ.map (JG m k (af a.aJ i ah)):=by unfold ri;rw[lg h,ak5];simp
def Lm (a b:Au) (m k:Nat):∀i,ae (ri a b m k i)<=i*ae b.aJ
 | 0=>by simp[ri]
 | i+1=>by
  have:=Lm a b m k i;by_cases h:i < ae a.aJ
  .rw[Je h,ain,ah3,aiW];omega
  .have e:ri a b m k (i+1)=ri a b m k i:=by unfold ri;rw[aiv aD,aiv aD]
   rw[e,aiW];omega
def Rf (t:ROk prog C 148 (RM prog 148)) (w:yV a m) (z:yV b k) (hl:ae l < 1000000) (h:PrR H d .nil .nil .nil [] [] [] an .nil [])
  (hv:ae (cz a b l)<=40->bg prog 27 [.agg (c9 ⟨d,mh a b m k,(cz a b l).map (eC a b m k),iE a b m k⟩)] (.v0 bv)) (er:Env) :
  WPJ prog C 148 Y0 (RM prog 148) pR (Qj (if ae (cz a b l)<=40/\bv=aq then jW ⟨d,mh a b m k,(cz a b l).map (eC a b m k),iE a b m k⟩ ((cz a b l).map gp) else B8)) an
   ((1,.fp (gN a b l fl) 0)::(2,.ptr 0 0 0 0)::(3,.ptr 1 0 0 0)::(4,.ptr 2 0 0 0)::(5,.ptr 3 0 0 0)::er) H:=by
 refine LU ?_;generalize v:(if ae (cz a b l)<=40/\bv=aq then jW ⟨d,mh a b m k,(cz a b l).map (eC a b m k),iE a b m k⟩ ((cz a b l).map gp) else B8)=RR;refine Y ?_;refine lQ J7 t (fun n O e H=>O=an/\∃(i:Nat) (vl:AV),i<=ae a.aJ/\n=ae a.aJ - i/\PrR H d vl .nil .nil (ri a b m k i) [] [] an .nil [] /\
  e=[(1,.fp (gN a b l fl) 0),(2,.ptr 0 0 0 0),(3,.ptr 1 0 0 0),(4,.ptr 2 0 0 0),(5,.ptr 3 0 0 0),(42,.seq 4 ar (a.aJ.map iy)),(43,.q0 (ae a.aJ:Int)),(44,.q0 (i:Int))]) (n:=ae a.aJ) ⟨rfl,0,.nil,aD,rfl,h,rfl⟩ ?_;clear h;rintro n O _ H ⟨rfl,i,vl,hi,a0,h,rfl⟩;by_cases p:(i:Int) < (ae a.aJ:Int)
 .have V:au .i64 ((i:Int)+1)=((i+1:Nat):Int):=by have:=w.aJ;rw[wrap_i64 (by omega) (by omega)];rfl
  have E:af a.aJ i ah∈a.aJ:=bS aD;have N:=Je (b:=b) (m:=m) (k:=k) (show i < ae a.aJ by omega);have ⟨B,D⟩:=w.FD _ E;generalize hx:af a.aJ i ah=x at *;refine Y2 p hx ?_;refine ⟨aD,[(1,.fp (gN a b l fl) 0),(2,.ptr 0 0 0 0),(3,.ptr 1 0 0 0),(4,.ptr 2 0 0 0),(5,.ptr 3 0 0 0),(7,.fp (iy x) 0),(42,.seq 4 ar (a.aJ.map iy)),(43,.q0 (ae a.aJ:Int)),(44,.q0 (i:Int))],H++[an],?_,?_⟩
  .exact gQ (cs:=iy x) rfl (zZ h.len (fun _ _ _ _=>rfl) (.cons fL (.cons (bf.refl _) (.cons (bf.refl _) (.cons (bf.refl _) .nil)))))
  refine Y ?_;have f:=h.aQ (aL.app H [an] []);refine lQ J7 t (fun n q e H=>q=an/\∃(j:Nat) (vl:AV),j<=ae b.aJ/\n=ae b.aJ - j/\PrR H d vl .nil .nil (ri a b m k i++(b.aJ.take j).map (JG m k x)) [] [] an .nil [] /\
   e=[(1,.fp (gN a b l fl) 0),(2,.ptr 0 0 0 0),(3,.ptr 1 0 0 0),(4,.ptr 2 0 0 0),(5,.ptr 3 0 0 0),(7,.fp (iy x) 0),(42,.seq 4 ar (a.aJ.map iy)),(43,.q0 (ae a.aJ:Int)),(44,.q0 (i:Int)),
    (50,.seq 4 ar (b.aJ.map iy)),(51,.q0 (ae b.aJ:Int)),(52,.q0 (j:Int))]) (n:=ae b.aJ) ⟨rfl,0,vl,aD,rfl,bu f,rfl⟩ ?_;clear h f vl;rintro n2 q _ H ⟨rfl,j,vl,hj,a2,h,rfl⟩;by_cases g:(j:Int) < (ae b.aJ:Int)
  .have e2:au .i64 ((j:Int)+1)=((j+1:Nat):Int):=by have:=z.aJ;rw[wrap_i64 (by omega) (by omega)];rfl
   have M:af b.aJ j ah∈b.aJ:=bS aD;have A:b.aJ.take (j+1)=b.aJ.take j++[af b.aJ j ah]:=lg aD;have ⟨F,I⟩:=z.FD _ M;generalize hy:af b.aJ j ah=y at *;have f:=h.aQ (aL.app H [an] []);have o:ae (ri a b m k i++(b.aJ.take j).map (JG m k x)) < 1000000:=by have q1:=Lm a b m k i;have q3:=z.aJ;have q2:i*ae b.aJ<=100*100:=akp (cn w.aJ) z.aJ;simp;omega
   have ⟨R,G,S,U,g3,h2⟩:=f.gT o (JG m k x y);have T:∀K,bk (H++[an]) 3 0 K=K ⟨4,0,[[.q0 d,vl,.nil,.nil]]⟩:=aK f.o3;have s:∀K,bk G 3 0 K=K ⟨4,0,[[.q0 d,vl,.nil,.nil]]⟩:=aK g3;have wl:=h.al.cell;have r:∀K,bX 4 vl [[.c (.int .i64 (eK m k x.inv.l y.inv.l).n),.seq 3 ar ((eK m k x.inv.l y.inv.l).l.map cC),.c (.int .i64 (eK m k x.dy.l y.dy.l).n),.seq 3 ar ((eK m k x.dy.l y.dy.l).l.map cC)]] (H++[an]) K=K R G:=S;refine Y2 g hy ?_;refine ⟨aD,[(1,.fp (gN a b l fl) 0),(2,.ptr 0 0 0 0),(3,.ptr 1 0 0 0),(4,.ptr 2 0 0 0),(5,.ptr 3 0 0 0),(7,.fp (iy x) 0),(9,.fp (iy y) 0),(42,.seq 4 ar (a.aJ.map iy)),(43,.q0 (ae a.aJ:Int)),(44,.q0 (i:Int)),
    (50,.seq 4 ar (b.aJ.map iy)),(51,.q0 (ae b.aJ:Int)),(52,.q0 (j:Int))],H++[an],?_,?_⟩
   .exact gQ (cs:=iy y) rfl (zZ h.len (fun _ _ _ _=>rfl) (.cons (bf.refl _) (.cons fL (.cons (bf.refl _) (.cons (bf.refl _) (.cons (bf.refl _) (.cons (bf.refl _) (.cons (bf.refl _) (.cons (bf.refl _) .nil)))))))))
   refine Y1 T ?_;refine cY (tu a b l fl m k w.bA z.bA (by have:=w.lt;omega) (by have:=z.lt;omega) _ _ ar ar B F) ?_;refine cX (tu a b l fl m k w.bA z.bA (by have:=w.lt;omega) (by have:=z.lt;omega) _ _ ar ar D I) ?_;refine Y4 r U s e2 ?_;refine ⟨rfl,ae b.aJ - (j+1),aD,j+1,R,aD,rfl,?_,rfl⟩;rw[A,aii,<-aio];exact h2
  .have W:j=ae b.aJ:=aD;subst W;refine Y2 g V ?_;rw[aiK] at h;refine ⟨ae a.aJ - (i+1),aD,i+1,vl,aD,rfl,by rw[N];exact h,rfl⟩
 .have X:i=ae a.aJ:=aD;subst X;refine Y1 p ?_;rw[Sl] at h;rw[<-v];exact Rg t w z hl h hv _
end
def gO (a b:Au) (m k:Nat) (l:List Int):Bool:=decide (m+k<=4)&&decide (ae a.aJ*ae b.aJ<=12)&&decide (ae (cz a b l)<=40)
def TE (a b:Au) (m k:Nat) (l:List Int) (fl:Bool) (z:yV a m) (w:yV b k) (v:ae l < 1000000) {bv:Bool} (hv:gO a b m k l=aq->bg prog 27 [.agg (c9 (eT a b m k l))] (.v0 bv)) :
  bg prog 32 [.agg (gN a b l fl)] (if gO a b m k l=aq/\bv=aq then jW (eT a b m k l) ((cz a b l).map gp) else B8):=by
 refine cR.ado (qm (Post:=fun r G=>Fin 0 r G (if gO a b m k l=aq/\bv=aq then jW (eT a b m k l) ((cz a b l).map gp) else B8) []) func32 Bv fun C p=>?_) (fun r G h=>h);have g:=z.aJ;have i:=w.aJ;have s:=z.lt;have t:=w.lt;have o:ae a.aJ*ae b.aJ<=100*100:=akp g i;have c:au .i64 (a.bA+b.bA)=(m:Int)+k:=by rw[z.bA,w.bA];exact wrap_i64 aD aD
 have j:au .i64 ((ae a.aJ:Int)*(ae b.aJ:Int))=((ae a.aJ*ae b.aJ:Nat):Int):=by rw[<-akY];exact wrap_i64 aD aD
 refine LU ?_;by_cases e:4 < (m:Int)+k
 .have x:gO a b m k l=ar:=by unfold gO;rw[aif (by omega)];rfl
  rw[x];simp only[go_sem,↓reduceIte,Nat.reduceLeDiff,ahZ,c,e,ah5,alb,FP];exact Gm
 .by_cases n:12 < ((ae a.aJ*ae b.aJ:Nat):Int)
  .have x:gO a b m k l=ar:=by unfold gO;rw[aif (show ¬ae a.aJ*ae b.aJ<=12 by omega)];simp
   rw[x];simp only[go_sem,↓reduceIte,Nat.reduceLeDiff,ahZ,c,j,e,n,ah5,alb,FP];exact Gm
  .have x:(gO a b m k l=aq/\bv=aq)=(ae (cz a b l)<=40/\bv=aq):=by unfold gO;rw[air (show m+k<=4 by omega),air (show ae a.aJ*ae b.aJ<=12 by omega)];simp
   simp only[x];refine Z4 c j e n ?_;refine Rf p z w v ⟨rfl,rfl,rfl,rfl,fun q K=>by simp at K,.nil,.nil,.nil,.nil,fun y h=>by simp[aG] at h,fun y h=>by simp[aG] at h,fun y h=>by simp[aG] at h,fun y h=>by simp[aG] at h,fun y h=>by simp[aG] at h,fun y h=>by simp[aG] at h⟩ (fun f=>hv ?_) _;unfold gO;rw[air (show m+k<=4 by omega),air (show ae a.aJ*ae b.aJ<=12 by omega),air f];rfl
end
def jL (n:Int) (p:Pl):Bool:=mT p.n p.l&&decide (p.n=n)
def kD (n:Int) (x:As):Bool:=if x.kind=1 then x.f.jW n&&decide (1<=x.low/\x.low<=M60) else decide ((x.kind=0\/x.kind=2)/\ae x.f.c=0/\x.f.a=0/\x.low=0)
noncomputable def vq (n:Int) (x:Lc):Bool:=jL n x.inv&&(jL n x.dy&&kL (az n) x.dy.l)
def tT (n:Int) (k:Nat) (x:Jp):Bool:=decide (0<=x.cI/\x.cI < k/\0<=x.to/\x.to < k/\0<=x.label/\x.label<=20)&&(jL n x.guard&&(decide ((ae x.cO:Int)=n)&&x.cO.all (kD n)))
def vu (n:Int) (k:Nat) (x:Zn):Bool:=decide (0<=x.loc/\x.loc < k)&&jL n x.set
def F6 (a:Au):Bool:=decide (0<=a.bA/\a.bA<=4/\1<=ae a.aJ/\ae a.aJ<=12/\ae a.aN<=40/\ae a.init<=12)
noncomputable def fu (a:Au):Bool:=F6 a&&(a.aJ.all (vq a.bA)&&(a.aN.all (tT a.bA (ae a.aJ))&&a.init.all (vu a.bA (ae a.aJ))))
def GF {n:Int} {f:Fm}:f.jW n=aq↔(0<=n/\n<=8/\(ae f.c:Int)=n)/\rY f.a=aq/\∀x,x∈f.c->rY x=aq:=by unfold Fm.jW;rw[ah2,aiU,ah2,ah4]
def Ih {n:Nat} {f:Fm} {b a:Nat} {t:Int} (h:f.jW n=aq) (i:t=((b+n+a:Nat):Int)) (g:b+n+a<=8):(f.wide b a).jW t=aq:=by
 have ⟨⟨w,c,e⟩,y,z⟩:=GF.1 h;refine GF.2 ⟨⟨aD,aD,?_⟩,y,fun x k=>?_⟩
 .simp only[Fm.wide,ain,aiY];omega
 .simp only[Fm.wide,aiE,ajN] at k;rcases k with (⟨_,rfl⟩ | k) | ⟨_,rfl⟩
  .decide
  .exact z x k
  .decide
def rm:mT n l=aq↔(0<=n/\n<=8/\ae l<=120)/\∀c,c∈l->c.f.jW n=aq:=by unfold mT;rw[ah2,aiU,ah4]
def tU:jL n p=aq↔mT n p.l=aq/\p.n=n:=by
 unfold jL;rw[ah2,aiU];constructor
 .rintro ⟨h,k⟩;rw[k] at h;exact ⟨h,k⟩
 .rintro ⟨h,k⟩;rw[k];exact ⟨h,rfl⟩
def P0 {n:Nat} {x:As} {b a:Nat} {t:Int} (h:kD n x=aq) (e:t=((b+n+a:Nat):Int)) (w:b+n+a<=8):kD t (x.put fun f=>f.wide b a)=aq/\x.put (fun f=>f.wide b a)=x.wide b a:=by
 unfold kD at h ⊢;unfold As.put As.wide;by_cases z:x.kind=1
 .simp only[z,ajs] at h ⊢;rw[ah2] at h ⊢;exact ⟨⟨Ih h.1 e w,h.2⟩,trivial⟩
 .simp only[z,ajO,aiU] at h ⊢;refine ⟨⟨h.1,aO,aO,h.2.2.2⟩,?_⟩;have ⟨kind,⟨c,g⟩,low⟩:=x;have ⟨_,k,y,_⟩:=h;simp only at k y;rw[aiA k,y]
def v8 {m k:Nat} {x y:List Cd} (b:mT m x=aq) (e:mT k y=aq) (i:m+k<=8) (j:ae x+ae y<=120) :
  mT ((m:Int)+k) (eK m k x y).l=aq:=by
 have ⟨f,w⟩:=rm.1 b;have ⟨g,a⟩:=rm.1 e;refine rm.2 ⟨⟨aD,aD,by simp only[eK,ain,ah3];omega⟩,fun c z=>?_⟩;simp only[eK,aiE,aiw] at z;rcases z with ⟨d,h,rfl⟩ | ⟨d,h,rfl⟩
 .exact Ih (w d h) aD aD
 .exact Ih (a d h) aD aD
def PB {m:Nat} (h:m<=8):mT m []=aq:=rm.2 ⟨⟨aD,aD,aO⟩,fun c h=>by simp at h⟩
def pB {p q:Pl} {m k:Nat} (h:p.n=m) (x:q.n=k):p.both q=eK m k p.l q.l:=by unfold Pl.both eK;rw[h,x,ah9,ah9];rfl
def N5:cU (n+k) f=cU n f+cU k (fun i=>f (n+i)):=by
 induction k with
 | zero=>show cU n f=cU n f+0;grind
 | succ k h=>show cU (n+k) f+f (n+k)=cU n f+(cU k (fun i=>f (n+i))+f (n+k));rw[h];grind
def RH {m k:Nat} {f:Fm} (z:ae f.c=m) (u:Nat->Rat):(f.wide 0 k).val (m+k) u=f.val m u:=by
 unfold Fm.val;rw[N5];have x:cU k (fun i=>(((f.wide 0 k).c.getD (m+i) 0:Int):Rat)*u (m+i))=0:=by
  rw[df (g:=fun _=>0) (fun i w=>?_)]
  .clear z;induction k with
   | zero=>rfl
   | succ k b=>show cU k _+0=0;rw[b];grind
  .have:(f.wide 0 k).c.getD (m+i) 0=0:=by simp only[Fm.wide,akC,aiy,ajm];rw[aiC aD,aji];split<;>rfl
   rw[this];show ((0:Int):Rat)*_=0;have h:(((0:Int)):Rat)=0:=by rfl
   rw[h];grind
 rw[x];have y:cU m (fun i=>(((f.wide 0 k).c.getD i 0:Int):Rat)*u i)=cU m (fun i=>((af f.c i 0:Int):Rat)*u i):=by
  refine df fun i w=>?_;have:(f.wide 0 k).c.getD i 0=af f.c i 0:=by simp only[Fm.wide,akC,aiy,ajm];rw[aic aD]
  rw[this]
 rw[y];show (f.a:Rat)+_=_
 grind
def RI {m k:Nat} {f:Fm} (w:ae f.c=k) (u:Nat->Rat):(f.wide m 0).val (m+k) u=f.val k (fun i=>u (m+i)):=by
 unfold Fm.val;rw[N5];have y:cU m (fun i=>(((f.wide m 0).c.getD i 0:Int):Rat)*u i)=0:=by
  rw[df (g:=fun _=>0) (fun i h=>?_)]
  .clear w;induction m with
   | zero=>rfl
   | succ k b=>show cU k _+0=0;rw[b];grind
  .have:(f.wide m 0).c.getD i 0=0:=by simp only[Fm.wide,akC,aiu,ajm];rw[aic (by simpa using h),aji];split<;>rfl
   rw[this];have x:(((0:Int)):Rat)=0:=by rfl
   rw[x];grind
 rw[y];have z:cU k (fun i=>(((f.wide m 0).c.getD (m+i) 0:Int):Rat)*u (m+i))=cU k (fun i=>((af f.c i 0:Int):Rat)*u (m+i)):=by
  refine df fun i h=>?_;have:(f.wide m 0).c.getD (m+i) 0=af f.c i 0:=by simp only[Fm.wide,akC,aiu,ajm];rw[aiC aO,aiY,ak2]
  rw[this]
 rw[z];show (f.a:Rat)+_=_
 grind
def xz (j:∀c,c∈x->ae c.f.c=m) (n:∀c,c∈y->ae c.f.c=k) (u:Nat->Rat) :
  ff (m+k) (eK m k x y).l u↔ff m x u/\ff k y (fun i=>u (m+i)):=by
 have a:∀c,c∈x->((c.put fun f=>f.wide 0 k).ki (m+k) u↔c.ki m u):=fun c z=>by unfold Cd.ki Cd.put;rw[RH (j c z)]
 have b:∀c,c∈y->((c.put fun f=>f.wide m 0).ki (m+k) u↔c.ki k (fun i=>u (m+i))):=fun c z=>by unfold Cd.ki Cd.put;rw[RI (n c z)]
 unfold ff eK;simp only[aiE,aiw];constructor
 .intro h;exact ⟨fun c z=>(a c z).1 (h _ (Or.inl ⟨c,z,rfl⟩)),fun c z=>(b c z).1 (h _ (Or.inr ⟨c,z,rfl⟩))⟩
 .rintro ⟨e,g⟩ c (⟨d,w,rfl⟩ | ⟨d,w,rfl⟩)
  .exact (a d w).2 (e d w)
  .exact (b d w).2 (g d w)
def Js {n:Nat} {cs:List Cd} {u v:Nat->Rat} (h:∀i,i < n->u i=v i):ff n cs u->ff n cs v:=by
 intro z c x;have:=z c x;unfold Cd.ki Fm.val at this ⊢;have e:cU n (fun k=>((af c.f.c k 0:Int):Rat)*u k)=cU n (fun k=>((af c.f.c k 0:Int):Rat)*v k):=df fun i y=>by rw[h i y]
 rw[e] at this;exact this
open Classical in
def xu:kL n cs=aq↔(∃u,ff n cs u)/\∀v,v < n->HI n cs v:=by unfold kL sT BK;rw[ah2,ajJ,aj5,aiU,al4]
def Sa {m k:Nat} {x y:List Cd} (a:∀c,c∈x->ae c.f.c=m) (b:∀c,c∈y->ae c.f.c=k) (o:kL m x=aq) (p:kL k y=aq):kL (m+k) (eK m k x y).l=aq:=by
 have ⟨⟨u,q⟩,r⟩:=xu.1 o;have ⟨⟨v,hv⟩,s⟩:=xu.1 p;refine xu.2 ⟨⟨fun i=>if i < m then u i else v (i - m),(xz a b _).2 ⟨Js (fun i n=>by simp[n]) q,Js (fun i n=>by have e:¬m+i < m:=aD;simp[e]) hv⟩⟩,fun i n=>?_⟩;by_cases h:i < m
 .have ⟨⟨B,g⟩,C,j⟩:=r i h;exact ⟨⟨B,fun w z=>g w ((xz a b w).1 z).1⟩,C,fun w z=>j w ((xz a b w).1 z).1⟩
 .have ⟨⟨B,g⟩,C,j⟩:=s (i - m) aD;have e:m+(i - m)=i:=aD;refine ⟨⟨B,fun w z=>?_⟩,C,fun w z=>?_⟩
  .have:=g _ ((xz a b w).1 z).2;rw[e] at this;exact this
  .have:=j _ ((xz a b w).1 z).2;rw[e] at this;exact this
end Go.Fx
