/- A state of the product is allowed or initial exactly when its two parts are; ProductStates returns true whatever its arguments are: part 3 of 10. No condition. -/
import Derived.Test.YtkpkkhepecgeiaaGreatBb
import Derived.Scope
set_option linter.all false
set_option maxRecDepth 8000
set_option maxHeartbeats 9000000
set_option autoImplicit true
set_option relaxedAutoImplicit true
namespace Go.Fx
open List renaming length->ae,getD->af,replicate->aA,eraseIdx->aB,range->aC
open Inhabited renaming default->ah
open Option renaming some->ak,none->an
open Bool renaming true->aq,false->ar
open Go.IntKind renaming wrap->au
open Int renaming natAbs->ay,toNat->az
section
variable {P:Program} {dl:List Deferred} {fo:Option Nat} {N:Nat} {I:Imm} {β:Bet} {e:Env} {H H':aE} {a:Act} {w:World} {o:Oper} {v:AV}
def Lh {ops:Array Oper} {z:List bA} {al:bA} {md:List Nat} (hc:ea P N ops ops.toList (z++[al])=aq) (a6:dy 0 (ops.toList.map bn)=aq) (D:gz ((ops.toList.map bn).take (ae z)) md z=aq) (a5:∀i,i < ae z->ie (gQ (ops.toList.map bn) []) i (ae z)=aq) {E:Nat->Env} {G:Nat->aE} {V:Nat->AV} (ht:mq P md z E G V) {Q:Exit->Act->World->Prop} :
  ∀(fuel t:Nat) (y:Array Bool) (e:Env) (H:aE) (I:Imm) (β:Bet) (a:Act) (w:World),y.size=ops.size->y.getD (ae z) ar=ar->ae ((aC ops.size).filter fun i => !y.getD i aq)<=fuel->Down (ops.toList.map bn) (fun i=>y.getD i ar) ->
   (∀s,lk s e=e8 z V (E 0) (fun i=>y.getD i ar) (ae z) s)->H=fY md G (fun i=>y.getD i ar) (ae z)->bH dl N I β e H a w ->
   (∀a' w',Out dl N I β H w (E (ae z)) (G (ae z)) a' w'->wpOpsIn (FR fo) 0 P ops Q [ae z] a' w')->wpOpsIn (FR fo) 0 P ops Q (Region.linearise.go .any ops fuel t y []) a w:=by
 have ⟨b2,b0⟩:=eh hc;have c3:ops.size=ae z+1:=bk b2;have b:∀S:Nat->Bool,Down (ops.toList.map bn) S->Down ((ops.toList.map bn).take (ae z)) S:=by
  intro S hS i U hi;rw[Zi] at hi;split at hi
  .exact hS i U hi
  .simp at hi
 intro fuel
 induction fuel with
 | zero =>
  intro t y e H I β a w b7 a0 a9 c he hH s hq;exfalso;have:ae z∈(aC ops.size).filter fun i => !y.getD i aq:=by
   simp only[XR,X5];refine ⟨aD,?_⟩;have:y.getD (ae z) aq=y.getD (ae z) ar:=by simp[W8,show ae z < y.size by omega]
   rw[this,a0];rfl
  have:=aal this;omega
 | succ fuel ih =>
  intro t y e H I β a w b7 a0 a9 c he hH s hq;have a4:∀i,i < ops.size->y.getD i aq=y.getD i ar:=by intro i hi;simp[W8,show i < y.size by omega]
  simp only[Region.linearise.go];split
  .rename_i i a7;rw[iI];have a1:=XJ a7;simp only[XR,X5,WZ,Yd] at a1;have ⟨n,K,B⟩:=a1;have J:=Xp n;rw[a4 i n] at K;rw[J] at B;simp only[XL,XT] at B;have a3:∀j,j∈bn ops[i]->y.getD j ar=aq:=by intro j A;simp only[bn,Xf,XR] at A;obtain ⟨ed,⟨h1,h2⟩,rfl⟩:=A;have:=YA.1 B ed (bk h1);simpa[h2] using this
   have b8:(ops.toList.map bn)[i]?=ak (bn ops[i]):=by simp[J]
   have a2:∀j,(y.setIfInBounds i aq).getD j ar=(y.getD j ar || j==i):=by
    intro j;simp only[W8,Xl];by_cases h:i=j
    .subst h;simp[show i < y.size by omega]
    .rw[WX h];simp[show ¬j=i from fun h'=>h h'.symm]
   have R:=funext a2;have f:Down (ops.toList.map bn) (fun j=>y.getD j ar || j==i):=by
    intro j U A b6 k hk;simp only[YJ,X2] at b6 ⊢;rcases b6 with h | h
    .exact .inl (c j U A h k hk)
    .subst h;rw[b8] at A;cases A;exact .inl (a3 k hk)
   rcases Xe i (ae z) with F | F
   case inr =>
    have c2:i=ae z:=aD;subst c2;have X:∀j,j < ae z->y.getD j ar=aq:=by intro j A;have:=ff (fun j=>y.getD j ar || j==ae z) f A (a5 j A) aK;simpa[show ¬j=ae z by omega] using this
    have b5:Region.linearise.go .any ops fuel (t / ae ((aC ops.size).filter fun i => !y.getD i aq&&((ops[i]?).map (·.after.all fun e => !Region.binds .any e || y.getD e.on ar)).getD ar)) (y.setIfInBounds (ae z) aq) []=[]:=by
     cases fuel with
     | zero=>simp[Region.linearise.go]
     | succ fuel =>
      simp only[Region.linearise.go];have O:((aC ops.size).filter fun i => !(y.setIfInBounds (ae z) aq).getD i aq&&((ops[i]?).map (·.after.all fun e => !Region.binds .any e || (y.setIfInBounds (ae z) aq).getD e.on ar)).getD ar)=[]:=by
       rw[aam];intro j A;have d3:j < ops.size:=bk A;have:(y.setIfInBounds (ae z) aq).getD j aq=aq:=by
        simp only[W8,Xl];by_cases h:ae z=j
        .subst h;simp[show ae z < y.size by omega]
        .rw[WX h];have:=X j aD;simp only[W8] at this ⊢;simp only[show j < y.size by omega,Xp,XT] at this ⊢;exact this
       simp[this]
      rw[O];simp
    rw[b5];simp only[List.reverse_cons,aaB,XH,Xz];refine hq a w ⟨I,β,?_,?_⟩
    .rw[hH,k8 ht X _ (WY _)];exact .refl _ _ _ _
    .refine ⟨?_,s.size,fun t=>?_,s.mu⟩
     .have:=s.bm;rw[hH,k8 ht X _ (WY _)] at this;exact this
     .have:=s.env t;rw[he,yP ht X t _ (WY _)] at this;exact this
   have W:=W7 F;have b1:(z++[al])[i]?=ak z[i]:=by rw[Xc F];exact W
   have T:=ht.step i _ W;have M:∀l:List Nat,(∀s,s∈l->∀(j:Nat) x,z[j]?=ak x->j≠i->x.dst=ak s->gK x z[i]=aq)->cW l (E i) e:=by intro l hl s hs;have:=Fq D ht (b _ c) W K (b _ f) (t:=s) (fun j x A b4 C=>by have:=(jq D A W b4).1 (hl s hs j x A b4 C);rw[jO] at this;exact this) (ae z) (WY _);rw[he,this,ZA (by omega)]
   have h1:cW z[i].op.cK (E i) e:=M _ fun s hs j x _ _ C=>by simp[gK,C,hs]
   have h2:cW (nJ z[i].g) (E i) e:=M _ fun s hs j x _ _ C=>by simp[gK,C,hs]
   have c0:gj P N ops ops[i] z[i]=aq:=b0 i _ _ (by simp[J]) b1;have c7:(z[i].op.cP=aq->fv md i=aq):=by intro hw;simp only[gz,WZ] at D;have h1:=W6.1 D.2 i (bk F);rw[WZ,W] at h1;have:=h1.1;simpa[hw] using this
   obtain ⟨H1,c6,b9⟩:∃H1,gM P z[i] e H (V i) H1/\H1=fY md G (fun j=>y.getD j ar || j==i) (ae z):=by
    by_cases a8:fv md i=aq\/z[i].op.reads=aq
    .have hh:=BT D ht (b _ c) W K (b _ f) a8 (ae z) (WY _);rw[ZA (by omega)] at hh;refine ⟨G (i+1),?_,?_⟩
     .have:=T.yl h1 h2;rw[hH,hh];exact this
     .rw[oG D (b _ c) W K (ae z) (WY _)];by_cases hm:fv md i=aq
      .rw[W0 ⟨F,hm⟩]
      .rw[WX (fun h=>hm h.2),hh,ht.heap i F (by simpa using hm)]
    .have hm:=fun h=>a8 (.inl h);have hr:z[i].op.reads=ar:=bk (fun h=>a8 (.inr h));have c8:z[i].op.cP=ar:=by
      cases c9:z[i].op.cP with
      | false=>rfl
      | true=>exact absurd (c7 c9) hm
     refine ⟨H,(T.yl h1 h2).BI hr c8 H,?_⟩;rw[oG D (b _ c) W K (ae z) (WY _),WX (fun h=>hm h.2),hH]
   refine vL J c0 s c6 fun a' I' d5 w' x' s'=>?_;refine ih (t / _) (y.setIfInBounds i aq) (dF z[i].dst (V i) e) H1 I' d5 a' w' (bk b7) (by rw[a2,a0];simp;omega) ?_ (by rw[R];exact f) ?_ (by rw[R];exact b9) s' (fun d2 d4 ho=>hq _ _ (ho.step x'))
   .have:=filter_lt (p:=fun j => !y.getD j aq) (q:=fun j => !(y.setIfInBounds i aq).getD j aq) (i:=i) (l:=aC ops.size) (fun x hx=>by
     simp only[W8,Xl] at hx ⊢;by_cases h:i=x
     .subst h;simp[show i < y.size by omega] at hx
     .rw[WX h] at hx;exact hx) (by rw[a4 i n,K];rfl) (by simp[W8,show i < y.size by omega]) (bk n);omega
   .intro s';rw[R,Ce D (b _ c) W K s' (ae z) (WY _),mz];by_cases hd:z[i].dst=ak s'
    .rw[W0 hd,W0 ⟨F,hd⟩]
    .rw[WX hd,WX (fun h=>hd h.2),he]
  .rename_i L;have O:((aC ops.size).filter fun i => !y.getD i aq&&((ops[i]?).map (·.after.all fun e => !Region.binds .any e || y.getD e.on ar)).getD ar)=[]:=by
    cases c5:((aC ops.size).filter fun i => !y.getD i aq&&((ops[i]?).map (·.after.all fun e => !Region.binds .any e || y.getD e.on ar)).getD ar) with
    | nil=>rfl
    | cons x r =>
     rw[c5] at L;have:t % ae (x::r) < ae (x::r):=aaz _ aK;rw[W7 this] at L;simp at L
   have X:∀i,i < ops.size->y.getD i ar=aq:=by
    intro i
    induction i using Nat.strongRecOn with
    | _ i d1 =>
     intro hi;cases hl:y.getD i ar with
     | true=>rfl
     | false =>
      exfalso;have n:=hi;have J:=Xp n;have b3:∀j,j∈bn ops[i]->j < i:=by
       have gen:∀(l:List (List Nat)) (k:Nat),dy k l=aq->∀(m:Nat) U,l[m]?=ak U->∀j,j∈U->j < k+m:=by
        intro l
        induction l with
        | nil=>intro k _ m U h;simp at h
        | cons x r d0 =>
         intro k hk m U h j A;simp only[dy,WZ] at hk;cases m with
         | zero=>simp at h;subst h;have:=W6.1 hk.1 j A;simpa using this
         | succ m=>have:=d0 (k+1) hk.2 m U (bk h) j A;omega
       intro j A;have:=gen _ 0 a6 i (bn ops[i]) (by simp[J]) j A;omega
      have:i∈((aC ops.size).filter fun i => !y.getD i aq&&((ops[i]?).map (·.after.all fun e => !Region.binds .any e || y.getD e.on ar)).getD ar):=by
       simp only[XR,X5,WZ,Yd];refine ⟨n,by rw[a4 i hi];exact hl,?_⟩;rw[J];simp only[XL,XT];refine YA.2 fun ed c1=>?_;cases hb:Region.binds .any ed with
       | false=>rfl
       | true =>
        have hm:ed.on∈bn ops[i]:=by simp only[bn,Xf,XR];exact ⟨ed,⟨bk c1,hb⟩,rfl⟩
        have c4:=b3 _ hm;simp[d1 _ c4 aD]
      rw[O] at this;simp at this
   have:=X (ae z) aD;rw[a0] at this;simp at this
end
section
variable {P:Program} {dl:List Deferred} {fo:Option Nat} {N:Nat} {I:Imm} {β:Bet} {e:Env} {H H':aE} {a:Act} {w:World} {v:AV}
inductive bL where
 | skip
 | ki (aR:List Nat) (ops:List bA)
 | tp (aR:List Nat) (ed:List (List Nat)) (ops:List bA)
 | pX (aR:List Nat) (ed:List (List Nat)) (dn:List (Nat × Nat)) (ops:List bA)
 | rI (aR:List Nat) (ed:List (List Nat)) (dn:List (Nat × Nat)) (ops:List bA)
 | vm (aR:List Nat) (ed:List (List Nat)) (ops:List bA) (last:bA)
 | rJ (aR:List Nat) (ed:List (List Nat)) (ops:List bA) (suf:List bA)
 | seq (a b:bL)
 | cond (c:Opd) (a b:bL)
 | block (id:Nat) (a:bL)
 | loop (aR:List Nat) (a:bL)
 | bad
 | vZ (g:Opd) (p:Nat) (a b:bL)
 | exit (id:Nat)
 | wk (a:bL)
 | label (l:Nat)
 | ret
def dE (P:Program) (N:Nat):Code->bL->Bool
 | .skip,.skip=>aq
 | .region _ ops ar,.ki _ aops=>ea P N ops ops.toList aops
 | .region _ ops aq,.tp _ ed aops=>ea P N ops ops.toList aops&&(ops.toList.map bn==ed)&&(P.follows .mixedOrders || !Region.departs ops)
 | .region _ ops aq,.pX _ ed _ aops=>ea P N ops ops.toList aops&&(ops.toList.map bn==ed)&&(P.follows .mixedOrders || !Region.departs ops)
 | .region _ ops aq,.rI _ ed _ aops=>ea P N ops ops.toList aops&&(ops.toList.map bn==ed)&&(P.follows .mixedOrders || !Region.departs ops)
 | .region _ ops aq,.vm _ ed aops al=>ea P N ops ops.toList (aops++[al])&&(ops.toList.map bn==ed)&&(P.follows .mixedOrders || !Region.departs ops)
 | .region _ ops aq,.rJ _ ed aops suf=>ea P N ops ops.toList (aops++suf)&&(ops.toList.map bn==ed)&&(P.follows .mixedOrders || !Region.departs ops)
 | .seq a b,.seq x y=>dE P N a x&&dE P N b y
 | .cond c a b,.cond d x y=>cT c d&&dE P N a x&&dE P N b y
 | .block i a,.block j x=>i==j&&dE P N a x
 | .loop a,.loop _ x=>dE P N a x
 | _,.bad=>aq
 | k,.wk x=>dE P N k x
 | .rangeFunc g ps a b,.vZ x p c d=>cT g x&&ps==#[p]&&dE P N a c&&dE P N b d
 | .exit i,.exit j=>i==j
 | .label i,.label j=>i==j
 | .ret,.ret=>aq
 | _,_=>ar
def cG (aR:List Nat) (e:Env):Env:=aR.map fun t=>(t,lk t e)
def Gq (aR:List Nat) (e:Env) (t:Nat):lk t (cG aR e)=lk t e\/lk t (cG aR e) = .aY:=by
 induction aR with
 | nil=>exact .inr rfl
 | cons s r k =>
  simp only[cG,XD,lk];by_cases h:s=t
  .subst h;rw[W0 rfl];exact .inl rfl
  .rw[WX h];exact k
def bH.aR (s:bH dl N I β e H a w) (aR:List Nat):bH dl N I β (cG aR e) H a w:=by
 refine ⟨s.bm,s.size,fun t=>?_,s.mu⟩;rcases Gq aR e t with h | h
 .rw[h];exact s.env t
 .rw[h];exact .aY
abbrev bN:=Exit->Env->aE->Prop
def sj (dl:List Deferred) (N:Nat) (I:Imm) (β:Bet) (H:aE) (w:World) (Q:bN):Exit->Act->World->Prop :=
 fun x a' w'=>∃I' β' e' H',Ext I β H w I' β' H' w'/\bH dl N I' β' e' H' a' w'/\Q x e' H'
def AWp (P:Program) (N:Nat) (c:Code) (Q:bN) (e:Env) (H:aE):Prop :=
 ∀(fo:Option Nat) (dl:List Deferred) I β a w,bH dl N I β e H a w->c.wpIn (FR fo) 0 P (sj dl N I β H w Q) a w
def AW (P:Program) (N:Nat) (c:bL) (Q:bN) (e:Env) (H:aE):Prop:=∀k,dE P N k c=aq->AWp P N k Q e H
def sj.step {Q:bN} {k:Imm} {c:Bet} {w':World} (x:Ext I β H w k c H' w') {z:Exit} {y:Act} {b:World} (h:sj dl N k c H' w' Q z y b):sj dl N I β H w Q z y b:=by have ⟨g,m,i,f,l,j,q⟩:=h;exact ⟨g,m,i,f,x.trans l,j,q⟩
def AW.mono {c:bL} {Q y:bN} (h:AW P N c Q e H) (i:∀x e H,Q x e H->y x e H):AW P N c y e H:=by intro k g fo dl I β a w s;refine wpIn_mono (h k g fo dl I β a w s) fun x o p j=>?_;have ⟨b,n,f,z,m,l,q⟩:=j;exact ⟨b,n,f,z,m,l,i _ _ _ q⟩
def MV {Q:bN} (h:Q .normal e H):AW P N .skip Q e H:=by intro k x fo dl I β a w s;cases k<;>simp[dE] at x;exact wpIn_skip ⟨I,β,e,H,.refl _ _ _ _,s,h⟩
def MO {Q:bN} {id:Nat} (h:Q (.exit id) e H):AW P N (.exit id) Q e H:=by intro k x fo dl I β a w s;cases k<;>simp[dE] at x;subst x;exact wpIn_exit ⟨I,β,e,H,.refl _ _ _ _,s,h⟩
def Oi {Q:bN} (h:Q .ret e H):AW P N .ret Q e H:=by intro k x fo dl I β a w s;cases k<;>simp[dE] at x;exact wpIn_ret ⟨I,β,e,H,.refl _ _ _ _,s,h⟩
def KD {Q:bN} {l:Nat} (h:Q .normal e H):AW P N (.label l) Q e H:=by intro k x fo dl I β a w s;cases k<;>simp[dE] at x;subst x;exact wpIn_label ⟨I,β,e,H,.refl _ _ _ _,s,h⟩
def j4 (next:Env->aE->Prop) (Q:bN):bN:=fun x e H=>match x with
 | .normal=>next e H
 | x=>Q x e H
def Oj {x y:bL} {Q:bN} (h:AW P N x (j4 (AW P N y Q) Q) e H):AW P N (.seq x y) Q e H:=by
 intro k z fo dl I β a w s;cases k<;>simp only[dE,W3,WZ] at z;rename_i p r;refine wpIn_seq (wpIn_mono (h p z.1 fo dl I β a w s) fun f m t b=>?_);have ⟨c,j,o,l,i,g,q⟩:=b;cases f with
 | normal=>exact wpIn_mono (q r z.2 fo dl c j m t g) fun f n K b=>sj.step i b
 | _=>exact ⟨c,j,o,l,i,g,q⟩
def MN {c:Opd} {x y:bL} {Q:bN} {b:Bool} (g:c.ev e = .v0 b) (z:b=aq->AW P N x Q e H) (f:b=ar->AW P N y Q e H):AW P N (.cond c x y) Q e H:=by
 intro k h fo dl I β a w s;cases k<;>simp only[dE,W3,WZ] at h;have ⟨⟨i,j⟩,l⟩:=h;have r:=s.x i;rw[g] at r;have r:=r.c7.1;cases b with
 | true=>exact wpIn_cond_true r (z rfl _ j fo dl I β a w s)
 | false=>exact wpIn_cond_false r (f rfl _ l fo dl I β a w s)
def nu (id:Nat) (Q:bN):bN:=fun x e H=>match x with
 | .exit i=>if i=id then Q .normal e H else Q (.exit i) e H
 | x=>Q x e H
def KC {id:Nat} {x:bL} {Q:bN} (h:AW P N x (nu id Q) e H):AW P N (.block id x) Q e H:=by
 intro k l fo dl I β a w s;cases k<;>simp only[dE,W3,WZ,X2] at l;obtain ⟨rfl,o⟩:=l;refine wpIn_block (wpIn_mono (h _ o fo dl I β a w s) fun m p r n=>?_);have ⟨z,j,b,y,g,f,q⟩:=n;cases m with
 | exit i =>
  simp only[nu] at q;simp only[Exit.inBlock];split
  .rename_i c;rw[W0 c] at q;exact ⟨z,j,b,y,g,f,q⟩
  .rename_i c;rw[WX c] at q;exact ⟨z,j,b,y,g,f,q⟩
 | _=>exact ⟨z,j,b,y,g,f,q⟩
def EG (P:Program):List Obl->Prop
 | []=>True
 | o::r=>bK P o.f o.args o.H o.r o.H'/\EG P r
def EG.all:∀{l:List Obl},EG P l->∀o,o∈l->o.ok P
 | [],_,o,h=>by simp at h
 | x::r,h,o,k=>by
  simp at k;rcases k with rfl | k
  .exact h.1
  .exact EG.all h.2 o k
def iQ (md:List Nat):Nat->List bA->Env->aE->List (AV × Option aE)->Option (Env × aE × List Obl)
 | _,[],e,H,os=>match os with
  | []=>ak (e,H,[])
  | _=>an
 | i,o::r,e,H,os =>
  match dD o.g e with
  | some ar=>iQ md (i+1) r (dF o.dst (.bI []) e) H os
  | some aq=>match dU o.op e with
   | some (f,args)=>match os with
    | (v,h)::os'=>if h.isSome && !(fv md i) then an else (iQ md (i+1) r (dF o.dst v e) (h.getD H) os').map fun x=>(x.1,x.2.1,⟨f,args,H,v,h.getD H⟩::x.2.2)
    | []=>an
   | none=>if o.op.cP && !(fv md i) then an else match eO o.op e H with
    | some (v,H')=>iQ md (i+1) r (dF o.dst v e) H' os
    | none=>an
  | none=>an
def lT {md:List Nat}:∀{c:List bA} {i:Nat} {e l:Env} {H H':aE} {m:List (AV × Option aE)} {b:List Obl},iQ md i c e H m=ak (l,H',b)->(∀o,o∈b->o.ok P)->qW P md i c e H l H'
 | [],i,e,l,H,H',m,b,h,_=>by
  cases m with
  | nil=>simp[iQ] at h;obtain ⟨rfl,rfl,_⟩:=h;exact .nil
  | cons _ _=>simp[iQ] at h
 | ao::r,i,e,l,H,H',m,b,h,z=>by
  simp only[iQ] at h;split at h
  .rename_i j;exact .cons (.inr ⟨j,rfl,rfl⟩) (fun _=>rfl) (lT h z)
  .rename_i j;split at h
   .rename_i f args k;split at h
    .rename_i v t A;split at h
     case isTrue=>simp at h
     rename_i g;have ⟨x,W,s⟩:=Xi.1 h;simp at s;obtain ⟨rfl,rfl,rfl⟩:=s;refine .cons (.inl ⟨j,?_⟩) (fun n=>?_) (lT (by rw[W]) fun o X=>z o (by simp[X]))
     .unfold ns;rw[k];exact z ⟨f,args,H,v,t.getD H⟩ aK
     .cases t with
      | none=>rfl
      | some G=>simp[n] at g
    .simp at h
   .rename_i k;split at h
    case isTrue=>simp at h
    rename_i g;split at h
    .rename_i v K p;have y:ns P ao.op e H v K:=by unfold ns;rw[k];exact p
     refine .cons (.inl ⟨j,y⟩) (fun n=>?_) (lT h z);refine gM.aQ (P:=P) (.inl ⟨j,y⟩) (by simpa[n] using g) fun f args q=>?_;rw[k] at q;simp at q
    .simp at h
  .simp at h
def MT {aR:List Nat} {l:List (List Nat)} {ops:List bA} (md:List Nat) (p:gz l md ops=aq) {X:Env} {os:List (AV × Option aE)} {j:List Obl} {Q:bN} (h:iQ md 0 ops e H os=ak (X,H',j)) (ho:EG P j)
  (hq:Q .normal (cG aR X) H'):AW P N (.tp aR l ops) Q e H:=by
 intro k m fo dl I β a w s;have n:=m;cases k<;>try (simp only[dE,W3] at n;done)
 rename_i C x M;cases M<;>simp only[dE,W3,WZ] at m;have ⟨⟨A,c⟩,f⟩:=m;have c:x.toList.map bn=l:=bk c;have ht:=lT h ho.all;have hl:x.size=ae ops:=by have:=(eh A).1;simpa using this
 have ⟨E,G,V,T,U,h3,W,h5,h6,h7⟩:=ht.fn;have r:mq P md ops E G V:=⟨h5,h6,fun i hi hm=>h7 i hi (bk hm)⟩;have q:bH dl N I β e H a {w with drawn:=w.drawn+1}:=by have he:∀b:Nat,({w with drawn:=w.drawn+1}:World).heap[b]?=w.heap[b]?:=fun _=>rfl;refine ⟨⟨fun b o v e=>s.bm.ef b o v e,fun C ob h=>?_,s.bm.inj,s.bm.gw,s.bm.ver⟩,s.size,s.env,s.mu⟩;have ⟨B,O,R,S⟩:=s.bm.obj C ob h;exact ⟨B,O,R,S.aR (.refl _) (.refl _) (fun _=>rfl) (fun _ _=>rfl)⟩
 have hx:Ext I β H w I β H {w with drawn:=w.drawn+1}:=⟨.refl _,.refl _,WY _,WY _,rfl,rfl,rfl,fun _ _ _=>⟨rfl,fun _=>rfl⟩,fun _ h => .inl h⟩;refine wpIn_region_draw fun t=>?_;have z:Region.schedule (P.follows .mixedOrders) x t=Region.linearise .any x t:=by unfold Region.schedule;rw[W0 f]
 rw[z];unfold Region.linearise;refine Nn A (c ▸ p) r x.size t (Array.replicate x.size ar) e H I β a _ aK ?_ ?_ ?_ ?_ q fun a' w' g=>?_
 .exact XX (ZV _ _) aK
 .intro i es _ y;exfalso;simp only[W8,Zj] at y;split at y<;>simp at y
 .intro D;have:∀k,e8 ops V (E 0) (fun i=>(Array.replicate x.size ar).getD i ar) k D=lk D (E 0):=by
   intro k
   induction k with
   | zero=>rfl
   | succ k K =>
    rw[e8,K,WX];rintro ⟨y,_⟩;simp only[W8,Zj] at y;split at y<;>simp at y
  rw[this,T]
 .have:∀k,fY md G (fun i=>(Array.replicate x.size ar).getD i ar) k=G 0:=by
   intro k
   induction k with
   | zero=>rfl
   | succ k K =>
    rw[fY,K,WX];rintro ⟨y,_⟩;simp only[W8,Zj] at y;split at y<;>simp at y
  rw[this,U]
 .have ⟨L,a0,J,F⟩:=g;rw[h3,W] at F;rw[W] at J;exact ⟨L,a0,_,H',hx.trans J,F.aR aR,hq⟩
def DW {fl:Prop} {A:bL} {aR:List Nat} {m:List (List Nat)} {dn:List (Nat × Nat)} {ops:List bA} {E:Nat->Env} {G:Nat->aE} {V:Nat->AV} {W R:Nat->List Nat} (J:uu m ops W R) (O:kU P fl ops E G V W R) (D:A = .pX aR m dn ops\/A = .rI aR m dn ops) (h1:E 0=e) (h2:G 0=H) {Q:bN}
  (hq:Q .normal (cG aR (E (ae ops))) (G (ae ops))):AW P N A Q e H:=by
 intro k l fo dl I β a w s;obtain ⟨id,x,rfl,K⟩:∃id x,k = .region id x aq/\(ea P N x x.toList ops&&(x.toList.map bn==m)&&(P.follows .mixedOrders || !Region.departs x))=aq:=by
  rcases D with rfl | rfl
  .cases k<;>try (simp only[dE,W3] at l;done)
   rename_i id x C;cases C
   .simp only[dE,W3] at l
   .exact ⟨_,_,rfl,l⟩
  .cases k<;>try (simp only[dE,W3] at l;done)
   rename_i id x C;cases C
   .simp only[dE,W3] at l
   .exact ⟨_,_,rfl,l⟩
 rw[WZ,WZ] at K;have ⟨⟨M,f⟩,q⟩:=K;have f:x.toList.map bn=m:=bk f;subst h1 h2;have hl:x.size=ae ops:=by have:=(eh M).1;simpa using this
 have z:bH dl N I β (E 0) (G 0) a {w with drawn:=w.drawn+1}:=by refine ⟨⟨fun b o v e=>s.bm.ef b o v e,fun id ob h=>?_,s.bm.inj,s.bm.gw,s.bm.ver⟩,s.size,s.env,s.mu⟩;have ⟨B,U,g2,g3⟩:=s.bm.obj id ob h;exact ⟨B,U,g2,g3.aR (.refl _) (.refl _) (fun _=>rfl) (fun _ _=>rfl)⟩
 have hx:Ext I β (G 0) w I β (G 0) {w with drawn:=w.drawn+1}:=⟨.refl _,.refl _,WY _,WY _,rfl,rfl,rfl,fun _ _ _=>⟨rfl,fun _=>rfl⟩,fun _ h => .inl h⟩;refine wpIn_region_draw fun t=>?_;have c:Region.schedule (P.follows .mixedOrders) x t=Region.linearise .any x t:=by unfold Region.schedule;rw[W0 q]
 rw[c];unfold Region.linearise;have a0:=lens O (XE (ae ops)) (WY _);have ⟨sp,xp⟩:=NH z.bm (ae (G (ae ops)) - ae (G 0));have j:∀i,(Array.replicate x.size ar).getD i ar=ar:=by intro i;simp only[W8,Zj];split<;>rfl
 have p:∀id,dJ (G 0++aA (ae (G (ae ops)) - ae (G 0)) (an:Option bC)) id=dJ (G 0) id:=by
  intro id;unfold dJ;rcases Xe id (ae (G 0)) with h | h
  .rw[Xc h]
  .rw[Xk h,YH,Xv h];split<;>rfl
 refine Lg M (f ▸ J) O x.size t (Array.replicate x.size ar) (E 0) (G 0++aA (ae (G (ae ops)) - ae (G 0)) an) I β a _ aK ?_ ?_ ?_ ?_ ⟨sp,z.size,z.env,z.mu⟩ ?_ fun a' w' X=>?_
 .exact XX (ZV _ _) aK
 .intro i es _ n;have y:(Array.replicate x.size ar).getD i ar=aq:=n;rw[j] at y;simp at y
 .intro S;have:∀k,e8 ops V (E 0) (fun i=>(Array.replicate x.size ar).getD i ar) k S=lk S (E 0):=by
   intro k
   induction k with
   | zero=>rfl
   | succ k L =>
    rw[e8,L,WX];rintro ⟨n,_⟩;have y:=n;rw[j] at y;simp at y
  rw[this]
 .have F:∀id k,kv G W (fun i=>(Array.replicate x.size ar).getD i ar) k id=dJ (G 0) id:=by
   intro id k
   induction k with
   | zero=>rfl
   | succ k L =>
    rw[kv,L,WX];rintro ⟨n,_⟩;have y:=n;rw[j] at y;simp at y
  refine Es (by rw[tN];simp;omega) fun id g=>?_;have r:id < ae (G (ae ops)):=by simp at g;omega
  rw[xt r,F,p]
 .intro id ver g _;exact z.bm.px g
 .have ⟨T,a1,x2,s2⟩:=X;exact ⟨T,a1,_,G (ae ops),hx.trans (xp.trans x2),s2.aR aR,hq⟩
def MS {aR:List Nat} {k:List (List Nat)} {dn:List (Nat × Nat)} {ops:List bA} {E:Nat->Env} {G:Nat->aE} {V:Nat->AV} {W R:Nat->List Nat} (h:uu k ops W R) (b:kU P False ops E G V W R) (x:E 0=e) (y:G 0=H) {Q:bN}
  (z:Q .normal (cG aR (E (ae ops))) (G (ae ops))):AW P N (.pX aR k dn ops) Q e H:=DW h b (.inl rfl) x y z
def MU {aR:List Nat} {k:List (List Nat)} {dn:List (Nat × Nat)} {ops:List bA} {E:Nat->Env} {G:Nat->aE} {V:Nat->AV} {W R:Nat->List Nat} (h:uu k ops W R) (b:kU P True ops E G V W R) (x:E 0=e) (y:G 0=H) {Q:bN}
  (z:Q .normal (cG aR (E (ae ops))) (G (ae ops))):AW P N (.rI aR k dn ops) Q e H:=DW h b (.inr rfl) x y z
def KE {aR:List Nat} {j:List (List Nat)} {ops:List bA} {M:bA} (md:List Nat) (n:dy 0 j=aq) (A:gz (j.take (ae ops)) md ops=aq) (g:∀i,i < ae ops->ie (gQ j []) i (ae ops)=aq)
  {O:Env} {os:List (AV × Option aE)} {q:List Obl} {Q:bN} (h:iQ md 0 ops e H os=ak (O,H',q)) (ho:EG P q)
  (hq:∀(x:Array Oper),ea P N x x.toList (ops++[M])=aq->∀(I:Imm) (β:Bet) (a:Act) (w:World) (fo:Option Nat) (dl:List Deferred) (L:Exit->Act->World->Prop),bH dl N I β O H' a w->(∀r w' R J,Out dl N I β H' w R J r w'->Q .normal (cG aR R) J->L .normal r w')->wpOpsIn (FR fo) 0 P x L [ae ops] a w):AW P N (.vm aR j ops M) Q e H:=by
 intro k X fo dl I β a w s;have W:=X;cases k<;>try (simp only[dE,W3] at W;done)
 rename_i T x dr;cases dr<;>simp only[dE,W3,WZ] at X;have ⟨⟨K,z⟩,m⟩:=X;have z:x.toList.map bn=j:=bk z;have ht:=lT h ho.all;have hl:x.size=ae ops+1:=by have:=(eh K).1;simpa using this
 have ⟨E,G,V,h1,h2,h3,S,h5,h6,h7⟩:=ht.fn;have D:mq P md ops E G V:=⟨h5,h6,fun i hi hm=>h7 i hi (bk hm)⟩;have C:bH dl N I β e H a {w with drawn:=w.drawn+1}:=by refine ⟨⟨fun b o v e=>s.bm.ef b o v e,fun T ob h=>?_,s.bm.inj,s.bm.gw,s.bm.ver⟩,s.size,s.env,s.mu⟩;have ⟨B,g1,g2,g3⟩:=s.bm.obj T ob h;exact ⟨B,g1,g2,g3.aR (.refl _) (.refl _) (fun _=>rfl) (fun _ _=>rfl)⟩
 have hx:Ext I β H w I β H {w with drawn:=w.drawn+1}:=⟨.refl _,.refl _,WY _,WY _,rfl,rfl,rfl,fun _ _ _=>⟨rfl,fun _=>rfl⟩,fun _ h => .inl h⟩;refine wpIn_region_draw fun t=>?_;have f:Region.schedule (P.follows .mixedOrders) x t=Region.linearise .any x t:=by unfold Region.schedule;rw[W0 m]
 rw[f];unfold Region.linearise;have c:∀i,(Array.replicate x.size ar).getD i ar=ar:=by intro i;simp only[W8,Zj];split<;>rfl
 refine Lh K (z ▸ n) (z ▸ A) (z ▸ g) D x.size t (Array.replicate x.size ar) e H I β a _ aK (c _) ?_ ?_ ?_ ?_ C fun r w' p=>?_
 .exact XX (ZV _ _) aK
 .intro i es _ l;have y:(Array.replicate x.size ar).getD i ar=aq:=l;rw[c] at y;simp at y
 .intro U;have:∀k,e8 ops V (E 0) (fun i=>(Array.replicate x.size ar).getD i ar) k U=lk U (E 0):=by
   intro k
   induction k with
   | zero=>rfl
   | succ k F =>
    rw[e8,F,WX];rintro ⟨l,_⟩;have y:=l;rw[c] at y;simp at y
  rw[this,h1]
 .have:∀k,fY md G (fun i=>(Array.replicate x.size ar).getD i ar) k=G 0:=by
   intro k
   induction k with
   | zero=>rfl
   | succ k F =>
    rw[fY,F,WX];rintro ⟨l,_⟩;have y:=l;rw[c] at y;simp at y
  rw[this,h2]
 .have ⟨I2,a0,x2,s2⟩:=p;rw[h3,S] at s2;rw[S] at x2;refine hq x K I2 a0 r w' fo dl _ s2 fun a2 w2 e3 H3 hp q3=>?_;have ⟨I3,a1,x3,s3⟩:=hp;exact ⟨I3,a1,_,H3,hx.trans (x2.trans x3),s3.aR aR,q3⟩
def s5 (n:Nat) (e:Env) (H:aE) (e2:Env) (H2:aE):Prop :=
 ∀(dl:List Deferred) N I β a w,bH dl N I β e H a w->∃I2 β2,bH dl N I2 β2 e2 H2 a w/\∀I0 β0 H0 w0,ae H0<=n->(∀i v B,β0 i v=ak B->i < ae H0)->Ext I0 β0 H0 w0 I β H w->Ext I0 β0 H0 w0 I2 β2 H2 w
def BL {c:bL} {Q:bN} {y:Env} {x:aE} (g:s5 (ae H) e H y x) (h:AW P N c Q y x):AW P N c Q e H:=by intro k b fo dl I β a w s;have ⟨z,m,j,l⟩:=g dl N I β a w s;have i:=l I β H w (WY _) s.bm.gw (.refl _ _ _ _);exact wpIn_mono (h k b fo dl z m a w j) fun o n p f=>sj.step i f
def Pv {c:bL} {Q:bN} {y:Env} {x:aE} (b:s5 (ae H) e H y x) (h:AW P N c Q y x):AW P N (.wk c) Q e H:=by intro k z;exact BL b h k (by cases k<;>simpa only[dE] using z)
def DV {aR:List Nat} {c:bL} {Q:bN} (Inv:Nat->Env->aE->Prop) {n:Nat} (T:Inv n e H)
  (round:∀n e H,Inv n e H->AW P N c (j4 (fun R H'=>∃m z y,m < n/\s5 (ae H) R H' z y/\Inv m z y) Q) e H):AW P N (.loop aR c) Q e H:=by
 intro k L fo dl I β a w s;cases k<;>simp only[dE,W3] at L;rename_i k;intro b J W G C F;have key:∀n e H,Inv n e H->∀I β a w,bH dl N I β e H a w->∃r p w',sj dl N I β H w Q r p w'/\ArrivesIn (Machine.fenced P (FR fo)) P (lone (b.atR a (.code k :: .inLoop k::J)) W w) b J W r p w':=by
  intro n
  induction n using Nat.strongRecOn with
  | _ n ih =>
   intro e H U I β a w s;have ⟨r,f,j,V,h⟩:=round n e H U k L fo dl I β a w s b (.inLoop k::J) W G C F;have ⟨o,X,z,y,K,t,q⟩:=V;cases r with
   | normal =>
    have ⟨m,S,M,D,i,B⟩:=q;have ⟨O,a0,s3,x3⟩:=i dl N o X f j t;have ⟨A,p,w',E,g⟩:=ih m D S M B O a0 f j s3;exact ⟨A,p,w',sj.step (x3 I β H w (WY _) s.bm.gw K) E,.of_steps (StepsIn.trans h (.one (fenced_calm C F rfl) stepR_inLoop)) g⟩
   | exit id=>exact ⟨_,f,j,⟨o,X,z,y,K,t,q⟩,.pass (x := .inLoop k) rfl (fun _ _ => .inl aK) h⟩
   | goto l=>exact ⟨_,f,j,⟨o,X,z,y,K,t,q⟩,.pass (x := .inLoop k) rfl (fun _ _ => .inl aK) h⟩
   | ret=>exact ⟨_,f,j,⟨o,X,z,y,K,t,q⟩,.pass (x := .inLoop k) rfl (fun _ _ => .inl aK) h⟩
   | panic ch=>exact ⟨_,f,j,⟨o,X,z,y,K,t,q⟩,.pass (x := .inLoop k) rfl (fun _ _ => .inl aK) h⟩
   | outgrown=>exact ⟨_,f,j,⟨o,X,z,y,K,t,q⟩,.pass (x := .inLoop k) rfl (fun _ _ => .inl aK) h⟩
 have ⟨r,p,w',E,h⟩:=key n e H T I β a w s;exact ⟨r,p,w',E,.of_steps (.one (fenced_calm C F rfl) stepR_loop) h⟩
def ye (n:Nat) (aR:List Nat) (e:Env) (H:aE):s5 n e H (cG aR e) H :=
 fun _ _ I β _ _ s=>⟨I,β,s.aR aR,fun _ _ _ _ _ _ h=>h⟩
def MP (aR:List Nat) {c:bL} {Q:bN} (h:AW P N c Q (cG aR e) H):AW P N c Q e H:=BL (ye _ _ _ _) h
def MQ {aR:List Nat} {c:bL} {Q:bN} (Inv:Nat->Env->aE->Prop) {n:Nat} (y:Inv n (cG aR e) H)
  (round:∀n e H,Inv n e H->AW P N c (j4 (fun h H'=>∃m,m < n/\Inv m (cG aR h) H') Q) e H):AW P N (.loop aR c) Q e H:=by
 refine MP aR (DV Inv y fun n e H f=>(round n e H f).mono fun x h H' k=>?_);cases x with
 | normal=>obtain ⟨m,z,b⟩:=k;exact ⟨m,_,_,z,ye _ _ _ _,b⟩
 | _=>exact k
def WkS (n:Nat) (H H2:aE) (R:AV->AV->Prop):Prop :=
 ∀I β w,Sim I β H w->∃I2 β2,Sim I2 β2 H2 w/\(∀a a2 rv,R a a2->Rel I β a rv->Rel I2 β2 a2 rv)/\∀I0 β0 H0 w0,ae H0<=n->(∀i v B,β0 i v=ak B->i < ae H0)->Ext I0 β0 H0 w0 I β H w->Ext I0 β0 H0 w0 I2 β2 H2 w
def WkS.FB (h:WkS n H y R) (b:∀t,lk t x = .aY\/R (lk t e) (lk t x)):s5 n e H x y:=by
 intro dl N I β a w s;have ⟨z,i,g,c,f⟩:=h I β w s.bm;refine ⟨z,i,⟨g,s.size,fun t=>?_,s.mu⟩,f⟩;rcases b t with k | k
 .rw[k];exact .aY
 .exact c _ _ _ k (s.env t)
def WkS.trans (h:WkS n H y R) (g:WkS n y z S):WkS n H z (fun a c=>∃b,R a b/\S b c):=by intro I β w s;have ⟨f,W,K,r,t⟩:=h I β w s;have ⟨i,A,X,j,l⟩:=g f W w K;exact ⟨i,A,X,fun a c rv ⟨b,m,o⟩ p=>j _ _ _ o (r _ _ _ m p),fun C E B D x k q=>l _ _ _ _ x k (t _ _ _ _ x k q)⟩
def WkS.sub (h:WkS n H k R) (f:∀a b,S a b->R a b):WkS n H k S:=by intro I β w s;have ⟨x,j,i,c,g⟩:=h I β w s;exact ⟨x,j,i,fun a y rv z=>c a y rv (f _ _ z),g⟩
inductive Wk0:AV->AV->Prop
 | refl (a:AV):Wk0 a a
 | aY (a:AV):Wk0 a .aY
 | nil (k:Nat):Wk0 .nil (.seq k true [])
 | HL (k:Nat):Wk0 .nil (.seq k false [])
 | full (k:Nat) (xs:List (List AV)):Wk0 (.seq k true xs) (.seq k false xs)
def Rel.Kg {a y:AV} {rv:Value} (h:Wk0 a y) (x:Rel I β a rv):Rel I β y rv:=by
 cases h with
 | refl=>exact x
 | aY=>exact .aY
 | nil k=>rw[x.jH];exact .gF (fun _=>rfl)
 | HL k=>rw[x.jH];exact .gF (fun h=>by simp at h)
 | full k j =>
  cases x with
  | gF h=>exact .gF (fun h=>by simp at h)
  | seq g z b c f i=>exact .seq g z b c f (fun h=>by simp at h)
inductive WkL:List AV->List AV->Prop
 | nil:WkL [] []
 | cons {a b:AV} {l m:List AV}:Wk0 a b->WkL l m->WkL (a::l) (b::m)
inductive Wk1:AV->AV->Prop
 | cell {a b:AV}:Wk0 a b->Wk1 a b
 | agg {l m:List AV}:WkL l m->Wk1 (.agg l) (.agg m)
def bJ.Vv (h:WkL l m) (k:bJ I β l vs):bJ I β m vs:=by
 induction h generalizing vs with
 | nil=>exact k
 | cons x z y =>
  cases vs with
  | nil=>have:=k.1;simp at this
  | cons v vs=>exact .cons (k.head.Kg x) (y k.tail)
def Rel.Vu {a k:AV} {rv:Value} (h:Wk1 a k) (x:Rel I β a rv):Rel I β k rv:=by
 cases h with
 | cell h=>exact x.Kg h
 | agg h =>
  obtain ⟨z,rfl,y⟩:=x.ot;exact Rel.tP (y.Vv h)
def L8 (n:Nat) (H:aE):WkS n H H Wk1:=fun I β _ s=>⟨I,β,s,fun _ _ _ h k=>k.Vu h,fun _ _ _ _ _ _ h=>h⟩
def oO (n:Nat) (β:Bet):Bet:=fun i v=>if i < n then β i v else an
def B9 (n:Nat) (β:Bet):(oO n β).le β:=by
 intro i v x h;unfold oO at h;split at h
 .exact h
 .simp at h
def Rel.EZ {n:Nat} {a:AV} {rv:Value} (h:ck n a=aq) (l:Rel I β a rv):Rel I (oO n β) a rv:=by
 cases l with
 | c g=>exact .c g
 | nil=>exact .nil
 | gF g=>exact .gF g
 | seq z k x y b i=>exact .seq z k x y b i
 | fp z f k x=>exact .fp z f k x
 | ptr k x=>simp[ck] at h;exact .ptr (by simp[oO,h,k]) x
 | sl k x y=>simp[ck] at h;exact .sl (by simp[oO,h,k]) x y
 | rP k x=>simp[ck] at h;exact .rP (by simp[oO,h,k]) x
 | fn k x y b =>
  simp only[ck,WZ,abr] at h;obtain ⟨rfl,rfl⟩:=h;exact .fn k x (fun j a v e=>by simp at e) (fun j a v e=>by simp at e)
 | aY=>exact .aY
 | _=>simp[ck] at h
def Rel.Ii {n:Nat} {a:AV} {rv:Value} (h:rr n a=aq) (b:Rel I β a rv):Rel I (oO n β) a rv:=by
 cases a with
 | fn f x y =>
  obtain ⟨l,i,rfl,z,c⟩:=b.tM;simp only[rr,WZ] at h;exact .fn z.1 c.1 (fun j a v e k=>(z.2 j a v e k).EZ (dY h.1 e)) (fun j a v e k=>(c.2 j a v e k).EZ (dY h.2 e))
 | agg g =>
  obtain ⟨m,rfl,z⟩:=b.ot;exact .agg z.1 (fun j a v e k=>(z.2 j a v e k).EZ (dY (by simpa[rr] using h) e))
 | _=>exact b.EZ h
def Rel.R9 {n:Nat} {a:AV} {rv:Value} (h:jR n a=aq) (b:Rel I β a rv):Rel I (oO n β) a rv:=by
 cases a with
 | fn f x y =>
  obtain ⟨l,i,rfl,z,c⟩:=b.tM;simp only[jR,WZ] at h;exact .fn z.1 c.1 (fun j a v e k=>(z.2 j a v e k).Ii (dY h.1 e)) (fun j a v e k=>(c.2 j a v e k).Ii (dY h.2 e))
 | bI g =>
  obtain ⟨m,rfl,z⟩:=b.uf;exact .bI z.1 (fun j a v e k=>(z.2 j a v e k).Ii (dY (by simpa[jR] using h) e))
 | _=>exact b.Ii h
def FD (a0:n<=m) (T:(H.take m).all (eI m)=aq):WkS n H (H.take m) (fun a C=>C=a/\jR m a=aq):=by
 intro I β w s;have k:∀(id:Nat) z,(H.take m)[id]?=ak (ak z)->id < m/\H[id]?=ak (ak z):=by grind
 refine ⟨I,oO m β,⟨s.ef,?_,?_,?_,?_⟩,?_,?_⟩
 .intro id z h;have ⟨g,o⟩:=k id z h;have ⟨B,t,K,p⟩:=s.obj id z o;refine ⟨B,by simp[oO,g,t],K,?_⟩;have f:=W6.1 T _ (XJ h);simp only[eI] at f;unfold dG at p ⊢;split
  .rename_i q;rw[W0 q] at p;exact p
  .rename_i q;rw[WX q] at p;have ⟨c,E,F,G,J,L,M,O⟩:=p;refine ⟨c,E,F,G,J,L,M,fun i j a v l r=>(O i j a v l r).EZ ?_⟩;unfold cJ at l;have ⟨x,hx,X⟩:=W5.1 l;exact dY (W6.1 f x (XJ hx)) X
 .intro id W z A B D h R l r;exact s.inj id W z A B D (k _ _ h).2 (k _ _ R).2 (B9 _ _ _ _ _ l) (B9 _ _ _ _ _ r)
 .intro id ver B h;unfold oO at h;split at h
  .have:=s.gw id ver B h;simp;omega
  .simp at h
 .intro id z n h q;have ⟨g,o⟩:=k id z h;unfold oO;rw[W0 g];exact s.ver id z n o q
 .rintro a C rv ⟨rfl,V⟩ hr;exact hr.R9 V
 .intro I0 a1 H0 w0 hl U x;refine ⟨x.ef,?_,?_,x.size,x.os,x.tape,x.output,x.frame,?_⟩
  .intro i v y h;have g:=x.n6 i v y h;unfold oO;rw[W0 (by have:=U i v y h;omega)];exact g
  .rw[XI];have:=x.len;omega
  .intro b S;have ⟨id,z,B,g,o,t,K⟩:=S;exact x.own b ⟨id,z,B,(k _ _ g).2,B9 _ _ _ _ _ o,t,K⟩
def Ql (n:Nat) (H:aE) (id:Nat):WkS n H (H.set id an) (fun a c=>c=a):=by
 intro I β w s;have k:∀(i:Nat) y,(H.set id an)[i]?=ak (ak y)->i≠id/\H[i]?=ak (ak y):=by grind
 refine ⟨I,β,⟨s.ef,fun i y h=>s.obj i y (k i y h).2,fun i j y z B f h g=>s.inj i j y z B f (k _ _ h).2 (k _ _ g).2,fun i v B h=>by rw[Xa];exact s.gw i v B h,fun i y n h=>s.ver i y n (k _ _ h).2⟩,?_,?_⟩
 .rintro a c rv rfl r;exact r
 .intro K W t X _ _ x;refine ⟨x.ef,x.n6,by rw[Xa];exact x.len,x.size,x.os,x.tape,x.output,x.frame,?_⟩;intro b q;have ⟨i,y,B,l,m,o,p⟩:=q;exact x.own b ⟨i,y,B,(k _ _ l).2,m,o,p⟩
def fX (id ver k:Nat) (xs:List (List AV)):AV->AV
 | .sl k' id' ver' i m=>if id'=id/\ver'=ver then (if k'=k/\i+m<=ae xs then .seq k ar ((xs.drop i).take m) else .aY) else .sl k' id' ver' i m
 | .ptr id' ver' i o=>if id'=id/\ver'=ver then (match xs[i]? with | some x => .fp x o | none => .aY) else .ptr id' ver' i o
 | a=>a
def oF (id ver k:Nat) (xs:List (List AV)):AV->AV
 | .agg cs => .agg (cs.map (fX id ver k xs))
 | .fn f a b => .fn f (a.map (fX id ver k xs)) (b.map (fX id ver k xs))
 | a=>fX id ver k xs a
def dT (id ver k:Nat) (xs:List (List AV)):AV->AV
 | .bI cs => .bI (cs.map (oF id ver k xs))
 | a=>oF id ver k xs a
def bJ.HK (h:bJ I β l vs) (b:∀a v,Rel I β a v->Rel y β2 (f a) v):bJ y β2 (l.map f) vs:=by refine ⟨by simp[h.1],fun j a v k z=>?_⟩;rw[Ys] at k;obtain ⟨x,c,rfl⟩:=Xi.1 k;exact b _ _ (h.2 j x v c z)
def lZ {n id ver:Nat} {ob:bC} (a8:aH H id ver=ak ob) (a7:ob.xs.all (fun x=>x.all b8)=aq):WkS n H (H.set id an) (fun a a2=>a2=dT id ver ob.k ob.xs a):=by
 intro I β w s;have ⟨M,R⟩:=ct a8;obtain ⟨B,hB,r,a5⟩:=s.obj id ob M;have D:∀i j a,cJ ob.xs i j=ak a->b8 a=aq:=by intro i j a z;unfold cJ at z;have ⟨x,l,a9⟩:=W5.1 z;exact dY (W6.1 a7 x (XJ l)) a9
 let W:Imm:=fun b o=>if B.eS=ar/\b=B.b then (match w.heap[b]? with | some (.cells c _ _)=>c[o]? | _=>an) else I b o;have t:I.le W:=by
  intro b o v h;simp only[W];rw[WX]
  .exact h
  .rintro ⟨F,rfl⟩;have:=Own.HM s ⟨id,ob,B,M,hB,F,rfl⟩ o;rw[this] at h;simp at h
 have q:∀(i:Nat) ob,(H.set id an)[i]?=ak (ak ob)->i≠id/\H[i]?=ak (ak ob):=by
  intro i ob h;rw[yu] at h;split at h
  .split at h<;>simp at h
  .exact ⟨fun e=>by simp_all,h⟩
 have a0:∀b,(B.eS=aq\/b≠B.b)->∀o,W b o=I b o:=by
  intro b hb o;simp only[W];rw[WX];rintro ⟨F,rfl⟩;rcases hb with h | h
  .simp[F] at h
  .exact h rfl
 have J:∀a v,Rel I β a v->Rel W β (fX id ver ob.k ob.xs a) v:=by
  intro a v A;cases a with
  | sl k' b0 a6 i m =>
   simp only[fX];split
   .rename_i hh;obtain ⟨rfl,rfl⟩:=hh;split
    .rename_i hk;obtain ⟨rfl,b3⟩:=hk;obtain ⟨U,p,C,b1,rfl,b2,hp⟩:=A.kj;rw[<-R,hB] at C;cases C;have hl:ae ((ob.xs.drop i).take m)=m:=cE;by_cases h0:m=0
     .subst h0;have:(ob.xs.drop i).take 0=[]:=aK;rw[this];exact .gF (fun h=>by simp at h)
     .rcases hp with ⟨F,rfl⟩ | ⟨h5,_⟩
      case inr=>exact absurd h5 h0
      have ⟨c,E,V,g2,g3,g4,G,g6⟩:=a5.flat r F;have L:∀X j a,cJ ((ob.xs.drop i).take m) X j=ak a->cJ ob.xs (i+X) j=ak a:=by
       intro X j a z;simp only[cJ,Zi,YU] at z ⊢;split at z
       .exact z
       .simp at z
      have a3:∀X j a,cJ ob.xs X j=ak a->∃v,c[B.off+X*B.k+j]?=ak v:=by intro X j a z;have g:=gE (fun x l=>(G x l).1) z;have K:=(W9.1 g).1;rw[c9 (fun x l=>(G x l).1),<-r] at K;have:ae ob.xs*B.k<=B.cap*B.k:=XK _ g4;exact ⟨_,Xp aD⟩
      have:=Rel.seq (I:=W) (β:=β) (f:=ar) (k:=ob.k) (xs:=(ob.xs.drop i).take m) (b:=B.b) (off:=B.off+i*B.k) (cap:=B.cap - i) (fun X j=>(c[B.off+(i+X)*B.k+j]?).getD undef)
       (fun x l=>G x (Yv (YW l))) (fun X j a z=>by
        have ⟨v,hv⟩:=a3 _ _ _ (L _ _ _ z);simp only[W];rw[W0 (by simp[F]),V];simp only;rw[<-r,show B.off+i*B.k+X*B.k+j=B.off+(i+X)*B.k+j by rw[XF];omega,hv];rfl) (fun X j a z=>by
        have ⟨v,hv⟩:=a3 _ _ _ (L _ _ _ z);rw[hv];have g:=gE (fun x l=>(G x l).1) (L _ _ _ z);rw[<-r] at g;exact ((g6 _ a v g (by rw[<-XY];exact hv)).b8 (D _ _ _ (L _ _ _ z)) eW).mono t (.refl _)) aD (fun h=>by simp at h);rw[hl] at this;exact this
    .exact .aY
   .exact A.mono t (.refl _)
  | ptr b0 a6 i o =>
   simp only[fX];split
   .rename_i hh;obtain ⟨rfl,rfl⟩:=hh;split
    .rename_i x l;obtain ⟨U,C,F,rfl⟩:=A.qN;rw[<-R,hB] at C;cases C;have ⟨c,E,V,g2,g3,g4,G,g6⟩:=a5.flat r F;have O:∀j a,x[j]?=ak a->∃v,c[B.off+i*B.k+j]?=ak v/\cJ ob.xs i j=ak a:=by
      intro j a ha;have z:cJ ob.xs i j=ak a:=by simp[cJ,l,ha]
      have g:=gE (fun x l=>(G x l).1) z;have K:=(W9.1 g).1;rw[c9 (fun x l=>(G x l).1),<-r] at K;have:ae ob.xs*B.k<=B.cap*B.k:=XK _ g4;exact ⟨_,Xp aD,z⟩
     have:=Rel.fp (I:=W) (β:=β) (cs:=x) (o:=o) (b:=B.b) (off:=B.off+i*B.k) (fun j=>(c[B.off+i*B.k+j]?).getD undef) (G x (XJ l)).2 (fun j a ha=>by
       have ⟨v,hv,_⟩:=O j a ha;simp only[W];rw[W0 (by simp[F]),V];simp only;rw[hv];rfl) (fun j a ha=>by
       have ⟨v,hv,z⟩:=O j a ha;rw[hv];have g:=gE (fun x l=>(G x l).1) z;rw[<-r] at g;exact ((g6 _ a v g (by rw[<-XY];exact hv)).b8 (D _ _ _ z) eW).mono t (.refl _));exact this
    .exact .aY
   .exact A.mono t (.refl _)
  | _=>exact A.mono t (.refl _)
 have a1:∀a v,Rel I β a v->Rel W β (oF id ver ob.k ob.xs a) v:=by
  intro a v A;cases a with
  | agg cs =>
   obtain ⟨vs,rfl,rs⟩:=A.ot;exact Rel.tP (rs.HK J)
  | fn f x y =>
   obtain ⟨vf,vc,rfl,r1,r2⟩:=A.tM;have g:=r1.HK J;have K:=r2.HK J;exact .fn g.1 K.1 g.2 K.2
  | _=>exact J _ _ A
 refine ⟨W,β,⟨?_,?_,?_,?_,?_⟩,?_,?_⟩
 .intro b o v h;simp only[W] at h;split at h
  .split at h
   .rename_i c E fz hc;exact ⟨c,E,fz,hc,h⟩
   .simp at h
  .exact s.ef b o v h
 .intro i T h;have ⟨g,K⟩:=q i T h;have ⟨U,V,g2,g3⟩:=s.obj i T K;refine ⟨U,V,g2,g3.aR t (.refl _) (fun _=>rfl) (fun F o=>a0 _ ?_ o)⟩;cases S:B.eS with
  | true=>exact .inl rfl
  | false=>exact .inr fun e=>g (s.inj i id T ob U B K M V hB F S e)
 .intro i j o1 o2 B1 B2 h h';exact s.inj i j o1 o2 B1 B2 (q _ _ h).2 (q _ _ h').2
 .intro i v B h;rw[Xa];exact s.gw i v B h
 .intro i o n h;exact s.ver i o n (q _ _ h).2
 .rintro a a2 rv rfl A;cases a with
  | bI cs =>
   obtain ⟨vs,rfl,rs⟩:=A.uf;have g:=rs.HK a1;exact .bI g.1 g.2
  | _=>exact a1 _ _ A
 .intro I0 b4 H0 w0 _ _ x;refine ⟨x.ef.trans t,x.n6,by rw[Xa];exact x.len,x.size,x.os,x.tape,x.output,?_,?_⟩
  .intro b hb a4;have ⟨g,K⟩:=x.frame b hb a4;refine ⟨g,fun o=>?_⟩;rw[a0 b ?_ o,K o];cases S:B.eS with
   | true=>exact .inl rfl
   | false =>
    refine .inr fun e=>?_;subst e;rcases x.own B.b ⟨id,ob,B,M,hB,S,rfl⟩ with h | h
    .exact a4 h
    .omega
  .intro b hb;have ⟨i,o,U,g,K,h3,h4⟩:=hb;exact x.own b ⟨i,o,U,(q _ _ g).2,K,h3,h4⟩
inductive gC where
 | t (n:Nat)
 | cell (n:Nat) (ag:Bool) (k:Nat)
def Ad (e:Env) (H:aE):gC->Option AV
 | .t n=>ak (lk n e)
 | .cell n ag k=>match lk n e with
  | .fp cs o=>fm ag cs o k
  | .ptr id ver i o=>(aH H id ver).bind fun ob=>(ob.xs[i]?).bind fun x=>fm ag x o k
  | _=>an
def mj (e:Env) (H:aE):List gC->Option (List AV)
 | []=>ak []
 | r::l=>(Ad e H r).bind fun v=>(mj e H l).map (v::·)
def rK:List AV->AV
 | [v]=>v
 | vs => .bI vs
def DZ (P:Program):ResultVar->gC->Bool
 | .tmp t,.t n=>t==n
 | .cell x t,.cell n ag k=>x==n&&gi P t==ak ag&&du P t==ak k
 | _,_=>ar
def mZ (P:Program):List ResultVar->List gC->Bool
 | [],[]=>aq
 | x::r,y::s=>DZ P x y&&mZ P r s
 | _,_=>ar
def jl (args:List AV):Env:=args.zipIdx.map fun p=>(p.2,p.1)
def OJ (l:List AV) (m t:Nat):lk t ((l.zipIdx m).map fun p=>(p.2,p.1))=if m<=t then l.getD (t - m) .aY else .aY:=by
 induction l generalizing m with
 | nil=>simp[lk]
 | cons x r y =>
  simp only[aaT,XD,lk,y];by_cases h:m=t
  .subst h;simp
  .rw[WX h];by_cases k:m<=t
   .rw[W0 (by omega),W0 k,show t - m=(t - (m+1))+1 by omega];simp
   .rw[WX (by omega),WX k]
def yA (args:List AV) (t:Nat):lk t (jl args)=args.getD t .aY:=by have:=OJ args 0 t;simpa[jl] using this
def uc (tmps:Array Value):ResultVar->Sem Value
 | .tmp t=>pure (tmps.getD t undef)
 | .cell x t=>do loadVar t (<-asAddr (tmps.getD x undef))
def Ij (fn:Func) (tmps:Array Value):results fn tmps=(do
  let vs <-fn.results.mapM (uc tmps)
  pure (if h:vs.size=1 then vs[0] else .tuple vs)):=by unfold results;congr 1
def NF (s:bH dl N I β e H a w) (h:DZ P x y=aq) (hv:Ad e H y=ak v) :
  ∃rv,(uc a.tmps x).run P w = .ok rv w/\Rel I β v rv:=by
 unfold DZ at h;split at h
 .simp at h;subst h;simp[Ad] at hv;subst hv;exact ⟨_,rfl,s.env _⟩
 .rename_i x t n r k;simp at h;obtain ⟨⟨rfl,z⟩,j⟩:=h;have r1:=s.env x;simp only[Ad] at hv;generalize lk x e=A at *;split at hv
  .have ⟨b,off,X,c,_,l,m⟩:=r1.AL;have ⟨rv,f,g⟩:=pg z j (IY s.bm l m) hv;exact ⟨rv,by simp only[uc,c,asAddr];simpa using f,g⟩
  .have ⟨K,i,hv⟩:=W5.1 hv;have ⟨W,q,hv⟩:=W5.1 hv;have ⟨B,o,p,c⟩:=r1.qN;have ⟨rv,f,g⟩:=pg z j (s.bm.row i o p q) hv;exact ⟨rv,by simp only[uc,c,asAddr];simpa using f,g⟩
  .simp at hv
 .simp at h
def E6 (s:bH dl N I β e H a w):∀{xs:List ResultVar} {ys:List gC} {vs:List AV},mZ P xs ys=aq->mj e H ys=ak vs ->
  ∃aX:List Value,(xs.mapM (uc a.tmps)).run P w = .ok aX w/\bJ I β vs aX
 | [],[],vs,_,h=>by simp[mj] at h;subst h;exact ⟨[],aK,.nil _ _⟩
 | x::xs,y::ys,vs,k,h=>by simp only[mZ,WZ] at k;simp only[mj] at h;have ⟨v,hv,h⟩:=W5.1 h;obtain ⟨l,g,rfl⟩:=Xi.1 h;have ⟨rv,z,b⟩:=NF s k.1 hv;have ⟨aX,c,f⟩:=E6 s k.2 g;refine ⟨rv::aX,?_,.cons b f⟩;simp only[abF,Sem.run_bind,z,Result.andThen_ok,c,Sem.run_pure]
 | [],_::_,_,k,_=>by simp[mZ] at k
 | _::_,[],_,k,_=>by simp[mZ] at k
def mF (s:bH dl N I β e H a w) (y:mZ P fn.results.toList ys=aq) (h:mj e H ys=ak vs):∃rv,(results fn a.tmps).run P w = .ok rv w/\Rel I β (rK vs) rv:=by
 have ⟨aX,x,k⟩:=E6 s y h;have z:(fn.results.mapM (uc a.tmps)).run P w = .ok aX.toArray w:=by rw[abq];simp only[Sem.run_map,x,Result.andThen_ok]
 rw[Ij];simp only[Sem.run_bind,z,Result.andThen_ok,Sem.run_pure];refine ⟨_,rfl,?_⟩
 match vs,aX,k with
 | [],[],k=>exact .bI k.1 k.2
 | [v],[rv],k=>exact k.head
 | v::c::vs,rv::b::aX,k =>
  simp only[List.size_toArray,XG];rw[dif_neg aD];exact .bI k.1 k.2
 | [],_::_,k=>exact absurd k.1 aK
 | _::_,[],k=>exact absurd k.1 aK
 | [_],_::_::_,k=>exact absurd k.1 aK
 | _::_::_,[_],k=>exact absurd k.1 aK
def Fin (n:Nat) (r:AV) (H:aE) (r2:AV) (H2:aE):Prop:=∃R,WkS n H H2 R/\R r r2
structure zD (P:Program) (f:FuncId) (N:Nat) (ac:bL) (rs:List gC):Prop where
 ok:∃fn body,P.funcs[f]?=some fn/\(fn.name== "runtime.NumGoroutine")=false/\fn.body=some body/\fn.ntmps=N/\dE P N body ac=true/\mZ P fn.results.toList rs=true
def DY (M:zD P f N B U) (hl:ae args<=N)
  (h:AW P N B (fun x C H'=>(x = .normal\/x = .ret)/\∃vs,mj C H' U=ak vs/\Fin (ae H) (rK vs) H' r b) (jl args) H):bK P f args H r b:=by
 have ⟨y,body,o,D,p,E,F,G⟩:=M.ok;refine ⟨⟨y,o,D,by simp[p]⟩,fun I β w vs s K=>?_⟩;refine calls_of_wp o p ?_;have q:=K.1;have V:bH [] N I β (jl args) H {tmps:=vs.toArray++Array.replicate (y.ntmps - vs.toArray.size) undef,defers:=[]} w:=by
  refine ⟨s,by simp[E];omega,fun t=>?_,rfl⟩;rw[yA];rcases Xe t (ae args) with z | z
  .have g:args.getD t .aY=args[t]:=by simp[af,z]
   have m:(vs.toArray++Array.replicate (y.ntmps - vs.toArray.size) undef).getD t undef=vs[t]'(by omega):=by rw[W8,YY (by simp;omega)];simp[show t < ae vs by omega]
   rw[g,m];exact K.2 t _ _ (by simp[z]) (by simp[show t < ae vs by omega])
  .have g:args.getD t .aY = .aY:=by simp[af,z]
   rw[g];exact .aY
 refine wp_mono ((wpIn_wide (n:=0)).1 (h body F an [] I β _ w V)) fun ex A w' O=>?_;have ⟨X,a1,m,H3,x2,j,S,a0,k,R,i,hR⟩:=O;have fin:bodyPost P y (fun e w'=>∃rv c l,e = .returned rv/\Ext I β H w c l b w'/\Sim c l b w'/\Rel c l r rv) .normal A w':=by have ⟨rv,J,L⟩:=mF j G k;have ⟨W,a2,s3,T,x3⟩:=i X a1 w' j.bm;exact ⟨j.mu,rv,J,rv,W,a2,rfl,x3 I β H w (WY _) s.gw x2,s3,T _ _ _ hR L⟩
 rcases S with rfl | rfl
 .exact fin
 .exact fin
def a9 (P:Program) (f:FuncId) (args:List AV) (r:AV):Prop:=bK P f args [] r []
def a9.call (h:a9 P f args r) (H:aE) (D:args.all bP=aq) (F:bP r=aq):bK P f args H r H:=by
 have ⟨A,C⟩:=h;refine ⟨A,fun I β w q s k=>?_⟩;have M:Sim I eW [] w:=⟨s.ef,fun c i h=>by simp at h,fun c G i J B O h=>by simp at h,fun c ver B h=>by simp[eW] at h,fun c i n h=>by simp at h⟩;have z:bJ I eW args q:=⟨k.1,fun j a v e K=>(k.2 j a v e K).bP (dY D e) eW⟩;refine (C I eW w q M z).mono fun R S E=>?_;obtain ⟨rv,t,T,rfl,x,L,p⟩:=E;have o:∀b,¬Own eW [] b:=by rintro b ⟨c,i,B,h,_⟩;simp at h
 have y:=fun b g=>x.frame b g (o b);refine ⟨rv,t,β,rfl,⟨x.ef,.refl _,WY _,x.size,x.os,x.tape,x.output,fun b g _=>y b g,fun b g => .inl g⟩,⟨L.ef,fun c i h=>?_,s.inj,s.gw,s.ver⟩,p.bP F β⟩;have ⟨B,X,W,l⟩:=s.obj c i h;exact ⟨B,X,W,l.aR x.ef (.refl _) (fun m=>(y _ (l.lt m)).1) (fun m=>(y _ (l.lt m)).2)⟩
def a9.PA (h:a9 P f args r) (D:args.all bP=aq) (F:bP r=aq):Ai P f args r:=by
 have ⟨A,C⟩:=h;refine ⟨A,fun I β H w q s k=>?_⟩;have M:Sim I eW [] w:=⟨s.ef,fun c i h=>by simp at h,fun c G i J B O h=>by simp at h,fun c ver B h=>by simp[eW] at h,fun c i n h=>by simp at h⟩;have z:bJ I eW args q:=⟨k.1,fun j a v e K=>(k.2 j a v e K).bP (dY D e) eW⟩;refine (C I eW w q M z).mono fun R S E=>?_;obtain ⟨rv,t,T,rfl,x,L,p⟩:=E;have o:∀b,¬Own eW [] b:=by rintro b ⟨c,i,B,h,_⟩;simp at h
 have y:=fun b g=>x.frame b g (o b);refine ⟨rv,t,rfl,⟨x.ef,.refl _,WY _,x.size,x.os,x.tape,x.output,fun b g _=>y b g,fun b g => .inl g⟩,⟨L.ef,fun c i h=>?_,s.inj,s.gw,s.ver⟩,p.bP F β⟩;have ⟨B,X,W,l⟩:=s.obj c i h;exact ⟨B,X,W,l.aR x.ef (.refl _) (fun m=>(y _ (l.lt m)).1) (fun m=>(y _ (l.lt m)).2)⟩
def eH (h:Wk1 r k):Fin n r H k H:=⟨_,L8 n H,h⟩
def mO (k:n<=m) (h:(H.take m).all (eI m)=aq) (x:jR m r=aq):Fin n r H r (H.take m):=⟨_,FD k h,rfl,x⟩
def Fin.trans (h:Fin n r H f k) (g:Fin n f k i x):Fin n r H i x:=by have ⟨R,b,c⟩:=h;have ⟨S,y,z⟩:=g;exact ⟨_,b.trans y,_,c,z⟩
def uP {n id ver:Nat} {r:AV} {ob:bC} (y:aH H id ver=ak ob) (h:ob.xs.all (fun x=>x.all b8)=aq):Fin n r H (dT id ver ob.k ob.xs r) (H.set id an):=⟨_,lZ y h,rfl⟩
end
section
variable {P:Program} {dl:List Deferred} {fo:Option Nat} {N:Nat} {e:Env} {H H':aE} {v:AV}
inductive Md where
 | any
 | aR
 | xO
 | Gi
 | loc
def cF (P:Program) (f:FuncId) (args:List AV) (H:aE) (Post:AV->aE->Prop):Prop :=
 mL P f/\∀I β w vs,Sim I β H w->bJ I β args vs->Calls P f vs.toArray w fun e w'=>∃rv r H' I' β',e = .returned rv/\Ext I β H w I' β' H' w'/\Sim I' β' H' w'/\Rel I' β' r rv/\Post r H'
def bK.q (h:bK P f args H r H'):cF P f args H fun v G=>v=r/\G=H':=by refine ⟨h.1,fun I β w c s b=>(h.2 I β w c s b).mono ?_⟩;rintro e i ⟨rv,k,g,x,y,z,a⟩;exact ⟨rv,r,H',k,g,x,y,z,a,rfl,rfl⟩
def cF.mono (h:cF P f args H R) (g:∀v G,R v G->S v G):cF P f args H S:=by refine ⟨h.1,fun I β w i s c=>(h.2 I β w i s c).mono ?_⟩;rintro e l ⟨rv,r,H',k,j,x,y,z,a,b⟩;exact ⟨rv,r,H',k,j,x,y,z,a,g _ _ b⟩
def zV (fr:Md):AOp->Md
 | .iW _ _=>match fr with
  | .aR => .Gi
  | .xO => .loc
  | fr=>fr
 | _=>fr
def bW (P:Program) (fr:Md) (op:AOp) (e:Env) (H:aE) (K:AV->aE->Prop):Prop :=
 match dU op e with
 | some (f,args)=>match zV fr op with
  | .any=>∃Post,cF P f args H Post/\∀v H',Post v H'->K v H'
  | .Gi=>∃v H',bK P f args H v H'/\K v H'
  | .aR=>∃v,bK P f args H v H/\K v H
  | .xO=>∃v,Ai P f args v/\K v H
  | .loc=>∃v a ob ob',mW P f args v a ob ob'/\dJ H a=ak ob/\K v (H.set a (ak ob'))
 | none=>match eO op e H with
  | some (v,H')=>K v H'
  | none=>False
def RW (P:Program) (fr:Md):List bA->Env->aE->(Env->aE->Prop)->Prop
 | [],e,H,Q=>Q e H
 | o::r,e,H,Q=>match dD o.g e with
  | some aq=>bW P fr o.op e H fun v H'=>RW P fr r (dF o.dst v e) H' Q
  | some ar=>RW P fr r (dF o.dst (.bI []) e) H Q
  | none=>False
def RW.wp {ops:Array Oper} {k:List bA} (q:ea P N ops ops.toList k=aq) {Q:Exit->Act->World->Prop}:∀(r:List bA) (i:Nat),k.drop i=r->∀{e:Env} {H:aE} {I:Imm} {β:Bet} {a:Act} {w:World} {j:Env->aE->Prop},
  RW P .any r e H j->bH dl N I β e H a w->(∀G w' J H',Out dl N I β H w J H' G w'->j J H'->Q .normal G w')->wpOpsIn (FR fo) 0 P ops Q (List.range' i (ae r)) a w
 | [],i,_,e,H,I,β,a,w,j,h,s,o=>by simp only[XQ,List.range'_zero,wpOpsIn];exact o a w e H ⟨I,β,.refl _ _ _ _,s⟩ h
 | ao::r,i,L,e,H,I,β,a,w,j,h,s,o=>by
  obtain ⟨T,R⟩:=eh q;have M:k[i]?=ak ao:=by have:=ZW (fun l=>l[0]?) L;simp at this;exact this
  have U:=(W9.1 M).1;have A:i < ops.size:=by simp at T;omega
  have n:=Xp A;have z:=R i ops[i] ao (by simp[n]) M;have c:k.drop (i+1)=r:=by rw[<-Ya,L];rfl
  have ⟨x,g,_⟩:=im z;simp only[XG,aay,wpOpsIn,n];unfold RW at h;split at h
  .rename_i D;rw[W0 (eB z s D)];unfold bW at h;split at h
   .rename_i f args y;have h:∃Post,cF P f args H Post/\∀v H',Post v H'->RW P .any r (dF ao.dst v e) H' j:=by
     have V:zV .any ao.op = .any:=by cases ao.op<;>rfl
     rw[V] at h;exact h
    have ⟨Post,m,S⟩:=h;refine iV z s y m.1 (fun vs hr=>m.2 I β w vs s.bm hr) ?_;rintro en w' ⟨rv,v,H',O,a0,rfl,p,E,b,hp⟩;exact ⟨rv,rfl,RW.wp q r (i+1) c (S v H' hp) (x ▸ s.put p E g b) fun X F W K B=>o _ _ _ _ (B.step p)⟩
   .rename_i y;split at h
    .rename_i v H1 C;refine jJ z s C fun rv O a0 w' p E b _=>?_;exact RW.wp q r (i+1) c h (x ▸ s.put p E g b) fun X F W K B=>o _ _ _ _ (B.step p)
    .exact h.elim
  .rename_i D;rw[WX (by rw[eB z s D];simp)];rw[x];exact ⟨fun _ _=>trivial,RW.wp q r (i+1) c h (s.put (.refl _ _ _ _) s.bm (fun t ht=>g t (x ▸ ht)) yK) o⟩
  .exact h.elim
def MR {aR:List Nat} {ops:List bA} {Q:bN} (h:RW P .any ops e H fun c H'=>Q .normal (cG aR c) H'):AW P N (.ki aR ops) Q e H:=by
 intro k z fo dl I β a w s;have b:=z;cases k<;>try (simp only[dE,W3] at b;done)
 rename_i p x g;cases g<;>simp only[dE,W3] at z;have i:x.size=ae ops:=by have:=(eh z).1;simpa using this
 refine wpIn_region ?_;rw[aa4,i];refine RW.wp z ops 0 rfl h s fun o q c H' y j=>?_;have ⟨f,n,m,l⟩:=y;exact ⟨f,n,_,H',m,l.aR aR,j⟩
def lg:Nat->List bA->List Nat
 | _,[]=>[]
 | i,o::r=>if o.op.cP then i::lg (i+1) r else lg (i+1) r
def RW.iQ {md:List Nat}:∀{ops:List bA} {i:Nat} {e:Env} {H:aE} {Q:Env->aE->Prop},(∀j,j∈lg i ops->fv md j=aq)->RW P .aR ops e H Q->∃z x H' k,iQ md i ops e H z=ak (x,H',k)/\EG P k/\Q x H'
 | [],i,e,H,Q,_,h=>⟨[],e,H,[],rfl,trivial,h⟩
 | o::r,i,e,H,Q,hm,h=>by
  have y:∀j,j∈lg (i+1) r->fv md j=aq:=fun j t=>hm j (by unfold lg;split<;>simp[t]);unfold RW at h;split at h
  .rename_i g;unfold bW at h;split at h
   .rename_i f args l;have h:(∃v,bK P f args H v H/\RW P .aR r (dF o.dst v e) H Q)\/(o.op.cP=aq/\∃v H',bK P f args H v H'/\RW P .aR r (dF o.dst v e) H' Q):=by cases K:o.op<;>simp only[K,zV] at h<;>first | exact .inl h | exact .inr ⟨rfl,h⟩
    rcases h with h | ⟨c,v,m,n,p⟩
    case inr =>
     have ⟨z,x,H',k,w,a,b⟩:=RW.iQ y p;have q:=hm i (by unfold lg;rw[W0 c];simp);exact ⟨(v,ak m)::z,x,H',⟨f,args,H,v,m⟩::k,by simp only[Fx.iQ,g,l,q,abh,Yy,Bool.and_false,W3,YC,XT,w,XL],⟨n,a⟩,b⟩
    have ⟨v,n,p⟩:=h;have ⟨z,x,H',k,w,a,b⟩:=RW.iQ y p;exact ⟨(v,an)::z,x,H',⟨f,args,H,v,H⟩::k,by simp only[Fx.iQ,g,l,Option.isSome_none,Yw,W3,YC,Option.getD_none,w,XL],⟨n,a⟩,b⟩
   .rename_i l;split at h
    .rename_i v m X;have s:(o.op.cP && !(fv md i))=ar:=by
      cases c:o.op.cP with
      | false=>rfl
      | true=>rw[hm i (by unfold lg;rw[W0 c];simp)];rfl
     have ⟨z,x,H',k,w,a,b⟩:=RW.iQ y h;exact ⟨z,x,H',k,by simp only[Fx.iQ,g,l,s,W3,YC,X,w],a,b⟩
    .exact h.elim
  .rename_i g;have ⟨z,x,H',k,w,a,b⟩:=RW.iQ y h;exact ⟨z,x,H',k,by simp only[Fx.iQ,g,w],a,b⟩
  .exact h.elim
def od (i:Nat):List (Nat × List Nat × List Nat)->List Nat
 | []=>[]
 | (j,w,_)::r=>if j=i then w else od i r
def rz (i:Nat):List (Nat × List Nat × List Nat)->List Nat
 | []=>[]
 | (j,_,l)::r=>if j=i then l else rz i r
def RWC (P:Program):Nat->List bA->Env->aE->List (Nat × List Nat × List Nat)->(Env->aE->List (Nat × List Nat × List Nat)->Prop)->Prop
 | _,[],e,H,acc,Q=>Q e H acc
 | i,o::r,e,H,acc,Q=>match dD o.g e with
  | some aq=>bW P .xO o.op e H fun v H'=>(H'.drop (ae H)).all (eI (ae H))=aq/\RWC P (i+1) r (dF o.dst v e) H' ((i,gG o.op e (ae H),gT o.op e)::acc) Q
  | some ar=>RWC P (i+1) r (dF o.dst (.bI []) e) H ((i,[],[])::acc) Q
  | none=>False
def fL (a:Nat):List Nat->Prop
 | []=>True
 | b::r=>a≠b/\fL a r
def zL:List Nat->List Nat->Prop
 | [],_=>True
 | a::r,l=>fL a l/\zL r l
def ke (acc:List (Nat × List Nat × List Nat)):List (Nat × Nat)->Prop
 | []=>True
 | (i,j)::r=>zL (od i acc) (od j acc++rz j acc)/\ke acc r
def HP (h:fL a l):a∉l:=by
 induction l with
 | nil=>simp
 | cons b r k=>simp only[X3,not_or];exact ⟨h.1,k h.2⟩
def IP (h:zL l m):∀a,a∈l->a∉m:=by
 induction l with
 | nil=>simp
 | cons b r x =>
  intro a k;rcases X3.1 k with rfl | k
  .exact HP h.1
  .exact x h.2 a k
def FO (h:ke acc l):∀i j,(i,j)∈l->∀a,a∈od i acc->a∉od j acc/\a∉rz j acc:=by
 induction l with
 | nil=>simp
 | cons p r z =>
  have ⟨w,b⟩:=p;intro i j k a x;rcases X3.1 k with y | k
  .cases y;have:=IP h.1 a x;simpa using this
  .exact z h.2 i j k a x
def AOp.qu:AOp->Bool
 | .ld _ _ _ | .nj _ _ _ _ _=>aq
 | _=>ar
def Gw (b:List Nat) (dn:List (Nat × Nat)) (aops:List bA) (i j:Nat):Bool :=
 match aops[i]?,aops[j]? with
 | some x,ak y=>i==j || ((!gK x y || ie b i j)&&(!(x.op.cP&&(y.op.cP || y.op.qu)) || ie b i j || dn.contains (i,j)))
 | _,_=>aq
def yF (ed:List (List Nat)) (dn:List (Nat × Nat)) (aops:List bA):Bool :=
 dy 0 ed&&decide (ae ed=ae aops)&&(aC (ae aops)).all (fun i=>(aC (ae aops)).all fun j=>Gw (gQ ed []) dn aops i j)
def uS (h:a∈gG o e n):o.cP=aq:=by cases o<;>simp[gG] at h<;>rfl
def xl (h:a∈gT o e):o.cP=aq\/o.qu=aq:=by cases o<;>simp[gT] at h<;>first | exact .inl rfl | exact .inr rfl
def AOp.Eu:AOp->Bool
 | .iW _ _=>aq
 | _=>ar
def RWC.trace {fl:Prop}:∀{ops:List bA} {i:Nat} {e:Env} {H:aE} {acc:List (Nat × List Nat × List Nat)} {Q:Env->aE->List (Nat × List Nat × List Nat)->Prop},(∀o,o∈ops->o.op.Eu=aq->fl)->RWC P i ops e H acc Q ->
  ∃(E:Nat->Env) (G:Nat->aE) (V:Nat->AV) (W R:Nat->List Nat) (k:List (Nat × List Nat × List Nat)),E 0=e/\G 0=H/\(∀(j:Nat) x,ops[j]?=ak x->kA P fl x (E j) (G j) (V j) (G (j+1)) (W j) (R j)/\E (j+1)=dF x.dst (V j) (E j))/\Q (E (ae ops)) (G (ae ops)) k /\
   (∀j,j < ae ops->od (i+j) k=W j/\rz (i+j) k=R j)/\(∀j,j < i->od j k=od j acc/\rz j k=rz j acc)/\(∀(j:Nat) x a,ops[j]?=ak x->(a∈W j->x.op.cP=aq)/\(a∈R j->x.op.cP=aq\/x.op.qu=aq))
 | [],i,e,H,acc,Q,_,h=>⟨fun _=>e,fun _=>H,fun _ => .aY,fun _=>[],fun _=>[],acc,rfl,rfl,fun j x h=>by simp at h,h,fun j h=>by simp at h,fun j _=>⟨rfl,rfl⟩,fun j x a h=>by simp at h⟩
 | o::r,i,e,H,acc,Q,hm,h=>by
  unfold RWC at h;have key:∀(v:AV) (m:aE) (q r0:List Nat),kA P fl o e H v m q r0->(∀a,(a∈q->o.op.cP=aq)/\(a∈r0->o.op.cP=aq\/o.op.qu=aq))->RWC P (i+1) r (dF o.dst v e) m ((i,q,r0)::acc) Q ->
    ∃(E:Nat->Env) (G:Nat->aE) (V:Nat->AV) (W R:Nat->List Nat) (k:List (Nat × List Nat × List Nat)),E 0=e/\G 0=H/\(∀(j:Nat) x,(o::r)[j]?=ak x->kA P fl x (E j) (G j) (V j) (G (j+1)) (W j) (R j)/\E (j+1)=dF x.dst (V j) (E j))/\Q (E (ae (o::r))) (G (ae (o::r))) k /\
     (∀j,j < ae (o::r)->od (i+j) k=W j/\rz (i+j) k=R j)/\(∀j,j < i->od j k=od j acc/\rz j k=rz j acc)/\(∀(j:Nat) x a,(o::r)[j]?=ak x->(a∈W j->x.op.cP=aq)/\(a∈R j->x.op.cP=aq\/x.op.qu=aq)):=by
   intro v m q r0 B C J;have ⟨E,G,V,W,R,k,l,s,K,X,F,D,I⟩:=RWC.trace (fun o b=>hm o (by simp[b])) J;refine ⟨fun j=>match j with | 0=>e | j+1=>E j,fun j=>match j with | 0=>H | j+1=>G j,fun j=>match j with | 0=>v | j+1=>V j,fun j=>match j with | 0=>q | j+1=>W j,fun j=>match j with | 0=>r0 | j+1=>R j,k,rfl,rfl,?_,X,?_,?_,?_⟩
   .intro j x w;cases j with
    | zero=>simp at w;subst w;exact ⟨by simp only[s];exact B,l⟩
    | succ j=>exact K j x (bk w)
   .intro j w;cases j with
    | zero =>
     have:=D i aD;simp only[od,rz,Yj] at this;exact this
    | succ j =>
     have:=F j (bk w);rw[show i+(j+1)=i+1+j by omega];exact this
   .intro j w;have:=D j aD;simp only[od,rz,WX (show ¬i=j by omega)] at this;exact this
   .intro j x a w;cases j with
    | zero=>simp at w;subst w;exact C a
    | succ j=>exact I j x a (bk w)
  split at h
  .rename_i p;unfold bW at h;split at h
   .rename_i f args c;cases n:o.op.Eu with
    | true =>
     have h:∃v a t z,mW P f args v a t z/\dJ H a=ak t/\((H.set a (ak z)).drop (ae H)).all (eI (ae H))=aq/\RWC P (i+1) r (dF o.dst v e) (H.set a (ak z)) ((i,gG o.op e (ae H),gT o.op e)::acc) Q:=by
      have g:zV .xO o.op = .loc:=by cases b:o.op<;>simp[b,AOp.Eu] at n<;>rfl
      rw[g] at h;exact h
     have ⟨v,a,t,z,l,s,_,X⟩:=h;refine key v _ _ _ (.loc f args a t z p c l s rfl ?_ (hm o aK n)) (fun a=>⟨fun y=>uS y,fun y=>xl y⟩) X;have A:gG o.op e (ae H)=args.flatMap aF:=by cases b:o.op<;>simp[b,AOp.Eu] at n;rw[b] at c;simp only[dU] at c;cases c;rfl
     rw[A];exact l.1
    | false =>
    have h:∃v,Ai P f args v/\(H.drop (ae H)).all (eI (ae H))=aq/\RWC P (i+1) r (dF o.dst v e) H ((i,gG o.op e (ae H),gT o.op e)::acc) Q:=by
     have g:zV .xO o.op = .xO:=by cases b:o.op<;>simp[b,AOp.Eu] at n<;>rfl
     rw[g] at h;exact h
    have ⟨v,l,s,K⟩:=h;refine key v H _ _ (.call f args p c l rfl ?_) (fun a=>⟨fun y=>uS y,fun y=>xl y⟩) K;cases b:o.op<;>simp[b,dU,AOp.Eu] at c n<;>rfl
   .rename_i c;split at h
    .rename_i v m L;exact key v m _ _ (.op p c L h.1 rfl rfl) (fun a=>⟨fun y=>uS y,fun y=>xl y⟩) h.2
    .exact h.elim
  .rename_i p;exact key (.bI []) H [] [] (.off p rfl rfl rfl) (fun a=>aK) h
  .exact h.elim
def RWC.may (l:yF o dn ops=aq) (f:ke acc dn) (C:∀j,j < ae ops->od (0+j) acc=W j/\rz (0+j) acc=R j)
  (p:∀(j:Nat) m a,ops[j]?=ak m->(a∈W j->m.op.cP=aq)/\(a∈R j->m.op.cP=aq\/m.op.qu=aq)):uu o ops W R:=by
 simp only[yF,WZ,Xm] at l;have ⟨⟨G,I⟩,J⟩:=l;have pair:∀{i j:Nat} {x y:bA},ops[i]?=ak x->ops[j]?=ak y->i≠j->((gK x y=aq->ie (gQ o []) i j=aq)/\(x.op.cP=aq->(y.op.cP=aq\/y.op.qu=aq)->ie (gQ o []) i j=aq\/(i,j)∈dn)):=by
  intro i j x y b c k;have F:=W6.1 J i (by simp;exact (W9.1 b).1);have z:=W6.1 F j (by simp;exact (W9.1 c).1);simp only[Gw,b,c,YJ,WZ,X2] at z;rcases z with z | ⟨z,w⟩
  .exact absurd z k
  .refine ⟨fun s=>?_,fun t q=>?_⟩
   .rcases z with z | z
    .simp[s] at z
    .exact z
   .rcases w with (w | w) | w
    .have r:(y.op.cP || y.op.qu)=aq:=by rcases q with h | h<;>simp[h]
     simp[t,r] at w
    .exact .inl w
    .exact .inr (bk w)
 refine ⟨G,I,fun b c k s=>(pair b c k).1 s,fun {i j id} b c k D g=>?_⟩;have E:=W7 b;have K:=W7 c;have t:=(p i _ id E).1 D;have q:ops[j].op.cP=aq\/ops[j].op.qu=aq:=by
  rcases g with h | h
  .exact .inl ((p j _ id K).1 h)
  .exact (p j _ id K).2 h
 rcases (pair E K k).2 t q with h | h
 .exact h
 .exfalso;have X:=C i b;have n:=C j c;simp only[Xb] at X n;have ⟨A,B⟩:=FO f i j h id (X.1 ▸ D);rw[n.1] at A;rw[n.2] at B;rcases g with h | h
  .exact A h
  .exact B h
def cM:bL->Bool
 | .tp _ ed ops=>gz ed (lg 0 ops) ops
 | .pX _ ed dn ops=>yF ed dn ops&&ops.all fun o => !o.op.Eu
 | .rI _ ed dn ops=>yF ed dn ops
 | .vm _ ed ops _=>dy 0 ed&&gz (ed.take (ae ops)) (lg 0 ops) ops&&(aC (ae ops)).all fun i=>ie (gQ ed []) i (ae ops)
 | .rJ _ ed ops suf=>dy 0 ed&&gz (ed.take (ae ops)) (lg 0 ops) ops&&(aC (ae suf)).all fun j=>(aC (ae ops+j)).all fun i=>ie (gQ ed []) i (ae ops+j)
 | .seq a b=>cM a&&cM b
 | .cond _ a b=>cM a&&cM b
 | .block _ a=>cM a
 | .loop _ a=>cM a
 | .vZ _ _ a b=>cM a&&cM b
 | .wk a=>cM a
 | _=>aq
def Al (P:Program) (N:Nat) (aR:List Nat) (c:bL) (Q:bN) (e:Env) (H:aE):Prop:=cM c=aq->AW P N (.loop aR c) Q e H
def oW (v:AV) (A B:Prop):Prop:=∃b,v = .c (.bool b)/\(b=aq->A)/\(b=ar->B)
def WP (P:Program) (N:Nat):bL->bN->Env->aE->Prop
 | .skip,Q,e,H=>Q .normal e H
 | .ki aR ops,Q,e,H=>RW P .any ops e H fun e' H'=>Q .normal (cG aR e') H'
 | .tp aR _ ops,Q,e,H=>RW P .aR ops e H fun e' H'=>Q .normal (cG aR e') H'
 | .pX aR _ dn ops,Q,e,H=>RWC P 0 ops e H [] fun e' H' acc=>ke acc dn/\Q .normal (cG aR e') H'
 | .rI aR _ dn ops,Q,e,H=>RWC P 0 ops e H [] fun e' H' acc=>(ke acc dn/\ae H'=ae H)/\Q .normal (cG aR e') H'
 | .vm aR _ ops al,Q,e,H=>RW P .aR ops e H fun e' H'=>RW P .any [al] e' H' fun e2 H2=>Q .normal (cG aR e2) H2
 | .seq a b,Q,e,H=>WP P N a (j4 (WP P N b Q) Q) e H
 | .cond c a b,Q,e,H=>oW (c.ev e) (WP P N a Q e H) (WP P N b Q e H)
 | .block id a,Q,e,H=>WP P N a (nu id Q) e H
 | .loop aR a,Q,e,H=>Al P N aR a Q e H
 | .exit id,Q,e,H=>Q (.exit id) e H
 | .wk a,Q,e,H=>∃e2 H2,s5 (ae H) e H e2 H2/\WP P N a Q e2 H2
 | .label _,Q,e,H=>Q .normal e H
 | .ret,Q,e,H=>Q .ret e H
 | .rJ _ _ _ _,_,_,_=>False
 | .vZ _ _ _ _,_,_,_=>False
 | .bad,_,_,_=>False
def WP.aw:∀{c:bL} {Q:bN} {e:Env} {H:aE},cM c=aq->WP P N c Q e H->AW P N c Q e H
 | .skip,Q,e,H,_,h=>MV h
 | .ki aR ops,Q,e,H,_,h=>MR h
 | .tp aR r ops,Q,e,H,k,h=>by have ⟨os,U,H',F,f,z,y⟩:=RW.iQ (md:=lg 0 ops) (i:=0) (fun j C=>by simpa[fv] using C) h;exact MT (lg 0 ops) k f z y
 | .pX aR r dn ops,Q,e,H,k,h=>by simp only[cM,WZ] at k;have ⟨E,G,V,W,R,n,f,z,y,⟨K,B⟩,X,h6,A⟩:=RWC.trace (fl:=False) (fun o p O=>by have:=W6.1 k.2 o p;simp[O] at this) h;exact MS (RWC.may k.1 K X A) ⟨fun i m g=>(y i m g).1,fun i m g=>(y i m g).2,fun hf=>hf.elim⟩ f z B
 | .rI aR r dn ops,Q,e,H,k,h=>by have ⟨E,G,V,W,R,n,f,z,y,⟨⟨K,h9⟩,B⟩,X,h6,A⟩:=RWC.trace (fl:=True) (fun o p O=>trivial) h;exact MU (RWC.may k K X A) ⟨fun i m g=>(y i m g).1,fun i m g=>(y i m g).2,fun _=>z ▸ h9⟩ f z B
 | .vm aR r ops T,Q,e,H,k,h=>by simp only[cM,WZ] at k;have ⟨os,U,H',F,f,z,y⟩:=RW.iQ (md:=lg 0 ops) (i:=0) (fun j C=>by simpa[fv] using C) h;refine KE (lg 0 ops) k.1.1 k.1.2 (fun i g=>W6.1 k.2 i (bk g)) f z fun L hc I β a w fo dl Qx s q=>?_;exact RW.wp hc [T] (ae ops) aK y s fun S w' M J p hp=>q S w' M J p hp
 | .seq a b,Q,e,H,k,h=>by
  simp only[cM,WZ] at k;refine Oj ((WP.aw k.1 h).mono fun x e H q=>?_);cases x with
  | normal=>exact WP.aw k.2 q
  | _=>exact q
 | .cond c a b,Q,e,H,k,h=>by simp only[cM,WZ] at k;have ⟨t,f,z,y⟩:=h;exact MN f (fun D=>WP.aw k.1 (z D)) (fun D=>WP.aw k.2 (y D))
 | .block id a,Q,e,H,k,h=>KC (WP.aw k h)
 | .loop aR a,Q,e,H,k,h=>h k
 | .exit id,Q,e,H,_,h=>MO h
 | .wk a,Q,e,H,k,h=>by have ⟨M,J,hw,h⟩:=h;exact Pv hw (WP.aw (c:=a) k h)
 | .label l,Q,e,H,_,h=>KD h
 | .ret,Q,e,H,_,h=>Oi h
 | .rJ _ _ _ _,Q,e,H,_,h=>h.elim
 | .vZ _ _ _ _,Q,e,H,_,h=>h.elim
 | .bad,Q,e,H,_,h=>h.elim
def bE {aR:List Nat} {c:bL} {Q:bN} (Inv:Nat->Env->aE->Prop) {n:Nat} (k:Inv n (cG aR e) H)
  (round:∀n e H,Inv n e H->WP P N c (j4 (fun h H'=>∃m,m < n/\Inv m (cG aR h) H') Q) e H):Al P N aR c Q e H :=
 fun y=>MQ Inv k fun n e H x=>WP.aw y (round n e H x)
def ky (rs:List gC) (Post:AV->aE->Prop):bN:=fun x e' H'=>(x = .normal\/x = .ret)/\∃vs,mj e' H' rs=ak vs/\Post (rK vs) H'
def Dd {f:FuncId} {j:bL} {K:List gC} (J:zD P f N j K) {args:List AV} (V:ae args<=N) {Post:AV->aE->Prop}
  (h:AW P N j (ky K Post) (jl args) H):cF P f args H Post:=by
 have ⟨z,body,m,B,o,C,D,E⟩:=J.ok;refine ⟨⟨z,m,B,by simp[o]⟩,fun I β w x s q=>?_⟩;refine calls_of_wp m o ?_;have p:=q.1;have O:bH [] N I β (jl args) H {tmps:=x.toArray++Array.replicate (z.ntmps - x.toArray.size) undef,defers:=[]} w:=by
  refine ⟨s,by simp[C];omega,fun t=>?_,rfl⟩;rw[yA];rcases Xe t (ae args) with a | a
  .have c:args.getD t .aY=args[t]:=by simp[af,a]
   have l:(x.toArray++Array.replicate (z.ntmps - x.toArray.size) undef).getD t undef=x[t]'(by omega):=by rw[W8,YY (by simp;omega)];simp[show t < ae x by omega]
   rw[c,l];exact q.2 t _ _ (by simp[a]) (by simp[show t < ae x by omega])
  .have c:args.getD t .aY = .aY:=by simp[af,a]
   rw[c];exact .aY
 refine wp_mono ((wpIn_wide (n:=0)).1 (h body D an [] I β _ w O)) fun U A w' L=>?_;have ⟨W,T,l,X,S,g,M,R,y,k⟩:=L;have fin:bodyPost P z (fun e w'=>∃rv r H' b i,e = .returned rv/\Ext I β H w b i H' w'/\Sim b i H' w'/\Rel b i r rv/\Post r H') .normal A w':=by have ⟨rv,F,G⟩:=mF g E y;exact ⟨g.mu,rv,F,rv,_,X,W,T,rfl,S,g.bm,G,k⟩
 rcases M with rfl | rfl
 .exact fin
 .exact fin
def KI {f:FuncId} {k:bL} {x:List gC} (z:zD P f N k x) {args:List AV} (w:ae args<=N) (y:cM k=aq) {Post:AV->aE->Prop}
  (h:WP P N k (ky x Post) (jl args) H):cF P f args H Post:=Dd z w (WP.aw y h)
def pQ (rs:List gC) (n:Nat) (r:AV) (H2:aE):bN:=fun x e' H'=>(x = .normal\/x = .ret)/\∃vs,mj e' H' rs=ak vs/\Fin n (rK vs) H' r H2
def MY (z:zD P f N k a) (w:ae args<=N) (y:cM k=aq)
  (h:WP P N k (pQ a (ae H) r x) (jl args) H):bK P f args H r x:=DY z w (WP.aw y h)
end
section
variable {P:Program} {N:Nat} {fr:Md} {e:Env} {H H':aE} {K:AV->aE->Prop} {Q:Env->aE->Prop} {R:bN}
def uv (aR:List Nat) (R:bN):Env->aE->Prop:=fun e H=>R .normal (cG aR e) H
attribute [go_sem] Nat.reduceEqDiff Nat.reduceAdd
@[go_sem] def V5:uv aR R e H=R .normal (cG aR e) H:=(rfl)
def N8 (P:Program) (fr:Md) (n:Nat) (r:List bA) (e:Env) (Q:Env->aE->Prop):AV->aE->Prop:=fun v H=>RW P fr r ((n,v)::e) H Q
@[go_sem] def WO {n:Nat} {r:List bA} {v:AV}:N8 P fr n r e Q v H=RW P fr r ((n,v)::e) H Q:=(rfl)
def N9 (P:Program) (fr:Md) (r:List bA) (e:Env) (Q:Env->aE->Prop):AV->aE->Prop:=fun _ H=>RW P fr r e H Q
@[go_sem] def WQ:N9 P fr r e Q v H=RW P fr r e H Q:=(rfl)
def AtH (K:AV->aE->Prop) (H:aE):AV->Prop:=fun v=>K v H
@[go_sem] def WU:AtH K H v=K v H:=(rfl)
def N3 (K:AV->aE->Prop) (H:aE):List AV->Prop:=fun l=>K (.agg l) H
@[go_sem] def WB:N3 K H l=K (.agg l) H:=(rfl)
def oV (P:Program) (N:Nat) (v:AV) (a b:bL) (R:bN) (e:Env) (H:aE):Prop:=oW v (WP P N a R e H) (WP P N b R e H)
section code
variable {a b:bL}
def SM:WP P N .skip R e H=R .normal e H:=(rfl)
def TX:WP P N (.ki aR ops) R e H=RW P .any ops e H (uv aR R):=(rfl)
def SI:WP P N (.tp aR h ops) R e H=RW P .aR ops e H (uv aR R):=(rfl)
def TZ:WP P N (.seq a b) R e H=WP P N a (j4 (WP P N b R) R) e H:=(rfl)
def SE:WP P N (.cond c a b) R e H=oV P N (c.ev e) a b R e H:=(rfl)
def Re {id:Nat}:WP P N (.block id a) R e H=WP P N a (nu id R) e H:=(rfl)
def SG:WP P N (.loop aR a) R e H=Al P N aR a R e H:=(rfl)
def SF {id:Nat}:WP P N (.exit id) R e H=R (.exit id) e H:=(rfl)
def TY:WP P N .ret R e H=R .ret e H:=(rfl)
attribute [go_sem] SM TX SI TZ SE Re SG SF TY
end code
def Fj {n:Env->aE->Prop}:j4 n R .normal e H=n e H:=(rfl)
def Rb {n:Env->aE->Prop}:j4 n R .ret e H=R .ret e H:=(rfl)
def Qc {n:Env->aE->Prop} {i:Nat}:j4 n R (.exit i) e H=R (.exit i) e H:=(rfl)
def N0:nu i R .normal e H=R .normal e H:=(rfl)
def Px:nu i R .ret e H=R .ret e H:=(rfl)
def FL:nu i R (.exit j) e H=if j=i then R .normal e H else R (.exit j) e H:=(rfl)
def Ta:oV P N (.v0 aq) a b R e H=WP P N a R e H:=by simp[oV,oW]
def S8:oV P N (.v0 ar) a b R e H=WP P N b R e H:=by simp[oV,oW]
def S7 {p:Prop} [Decidable p] {a b:bL}:oV P N (.v0 (decide p)) a b R e H=((p->WP P N a R e H)/\(¬p->WP P N b R e H)):=by simp[oV,oW]
def S9 {p:Bool} {a b:bL}:oV P N (.v0 (!p)) a b R e H=oV P N (.v0 p) b a R e H:=by cases p<;>simp[oV,oW]
def WH {n:Nat}:Opd.ev e (.t n)=lk n e:=(rfl)
def WG {a:AV}:Opd.ev e (.k a)=a:=(rfl)
def Uk {n:Int}:Opd.ev e (i64 n) = .q0 n:=(rfl)
def Ul {n:Int}:Opd.ev e (u32 n) = .c (.int .u32 n):=(rfl)
def Um {n:Int}:Opd.ev e (u64 n) = .c (.int .u64 n):=(rfl)
def TF {t s:Nat} {v:AV}:lk t ((s,v)::e)=if s=t then v else lk t e:=(rfl)
def QO:cG [] e=[]:=(rfl)
def PK {t:Nat} {r:List Nat}:cG (t::r) e=(t,lk t e)::cG r e:=(rfl)
attribute [go_sem] Fj Rb Qc N0 Px FL Ta S8 S7 S9 WH WG Uk Ul Um TF QO PK
def uF (i:Nat):List AV->Env
 | []=>[]
 | a::r=>(i,a)::uF (i+1) r
def KA (l:List AV) (i:Nat):(l.zipIdx i).map (fun p=>(p.2,p.1))=uF i l:=by
 induction l generalizing i with
 | nil=>rfl
 | cons a r h=>simp[uF,h]
def SP:jl l=uF 0 l:=KA l 0
def Qp:uF i []=[]:=(rfl)
def Pt {i:Nat} {a:AV} {r:List AV}:uF i (a::r)=(i,a)::uF (i+1) r:=(rfl)
def TW:RW P fr [] e H Q=Q e H:=(rfl)
def Wz {n:Nat} {o:AOp} {r:List bA}:RW P fr (d n o::r) e H Q=bW P fr o e H (N8 P fr n r e Q):=(rfl)
def WA:RW P fr (u o::r) e H Q=bW P fr o e H (N9 P fr r e Q):=(rfl)
attribute [go_sem] SP Qp Pt TW Wz WA
def tx (P:Program) (fr:Md) (v:AV) (b:Bool) (o:bA) (r:List bA) (e:Env) (H:aE) (Q:Env->aE->Prop):Prop:=match (match v with
  | .c (.bool c)=>ak (c==b)
  | .bI []=>ak ar
  | _=>an) with
 | some aq=>RW P fr (⟨o.dst,o.op,an⟩::r) e H Q
 | some ar=>RW P fr r (dF o.dst (.bI []) e) H Q
 | none=>False
@[go_sem] def Vy {n s:Nat} {b:Bool} {o:AOp} {r:List bA}:RW P fr (dg n o s b::r) e H Q=tx P fr (lk s e) b (d n o) r e H Q:=(rfl)
abbrev zE:=List (Nat × List Nat × List Nat)
def Mb (dn:List (Nat × Nat)) (aR:List Nat) (R:bN):Env->aE->zE->Prop:=fun e H acc=>ke acc dn/\R .normal (cG aR e) H
@[go_sem] def VD:Mb dn aR R e H acc=(ke acc dn/\R .normal (cG aR e) H):=(rfl)
def Ma (n:Nat) (dn:List (Nat × Nat)) (aR:List Nat) (R:bN):Env->aE->zE->Prop:=fun e H acc=>(ke acc dn/\ae H=n)/\R .normal (cG aR e) H
def VC {n:Nat} {dn:List (Nat × Nat)} {aR:List Nat} {acc:zE}:Ma n dn aR R e H acc=((ke acc dn/\ae H=n)/\R .normal (cG aR e) H):=(rfl)
def SL:WP P N (.rI aR h dn ops) R e H=RWC P 0 ops e H [] (Ma (ae H) dn aR R):=(rfl)
attribute [go_sem] VC SL
def Mg (P:Program) (al:bA) (aR:List Nat) (R:bN):Env->aE->Prop:=fun e H=>RW P .any [al] e H (uv aR R)
def VW:Mg P h aR R e H=RW P .any [h] e H (uv aR R):=(rfl)
def SK:WP P N (.vm aR w ops h) R e H=RW P .aR ops e H (Mg P h aR R):=(rfl)
def SH:WP P N (.pX aR h dn ops) R e H=RWC P 0 ops e H [] (Mb dn aR R):=(rfl)
attribute [go_sem] VW SK SH
def Kp (P:Program) (i:Nat) (dst:Option Nat) (o:AOp) (r:List bA) (e:Env) (H0:aE) (acc:zE) (Q:Env->aE->zE->Prop):AV->aE->Prop :=
 fun v H=>(H.drop (ae H0)).all (eI (ae H0))=aq/\RWC P (i+1) r (dF dst v e) H ((i,gG o e (ae H0),gT o e)::acc) Q
section
variable {i n s:Nat} {o:AOp} {r:List bA} {acc:zE} {QC:Env->aE->zE->Prop} {H0:aE} {dst:Option Nat}
def WN:Kp P i dst o r e H0 acc QC v H=((H.drop (ae H0)).all (eI (ae H0))=aq/\RWC P (i+1) r (dF dst v e) H ((i,gG o e (ae H0),gT o e)::acc) QC):=(rfl)
def Q6:dF (ak n) v e=(n,v)::e:=(rfl)
def Q5:dF an v e=e:=(rfl)
def SD:RWC P i [] e H acc QC=QC e H acc:=(rfl)
def Vw:RWC P i (d n o::r) e H acc QC=bW P .xO o e H (Kp P i (ak n) o r e H acc QC):=(rfl)
def Vx:RWC P i (u o::r) e H acc QC=bW P .xO o e H (Kp P i an o r e H acc QC):=(rfl)
def PB:ke acc []=True:=(rfl)
def Po:ke acc ((i,j)::c)=(zL (od i acc) (od j acc++rz j acc)/\ke acc c):=(rfl)
def RQ:od i ((j,w,l)::acc)=if j=i then w else od i acc:=(rfl)
def RP:rz i ((j,w,l)::acc)=if j=i then l else rz i acc:=(rfl)
def Rv:zL [] l=True:=(rfl)
def Qz {a:Nat} {m l:List Nat}:zL (a::m) l=(fL a l/\zL m l):=(rfl)
def QR {a:Nat}:fL a []=True:=(rfl)
def PM {a b:Nat} {l:List Nat}:fL a (b::l)=(¬a=b/\fL a l):=(rfl)
def QK {id a b c:Nat}:aF (.ptr id a b c)=[id]:=(rfl)
def RK {k id a b c:Nat}:aF (.sl k id a b c)=[id]:=(rfl)
def QM:aF (.seq k f xs)=[]:=(rfl)
def Q2 {a:Nat}:nN a []=[a]:=(rfl)
def PO {a b:Nat} {l:List Nat}:nN a (b::l)=b::l:=(rfl)
def Pq {k v m:Nat} {xs:List (List AV)}:eI m (ak ⟨k,v,xs⟩)=xs.all fun x=>x.all (ck m):=(rfl)
def UJ {m:Nat} {v:Value}:ck m (.c v)=aq:=(rfl)
def RH {m:Nat}:ck m .nil=aq:=(rfl)
def Te {α:Type} {l m:List α}:(l++m).drop (ae l)=m:=aar ..
def Td {α:Type} {l:List α}:l.drop (ae l)=[]:=YX ..
attribute [go_sem] WN Q6 Q5 SD Vw Vx PB Po RQ RP Rv Qz QR PM QK RK QM Q2 PO Pq UJ RH Te Td
end
section feet
variable {m:Nat}
def UB:gG (.mv x) e m=[]:=(rfl)
def Ut:gT (.mv x) e=[]:=(rfl)
def Uw {z:List AV} {p:List (Nat × Nat × Opd)}:gG (.bd z p) e m=[]:=(rfl)
def Uo {z:List AV} {p:List (Nat × Nat × Opd)}:gT (.bd z p) e=[]:=(rfl)
def Ux {k:Nat} {p:List Opd}:gG (.bs k p) e m=[]:=(rfl)
def Up {k:Nat} {p:List Opd}:gT (.bs k p) e=[]:=(rfl)
def UC:gG (.nc x) e m=[]:=(rfl)
def Uu:gT (.nc x) e=[]:=(rfl)
def Ts {b:BinOp} {x y:Opd}:gG (.bin b x y) e m=[]:=(rfl)
def Tl {b:BinOp} {x y:Opd}:gT (.bin b x y) e=[]:=(rfl)
def Uy:gG (.fa x k) e m=[]:=(rfl)
def Uq:gT (.fa x k) e=[]:=(rfl)
def Tu:gG (.vX x y k) e m=[]:=(rfl)
def Tn:gT (.vX x y k) e=[]:=(rfl)
def RA {f:FuncId} {a:List Opd}:gG (.call f a) e m=[]:=(rfl)
def Rz {f:FuncId} {a:List Opd}:gT (.call f a) e=[]:=(rfl)
def QH {f:FuncId} {a:List Opd}:gG (.iW f a) e m=(a.map (Opd.ev e)).flatMap aF:=(rfl)
def QG {f:FuncId} {a:List Opd}:gT (.iW f a) e=[]:=(rfl)
def Tw:gG (.len x) e m=[]:=(rfl)
def Tp:gT (.len x) e=[]:=(rfl)
def Tv {x:Opd} {b:Bool} {k:Nat}:gG (.xB x b k) e m=[]:=(rfl)
def To {x:Opd} {b:Bool} {k:Nat}:gT (.xB x b k) e=[]:=(rfl)
def Uz {x:Opd} {b:Bool} {k:Nat}:gG (.ld x b k) e m=[]:=(rfl)
def Ur {x:Opd} {b:Bool} {k:Nat}:gT (.ld x b k) e=aF (x.ev e):=(rfl)
def UD:gG (.st x y k) e m=aF (x.ev e):=(rfl)
def Uv:gT (.st x y k) e=aF (x.ev e):=(rfl)
def Tr:gG (.app x y k) e m=nN m (aF (x.ev e)):=(rfl)
def Tk:gT (.app x y k) e=aF (x.ev e)++aF (y.ev e):=(rfl)
def Tx {k:Nat} {z:List AV}:gG (.new k z) e m=[m]:=(rfl)
def Tq {k:Nat} {z:List AV}:gT (.new k z) e=[]:=(rfl)
def Tt {k:Nat} {p:List Opd}:gG (.qe k p) e m=[m]:=(rfl)
def Tm {k:Nat} {p:List Opd}:gT (.qe k p) e=[]:=(rfl)
def UA {k:Nat} {z:List AV} {x y:Opd}:gG (.mk k z x y) e m=[m]:=(rfl)
def Us {k:Nat} {z:List AV} {x y:Opd}:gT (.mk k z x y) e=[]:=(rfl)
attribute [go_sem] UB Ut Uw Uo Ux Up UC Uu Ts Tl Uy Uq Tu Tn RA Rz QH QG Tw Tp Tv To Uz Ur UD Uv Tr Tk Tx Tq Tt Tm UA Us
end feet
section
variable {n:Nat} {o:AOp} {r:List bA} {p:bA}
def RE:tx P fr (.v0 aq) aq (d n o) r e H Q=RW P fr (d n o::r) e H Q:=(rfl)
def RB:tx P fr (.v0 ar) ar (d n o) r e H Q=RW P fr (d n o::r) e H Q:=(rfl)
def RD:tx P fr (.v0 aq) ar (d n o) r e H Q=RW P fr r ((n,.bI [])::e) H Q:=(rfl)
def RC:tx P fr (.v0 ar) aq (d n o) r e H Q=RW P fr r ((n,.bI [])::e) H Q:=(rfl)
def Ty {b:Bool}:tx P fr (.bI []) b (d n o) r e H Q=RW P fr r ((n,.bI [])::e) H Q:=(rfl)
attribute [go_sem] RE RB RD RC Ty
end
def bD {α:Type} (o:Option α) (K:α->Prop):Prop:=match o with
 | some v=>K v
 | none=>False
@[go_sem] def pF {α:Type} {v:α} {K:α->Prop}:bD (ak v) K=K v:=(rfl)
def gO {α γ:Type} {o:Option α} {f:α->Option γ} {K:γ->Prop}:bD (o.bind f) K=bD o fun x=>bD (f x) K:=by cases o<;>rfl
def rE {α γ:Type} {o:Option α} {f:α->γ} {K:γ->Prop}:bD (o.map f) K=bD o fun x=>K (f x):=by cases o<;>rfl
def dM {α:Type} {c:Prop} [Decidable c] {v:α} {K:α->Prop}:bD (if c then ak v else an) K=(c/\K v):=by by_cases h:c<;>simp[h,bD]
def sI {α:Type} {c:Prop} [Decidable c] {o:Option α} {K:α->Prop}:bD (if c then o else an) K=(c/\bD o K):=by by_cases h:c<;>simp[h,bD]
def dA (h:dU o e=an) (w:hv o e H=an):bW P fr o e H K=bD (pv o e) fun v=>K v H:=by simp only[bW,h,eO];cases c:pv o e<;>simp[bD,w]
def jZ (h:dU o e=an) (w:pv o e=an):bW P fr o e H K=bD (hv o e H) fun v=>K v.1 v.2:=by simp only[bW,h,eO,w];cases c:hv o e H<;>simp[bD]
section ops
variable {x y z:Opd} {k:Nat}
@[go_sem] def Wu:bW P fr (.mv x) e H K=K (x.ev e) H:=(rfl)
def Mh (c a b:AV) (K:AV->Prop):Prop:=bD (match c with | .c (.bool t)=>ak (if t then a else b) | _=>an) K
def TP:bW P fr (.pick x y z) e H K=Mh (x.ev e) (y.ev e) (z.ev e) (AtH K H):=(dA rfl rfl)
def TH {t:Bool} {a b:AV} {K:AV->Prop}:Mh (.v0 t) a b K=K (if t then a else b):=(rfl)
def Vc {z:List AV}:bW P fr (.new k z) e H K=((ae z=k/\z.all bh=aq)/\K (.ptr (ae H) 0 0 0) (H++[ak ⟨k,0,[z]⟩])):=by rw[jZ rfl rfl];simp only[hv,dM]
def U3:bW P fr (.box x) e H K=((x.ev e).cells.all cN=aq/\K (.fp (x.ev e).cells 0) H):=by rw[dA rfl rfl];simp only[pv,dM]
def TN:bW P fr (.nz x) e H K=((x.ev e).cells.all bh=aq/\K (.ptr (ae H) 0 0 0) (H++[ak ⟨(x.ev e).cells.length,0,[(x.ev e).cells]⟩])):=by rw[jZ rfl rfl];simp only[hv,dM]
def Wj {z:List AV} {h:List (Nat × Nat × Opd)}:bW P fr (.bd z h) e H K=((h.all (fun p=>eC (p.2.2.ev e))=aq)/\bD (lJ z (h.map fun p=>(p.1,p.2.1,p.2.2.ev e))) (N3 K H)):=by rw[dA rfl rfl];simp only[pv,sI,rE];rfl
def Wk:bW P fr (.bs k h) e H K=(h.all (fun p=>(p.ev e).cells.all cN&&(p.ev e).cells.length==k)=aq/\K (.seq k aq (h.map fun p=>(p.ev e).cells)) H):=by rw[dA rfl rfl];simp only[pv,dM]
def U4:bW P fr (.qe k h) e H K=(h.all (fun p=>(p.ev e).cells.all bh&&(p.ev e).cells.length==k)=aq/\K (.sl k (ae H) 0 0 (ae h)) (H++[ak ⟨k,0,h.map fun p=>(p.ev e).cells⟩])):=by rw[jZ rfl rfl];simp only[hv,dM]
attribute [go_sem] TP TH Vc U3 TN Wj Wk U4
def NcP (v:AV) (K:AV->Prop):Prop:=bD (match v with
  | .ptr id v i o=>ak (AV.ptr id v i o)
  | .fp cs o=>ak (.fp cs o)
  | .fn f a b=>ak (.fn f a b)
  | _=>an) K
def Ww:bW P fr (.nc x) e H K=NcP (x.ev e) (AtH K H):=(dA rfl rfl)
def TG {id v i o:Nat} {K:AV->Prop}:NcP (.ptr id v i o) K=K (.ptr id v i o):=(rfl)
attribute [go_sem] Ww TG
def eP (op:BinOp) (x y:AV) (K:AV->Prop):Prop:=bD (iG op x y) K
@[go_sem] def U2:bW P fr (.bin h x y) e H K=eP h (x.ev e) (y.ev e) (AtH K H):=(dA rfl rfl)
def pG (t:IntKind) (m n:Int):Int:=t.wrap (BitVec.ofInt t.bits m ||| BitVec.ofInt t.bits n).toNat
def wG (t:IntKind) (m n:Int):Int:=t.wrap (BitVec.ofInt t.bits m &&& BitVec.ofInt t.bits n).toNat
def yj (t:IntKind) (m n:Int):Int:=t.wrap (BitVec.ofInt t.bits m ^^^ BitVec.ofInt t.bits n).toNat
section bin
variable {t t':IntKind} {m n:Int} {K:AV->Prop}
def SQ:eP .add (.c (.int t m)) (.c (.int t n)) K=K (.c (.int t (t.wrap (m+n)))):=by simp[eP,iG,mi,bD]
def S4:eP .sub (.c (.int t m)) (.c (.int t n)) K=K (.c (.int t (t.wrap (m - n)))):=by simp[eP,iG,mi,bD]
def SY:eP .mul (.c (.int t m)) (.c (.int t n)) K=K (.c (.int t (t.wrap (m*n)))):=by simp[eP,iG,mi,bD]
def S0:eP .quo (.c (.int t m)) (.c (.int t n)) K=(n≠0/\K (.c (.int t (t.wrap (m.tdiv n))))):=by by_cases h:n=0<;>simp[eP,iG,mi,bD,h]
def S1:eP .rem (.c (.int t m)) (.c (.int t n)) K=(n≠0/\K (.c (.int t (m.tmod n)))):=by by_cases h:n=0<;>simp[eP,iG,mi,bD,h]
def SS:eP .eql (.c (.int t m)) (.c (.int t n)) K=K (.v0 (decide (m=n))):=by simp[eP,iG,mi,bD]
def SZ:eP .neq (.c (.int t m)) (.c (.int t n)) K=K (.v0 (!decide (m=n))):=by simp[eP,iG,mi,bD]
def SX:eP .lss (.c (.int t m)) (.c (.int t n)) K=K (.v0 (decide (m < n))):=by simp[eP,iG,mi,bD]
def SW:eP .leq (.c (.int t m)) (.c (.int t n)) K=K (.v0 (decide (m<=n))):=by simp[eP,iG,mi,bD]
def SV:eP .gtr (.c (.int t m)) (.c (.int t n)) K=K (.v0 (decide (n < m))):=by simp[eP,iG,mi,bD]
def SU:eP .geq (.c (.int t m)) (.c (.int t n)) K=K (.v0 (decide (n<=m))):=by simp[eP,iG,mi,bD]
def S2:eP .shl (.c (.int t m)) (.c (.int t' n)) K=(0<=n/\K (.c (.int t (t.wrap (m*2 ^ (min (az n) t.bits)))))):=by
 by_cases h:n < 0
 .simp[eP,iG,rO,bD,h];intro w;omega
 .simp[eP,iG,rO,bD,h];intro _;omega
def S3:eP .shr (.c (.int t m)) (.c (.int t' n)) K=(0<=n/\K (.c (.int t (m.fdiv (2 ^ (min (az n) t.bits)))))):=by
 by_cases h:n < 0
 .simp[eP,iG,rO,bD,h];intro w;omega
 .simp[eP,iG,rO,bD,h];intro _;omega
def T5:eP .or (.c (.int t m)) (.c (.int t n)) K=K (.c (.int t (pG t m n))):=by simp[eP,iG,mi,uG,bD,pG]
def SR:eP .and (.c (.int t m)) (.c (.int t n)) K=K (.c (.int t (wG t m n))):=by simp[eP,iG,mi,uG,bD,wG]
def S5:eP .xor (.c (.int t m)) (.c (.int t n)) K=K (.c (.int t (yj t m n))):=by simp[eP,iG,mi,uG,bD,yj]
attribute [go_sem] SQ S4 SY S0 S1 SS SZ SX SW SV SU S2 S3 T5 SR S5
end bin
def N4 (neg:Bool) (a b:AV) (K:AV->Prop):Prop:=bD (match a,b with
  | .c (.bool x),.c (.bool y)=>ak (AV.c (.bool (neg ^^ (x==y))))
  | _,_=>an) K
def U1:bW P fr (.beq neg x y) e H K=N4 neg (x.ev e) (y.ev e) (AtH K H):=(dA rfl rfl)
def T4 {neg a b:Bool} {K:AV->Prop}:N4 neg (.v0 a) (.v0 b) K=K (.v0 (neg ^^ (a==b))):=(rfl)
attribute [go_sem] U1 T4
def UnP (op:UnOp) (a:AV) (K:AV->Prop):Prop:=bD (Pe op a) K
def Wy:bW P fr (.un h x) e H K=UnP h (x.ev e) (AtH K H):=(dA rfl rfl)
def Vq {t:IntKind} {n:Int} {K:AV->Prop}:UnP .neg (.c (.int t n)) K=K (.c (.int t (t.wrap (0 - n)))):=(rfl)
def Vt {t:IntKind} {n:Int} {K:AV->Prop}:UnP .xor (.c (.int t n)) K=K (.c (.int t (yj t (if t.signed then -1 else t.max) n))):=(rfl)
def Vs {b:Bool} {K:AV->Prop}:UnP .not (.v0 b) K=K (.c (.bool !b)):=(rfl)
attribute [go_sem] Wy Vq Vt Vs
def CvP (k:IntKind) (a:AV) (K:AV->Prop):Prop:=bD (match a with
  | .c (.int _ n)=>ak (AV.c (.int k (k.wrap n)))
  | _=>an) K
def Wl {k:IntKind}:bW P fr (.cv k x) e H K=CvP k (x.ev e) (AtH K H):=(dA rfl rfl)
def VE {k t:IntKind} {n:Int} {K:AV->Prop}:CvP k (.c (.int t n)) K=K (.c (.int k (k.wrap n))):=(rfl)
def Ws {f:FuncId} {a b:List Opd}:bW P fr (.mf f a b) e H K=K (.fn f (a.map (·.ev e)) (b.map (·.ev e))) H:=(rfl)
attribute [go_sem] Wl VE Ws
def N7 (k:Nat) (z:List AV) (l:AV) (K:AV->Prop):Prop:=bD (match l with
  | .c (.int .i64 n)=>if (0<=n/\n<=4294967296)/\z.all cN=aq/\ae z=k then ak (AV.seq k aq (aA (az n) z)) else an
  | _=>an) K
def Vb {z:List AV} {l:Opd}:bW P fr (.A9 k z l) e H K=N7 k z (l.ev e) (AtH K H):=(dA rfl rfl)
def UM {z:List AV} {n:Int} {K:AV->Prop}:N7 k z (.q0 n) K=(((0<=n/\n<=4294967296)/\z.all cN=aq/\ae z=k)/\K (.seq k aq (aA (az n) z))):=dM
attribute [go_sem] Vb UM
def FaP (off:Nat) (a:AV) (K:AV->Prop):Prop:=bD (match a with
  | .ptr id v i o=>ak (AV.ptr id v i (o+off))
  | .fp cs o=>ak (.fp cs (o+off))
  | _=>an) K
def Wn:bW P fr (.fa x off) e H K=FaP off (x.ev e) (AtH K H):=(dA rfl rfl)
def Un {off o:Nat} {cs:List AV} {K:AV->Prop}:FaP off (.fp cs o) K=K (.fp cs (o+off)):=(rfl)
def Tj {off id v i o:Nat} {K:AV->Prop}:FaP off (.ptr id v i o) K=K (.ptr id v i (o+off)):=(rfl)
attribute [go_sem] Wn Un Tj
def gn (ag:Bool) (cs:List AV) (o k:Nat) (K:AV->Prop):Prop:=bD (fm ag cs o k) K
def Q3 {cs:List AV} {o k:Nat} {K:AV->Prop}:gn aq cs o k K=(o+k<=ae cs/\K (.agg ((cs.drop o).take k))):=by simp[gn,fm,dM]
def Q4 {cs:List AV} {o k:Nat} {K:AV->Prop}:gn ar cs o k K=bD cs[o]? K:=(rfl)
attribute [go_sem] Q3 Q4
def FdP (off:Nat) (ag:Bool) (k:Nat) (a:AV) (K:AV->Prop):Prop:=bD (match a with
  | .agg cs=>fm ag cs off k
  | _=>an) K
@[go_sem] def Wo:bW P fr (.fd x off ag k) e H K=FdP off ag k (x.ev e) (AtH K H):=(dA rfl rfl)
def kz (k:Nat) (a i:AV) (K:AV->Prop):Prop:=bD (BW k a i) K
def U7:bW P fr (.vX x y k) e H K=kz k (x.ev e) (y.ev e) (AtH K H):=(dA rfl rfl)
def RN {α:Type} [Inhabited α] {g:α->List AV} {l:List α} {v:Nat} {f:Bool} {t:IntKind} {n:Int} {K:AV->Prop}:kz k (.seq v f (l.map g)) (.c (.int t n)) K=((v=k/\0<=n/\n < (ae l:Int))/\K (.fp (g (af l (az n) ah)) 0)):=by
 simp only[kz,BW,dM,W4];refine propext ⟨fun ⟨⟨w,j,q⟩,h⟩=>⟨⟨w,j,q⟩,?_⟩,fun ⟨⟨w,j,q⟩,h⟩=>⟨⟨w,j,q⟩,?_⟩⟩
 .have:az n < ae l:=aD;simpa[af,this] using h
 .have:az n < ae l:=aD;simpa[af,this] using h
def yv {h id ver i m:Nat} {t:IntKind} {n:Int} {K:AV->Prop}:kz k (.sl h id ver i m) (.c (.int t n)) K=((h=k/\0<=n/\n < (m:Int))/\K (.ptr id ver (i+az n) 0)):=dM
attribute [go_sem] U7 RN yv
def IxP (n k:Nat) (ag:Bool) (a i:AV) (K:AV->Prop):Prop:=bD (OB n k ag a i) K
@[go_sem] def Wp {n:Nat} {ag:Bool}:bW P fr (.ix x y n k ag) e H K=IxP n k ag (x.ev e) (y.ev e) (AtH K H):=(dA rfl rfl)
def ExP (i:Nat) (a:AV) (K:AV->Prop):Prop:=bD (match a with
  | .bI vs=>vs[i]?
  | _=>an) K
def Wm:bW P fr (.ex x i) e H K=ExP i (x.ev e) (AtH K H):=(dA rfl rfl)
def Ti {i:Nat} {vs:List AV} {K:AV->Prop}:ExP i (.bI vs) K=bD vs[i]? K:=(rfl)
attribute [go_sem] Wm Ti
def fM (a:AV) (K:AV->Prop):Prop:=bD ((BX a).map fun n=>AV.c (.int .i64 (n:Int))) K
def Va:bW P fr (.len x) e H K=fM (x.ev e) (AtH K H):=(dA rfl rfl)
def RO {α:Type} {g:α->List AV} {l:List α} {h:Nat} {f:Bool} {K:AV->Prop}:fM (.seq h f (l.map g)) K=K (.q0 (ae l:Int)):=by simp[fM,BX,bD]
def TD {h id ver i n:Nat} {K:AV->Prop}:fM (.sl h id ver i n) K=K (.q0 (n:Int)):=(rfl)
attribute [go_sem] Va RO TD
def sY (neg:Bool) (a:AV) (K:AV->Prop):Prop:=bD (match a with
  | .nil=>ak (AV.c (.bool (neg ^^ aq)))
  | .seq _ _ (_::_)=>ak (.c (.bool neg))
  | .c (.slice a 0 _)=>ak (.c (.bool (neg ^^ a.isNone)))
  | _=>an) K
def U6:bW P fr (.fj neg x) e H K=sY neg (x.ev e) (AtH K H):=(dA rfl rfl)
def Uj {neg:Bool} {p:Option Addr} {cap:Nat} {K:AV->Prop}:sY neg (.c (.slice p 0 cap)) K=K (.v0 (neg ^^ p.isNone)):=(rfl)
def Ee {K:AV->Prop}:sY ar .nil K=K (.v0 aq):=(rfl)
def IU {K:AV->Prop}:sY aq .nil K=K (.v0 ar):=(rfl)
def zN {neg:Bool} {α:Type} {g:α->List AV} {l:List α} {h:Nat} {f:Bool} {K:AV->Prop}:sY neg (.seq h f (l.map g)) K=(l≠[]/\K (.v0 neg)):=by cases l<;>simp[sY,bD]
attribute [go_sem] U6 Uj Ee IU zN
def Ko (eX:List Nat) (a:AV) (K:AV->Prop):Prop:=bD (match a with
  | .c (.int _ n)=>if 0<=n then (eX[az n]?).map fun (b:Nat)=>AV.c (.int .u8 (b:Int)) else an
  | _=>an) K
def N6 (ag:Bool) (k:Nat) (a:AV) (K:AV->Prop):Prop:=bD (match a with
  | .fp cs o=>fm ag cs o k
  | _=>an) K
def U9:bW P fr (.xB x ag k) e H K=N6 ag k (x.ev e) (AtH K H):=(dA rfl rfl)
def TC {ag:Bool} {cs:List AV} {o:Nat} {K:AV->Prop}:N6 ag k (.fp cs o) K=gn ag cs o k K:=(rfl)
def U8:bW P fr (.AN eX x) e H K=Ko eX (x.ev e) (AtH K H):=(dA rfl rfl)
attribute [go_sem] U9 TC U8
def MxP (up:Bool) (l:List AV) (K:AV->Prop):Prop:=bD (match l with
  | [.c (.int k x),.c (.int _ y)]=>ak (AV.c (.int k (if (if up then y>x else y < x) then y else x)))
  | _=>an) K
def Wv:bW P fr (.mx [x,y]) e H K=MxP aq [x.ev e,y.ev e] (AtH K H):=(dA rfl rfl)
def V3 {t t':IntKind} {m n:Int} {K:AV->Prop}:MxP aq [.c (.int t m),.c (.int t' n)] K=K (.c (.int t (max m n))):=by simp only[MxP,bD,Yj];congr 3;omega
attribute [go_sem] Wv V3
def Kk (m:Nat) (a:AV) (K:Nat->Prop):Prop:=bD (match intOf? a with
  | some n=>if 0<=n/\n<=(m:Int) then ak (az n) else an
  | none=>an) K
@[go_sem] def T6 {m:Nat} {t:IntKind} {n:Int} {K:Nat->Prop}:Kk m (.c (.int t n)) K=((0<=n/\n<=(m:Int))/\K (az n)):=dM
end ops
def Qt:(AV.agg cs).cells=cs:=(rfl)
def S6:(AV.c v).cells=[.c v]:=(rfl)
def Qu:AV.nil.cells=[.nil]:=(rfl)
def Qw:(AV.seq k f xs).cells=[.seq k f xs]:=(rfl)
def Qv {a b c d:Nat}:(AV.ptr a b c d).cells=[.ptr a b c d]:=(rfl)
def Rj {a b c d m:Nat}:(AV.sl a b c d m).cells=[.sl a b c d m]:=(rfl)
def WJ:cN (.c v)=aq:=(rfl)
def UE:cN .nil=aq:=(rfl)
def UF:cN (.seq k f xs)=aq:=(rfl)
def WK:bh (.c v)=aq:=(rfl)
def UG:bh .nil=aq:=(rfl)
def UI:bh (.seq k f xs)=aq:=(rfl)
def UH {a b c d:Nat}:bh (.ptr a b c d)=aq:=(rfl)
def VV {a b c d m:Nat}:bh (.sl a b c d m)=aq:=(rfl)
def WM:eC (.c v)=aq:=(rfl)
def UO:eC .nil=aq:=(rfl)
def UP:eC (.seq k f xs)=aq:=(rfl)
def V4 {a b c d m:Nat}:eC (.sl a b c d m)=aq:=(rfl)
def UN:eC (.agg a)=aq:=(rfl)
def Ri {α:Type} {p:α->Bool}:List.all [] p=aq:=(rfl)
def Qm {α:Type} {p:α->Bool} {a:α} {l:List α}:List.all (a::l) p=(p a&&l.all p):=(rfl)
def T0:(aq&&b)=b:=(rfl)
def V1 {α γ:Type} {f:α->γ}:List.map f []=[]:=(rfl)
def V0 {α γ:Type} {f:α->γ} {a:α} {l:List α}:List.map f (a::l)=f a::l.map f:=(rfl)
def Qa:(True/\p)=p:=Z9 p
def Vz:(p/\True)=p:=aaV p
def WE:decide True=aq:=(rfl)
def WD:decide False=ar:=(rfl)
def WV:(¬False)=True:=aK
def VG [Decidable p]:(decide p=aq)=p:=aK
def VH:(ar=aq)=False:=aK
def nn:(¬¬p)=p:=aK
def VY {α:Type}:ae ([]:List α)=0:=(rfl)
def VX {α:Type} {a:α} {l:List α}:ae (a::l)=ae l+1:=(rfl)
def VB {α:Type} {l:List α}:[]++l=l:=(rfl)
def VA {α:Type} {a:α} {l m:List α}:(a::l)++m=a::(l++m):=(rfl)
def OT {z:List AV} {K:List AV->Prop}:bD (lJ z []) K=K z:=(rfl)
def N1 {z:List AV} {o k:Nat} {a:AV} {r:List (Nat × Nat × AV)} {K:List AV->Prop}:bD (lJ z ((o,k,a)::r)) K=((ae a.cells=k/\o+k<=ae z)/\bD (lJ (eN z o a.cells) r) K):=by simp only[lJ,sI]
def RU:eN l o cs=l.take o++cs++l.drop (o+ae cs):=(rfl)
def We {α:Type} {a b:α} {l:List α}:(a::l).set 0 b=b::l:=(rfl)
def Wa {α:Type} {x a b:α} {l:List α}:(x::a::l).set 1 b=x::b::l:=(rfl)
def Wb {α:Type} {x y a b:α} {l:List α}:(x::y::a::l).set 2 b=x::y::b::l:=(rfl)
def Wc {α:Type} {x y z a b:α} {l:List α}:(x::y::z::a::l).set 3 b=x::y::z::b::l:=(rfl)
def VK {x:AV} {l:List AV} {K:AV->Prop}:bD (x::l)[0]? K=K x:=(rfl)
def VL {h:AV} {x:AV} {l:List AV} {K:AV->Prop}:bD (h::x::l)[1]? K=K x:=(rfl)
def VM {h w:AV} {x:AV} {l:List AV} {K:AV->Prop}:bD (h::w::x::l)[2]? K=K x:=(rfl)
def VN {h w a:AV} {x:AV} {l:List AV} {K:AV->Prop}:bD (h::w::a::x::l)[3]? K=K x:=(rfl)
def VO {h w a b:AV} {x:AV} {l:List AV} {K:AV->Prop}:bD (h::w::a::b::x::l)[4]? K=K x:=(rfl)
def VP {h w a b c:AV} {x:AV} {l:List AV} {K:AV->Prop}:bD (h::w::a::b::c::x::l)[5]? K=K x:=(rfl)
def VQ {h w a b c f:AV} {x:AV} {l:List AV} {K:AV->Prop}:bD (h::w::a::b::c::f::x::l)[6]? K=K x:=(rfl)
def VR {h w a b c f g:AV} {x:AV} {l:List AV} {K:AV->Prop}:bD (h::w::a::b::c::f::g::x::l)[7]? K=K x:=(rfl)
def VS {h w a b c f g i:AV} {x:AV} {l:List AV} {K:AV->Prop}:bD (h::w::a::b::c::f::g::i::x::l)[8]? K=K x:=(rfl)
def Ve {α:Type} {l:List α}:l.take 0=[]:=(rfl)
def T9 {α:Type} {l:List α}:l.drop 0=l:=(rfl)
def Vf {α:Type} {h:α} {l:List α}:(h::l).take 1=h::[]:=(rfl)
def Ua {α:Type} {h:α} {l:List α}:(h::l).drop 1=l:=(rfl)
def Vg {α:Type} {h w:α} {l:List α}:(h::w::l).take 2=h::w::[]:=(rfl)
def Ub {α:Type} {h w:α} {l:List α}:(h::w::l).drop 2=l:=(rfl)
def Vh {α:Type} {h w a:α} {l:List α}:(h::w::a::l).take 3=h::w::a::[]:=(rfl)
def Uc {α:Type} {h w a:α} {l:List α}:(h::w::a::l).drop 3=l:=(rfl)
def Vi {α:Type} {h w a b:α} {l:List α}:(h::w::a::b::l).take 4=h::w::a::b::[]:=(rfl)
def Ud {α:Type} {h w a b:α} {l:List α}:(h::w::a::b::l).drop 4=l:=(rfl)
def Vj {α:Type} {h w a b c:α} {l:List α}:(h::w::a::b::c::l).take 5=h::w::a::b::c::[]:=(rfl)
def Ue {α:Type} {h w a b c:α} {l:List α}:(h::w::a::b::c::l).drop 5=l:=(rfl)
def Vk {α:Type} {h w a b c f:α} {l:List α}:(h::w::a::b::c::f::l).take 6=h::w::a::b::c::f::[]:=(rfl)
def Uf {α:Type} {h w a b c f:α} {l:List α}:(h::w::a::b::c::f::l).drop 6=l:=(rfl)
def Vl {α:Type} {h w a b c f g:α} {l:List α}:(h::w::a::b::c::f::g::l).take 7=h::w::a::b::c::f::g::[]:=(rfl)
def Ug {α:Type} {h w a b c f g:α} {l:List α}:(h::w::a::b::c::f::g::l).drop 7=l:=(rfl)
def Vm {α:Type} {h w a b c f g i:α} {l:List α}:(h::w::a::b::c::f::g::i::l).take 8=h::w::a::b::c::f::g::i::[]:=(rfl)
def Uh {α:Type} {h w a b c f g i:α} {l:List α}:(h::w::a::b::c::f::g::i::l).drop 8=l:=(rfl)
def Vo:Int.toNat 0=0:=(rfl)
def Vp {n:Nat}:Int.toNat (n:Int)=n:=(rfl)
def V6 {α:Type} {a:α}:aA 0 a=[]:=(rfl)
def WL:((0:Int)<=0)=True:=aK
attribute [go_sem] Qt S6 Qu Qw Qv Rj WJ UE UF WK UG UI UH VV WM UO UP V4 UN Ri Qm T0 V1 V0 Qa Vz WE WD WV VG VH nn VY VX VB VA OT N1 RU We Wa Wb Wc VK VL VM VN VO VP VQ VR VS Ve T9 Vf Ua Vg Ub Vh Uc Vi Ud Vj Ue Vk Uf Vl Ug Vm Uh Vo Vp V6 WL
def bq (H:aE) (id ver:Nat) (K:bC->Prop):Prop:=bD (aH H id ver) K
def QY {k v ver:Nat} {xs:List (List AV)} {r:aE} {K:bC->Prop}:bq (ak ⟨k,v,xs⟩::r) 0 ver K=(v=ver/\K ⟨k,v,xs⟩):=by simp[bq,aH,dM]
def QX {o:Option bC} {r:aE} {id ver:Nat} {K:bC->Prop}:bq (o::r) (id+1) ver K=bq r id ver K:=by simp[bq,aH]
attribute [go_sem] QY QX
def ElP (xs:List (List AV)) (i:Nat) (K:List AV->Prop):Prop:=bD xs[i]? K
def Tg {x:List AV} {K:List AV->Prop}:ElP [x] 0 K=K x:=(rfl)
def Tf {α:Type} [Inhabited α] {g:α->List AV} {l:List α} {i:Nat} {K:List AV->Prop}:ElP (l.map g) i K=(i < ae l/\K (g (af l i ah))):=by
 by_cases h:i < ae l
 .simp[ElP,h,bD,af]
 .simp[ElP,h,bD]
attribute [go_sem] Tg Tf
section ops
variable {x y z:Opd} {k:Nat}
def Hf (ag:Bool) (o k:Nat) (K:AV->Prop):List AV->Prop:=fun x=>gn ag x o k K
@[go_sem] def DD {ag:Bool} {o:Nat} {K:AV->Prop} {x:List AV}:Hf ag o k K x=gn ag x o k K:=(rfl)
def LdO (ag:Bool) (i o k:Nat) (K:AV->Prop):bC->Prop:=fun ob=>ElP ob.xs i (Hf ag o k K)
@[go_sem] def Mo {ag:Bool} {i o h v:Nat} {xs:List (List AV)} {K:AV->Prop}:LdO ag i o k K ⟨h,v,xs⟩=ElP xs i (Hf ag o k K):=(rfl)
def LdP (ag:Bool) (k:Nat) (a:AV) (H:aE) (K:AV->Prop):Prop:=bD (match a with
  | .fp cs o=>fm ag cs o k
  | .ptr id ver i o=>(aH H id ver).bind fun ob=>(ob.xs[i]?).bind fun x=>fm ag x o k
  | _=>an) K
def Wq:bW P fr (.ld x ag k) e H K=LdP ag k (x.ev e) H (AtH K H):=by rw[jZ rfl rfl];simp only[hv,LdP];generalize x.ev e=a;cases a<;>first | rfl | (simp only[rE,gO];rfl)
def UL {ag:Bool} {cs:List AV} {o:Nat} {K:AV->Prop}:LdP ag k (.fp cs o) H K=gn ag cs o k K:=(rfl)
def yw {ag:Bool} {id ver i o:Nat} {K:AV->Prop}:LdP ag k (.ptr id ver i o) H K=bq H id ver (LdO ag i o k K):=by simp only[LdP,gO];rfl
attribute [go_sem] Wq UL yw
def StX (id ver i o k:Nat) (cs:List AV) (ok:Nat) (xs:List (List AV)) (H:aE) (K:aE->Prop):List AV->Prop:=fun x=>(ae cs=k/\o+k<=ae x/\cs.all bh=aq)/\K (H.set id (ak ⟨ok,ver,xs.set i (eN x o cs)⟩))
@[go_sem] def O7 {id ver i o k h:Nat} {cs x:List AV} {xs:List (List AV)} {K:aE->Prop}:StX id ver i o k cs h xs H K x=((ae cs=k/\o+k<=ae x/\cs.all bh=aq)/\K (H.set id (ak ⟨h,ver,xs.set i (eN x o cs)⟩))):=(rfl)
def StO (id ver i o k:Nat) (cs:List AV) (H:aE) (K:aE->Prop):bC->Prop:=fun ob=>ElP ob.xs i (StX id ver i o k cs ob.k ob.xs H K)
@[go_sem] def O6 {id ver i o k h v:Nat} {cs:List AV} {xs:List (List AV)} {K:aE->Prop}:StO id ver i o k cs H K ⟨h,v,xs⟩=ElP xs i (StX id ver i o k cs h xs H K):=(rfl)
def Mc (K:AV->aE->Prop):aE->Prop:=fun H=>K .aY H
@[go_sem] def VF:Mc K H=K .aY H:=(rfl)
def StP (k:Nat) (a v:AV) (H:aE) (K:aE->Prop):Prop:=bD (match a with
  | .ptr id ver i o=>(aH H id ver).bind fun ob=>(ob.xs[i]?).bind fun x =>
   if ae v.cells=k/\o+k<=ae x/\v.cells.all bh=aq then ak (AV.aY,H.set id (ak ⟨ob.k,ver,ob.xs.set i (eN x o v.cells)⟩)) else an
  | _=>an) fun v=>K v.2
def Wx:bW P fr (.st x y k) e H K=StP k (x.ev e) (y.ev e) H (Mc K):=by rw[jZ rfl rfl];simp only[hv,StP];generalize x.ev e=a;cases a<;>first | rfl | (simp only[gO,dM];rfl)
def Cb {id ver i o:Nat} {v:AV} {K:aE->Prop}:StP k (.ptr id ver i o) v H K=bq H id ver (StO id ver i o k v.cells H K):=by simp only[StP,gO,dM];rfl
attribute [go_sem] Wx Cb
def MkP (k:Nat) (z:List AV) (l c:AV) (H:aE) (K:AV->aE->Prop):Prop:=bD (match l,c with
  | .c (.int .i64 n),.c (.int .i64 m)=>if 0<=n/\n<=m/\m<=4294967296/\ae z=k/\z.all bh=aq then ak (AV.sl k (ae H) 0 0 (az n),H++[ak ⟨k,0,aA (az n) z⟩]) else an
  | _,_=>an) fun v=>K v.1 v.2
def Wt {z:List AV}:bW P fr (.mk k z x y) e H K=MkP k z (x.ev e) (y.ev e) H K:=jZ rfl rfl
def V2 {z:List AV} {n m:Int} {K:AV->aE->Prop}:MkP k z (.q0 n) (.q0 m) H K=((0<=n/\n<=m/\m<=4294967296/\ae z=k/\z.all bh=aq)/\K (.sl k (ae H) 0 0 (az n)) (H++[ak ⟨k,0,aA (az n) z⟩])):=dM
attribute [go_sem] Wt V2
def lD (e:Env) (m d:Nat) (b:Option Opd) (K:Nat->Prop):Prop:=bD (bM e m d b) K
def Py {m d:Nat} {K:Nat->Prop}:lD e m d an K=K d:=(rfl)
def Pz {m d:Nat} {b:Opd} {K:Nat->Prop}:lD e m d (ak b) K=Kk m (b.ev e) K:=by simp only[lD,bM,Kk];generalize intOf? (b.ev e)=o;cases o<;>rfl
attribute [go_sem] Py Pz
def uA (k:Nat) (e:Env) (lo hi:Option Opd) (a:AV) (H:aE) (K:AV->Prop):Prop:=bD (match lq e lo hi an k a with
  | some v=>ak v
  | none=>match a with
   | .sl k' id ver i n=>(aH H id ver).bind fun ob=>if k'=k then (bM e (ae ob.xs - i) n hi).bind fun h=>(bM e h 0 lo).bind fun l=>ak (AV.sl k id ver (i+l) (h - l)) else an
   | _=>an) K
@[go_sem] def Vd:bW P fr (.nj x lo c an k) e H K=uA k e lo c (x.ev e) H (AtH K H):=by
 unfold bW;simp only[dU,eO,pv,uA,hv];generalize x.ev e=a at *;generalize lq e lo c an k a=o;cases o with
 | some v=>rfl
 | none =>
  cases a<;>first | rfl | skip
  simp only;generalize aH H _ _=f;cases f with
  | none=>rfl
  | some f =>
   simp only[Xr];split
   .rename_i w;split at w
    case isFalse=>simp at w
    rename_i b;rw[W0 b];have ⟨h,g,w⟩:=W5.1 w;have ⟨l,i,w⟩:=W5.1 w;simp at w;obtain ⟨rfl,rfl⟩:=w;simp[g,i,bD,AtH]
   .rename_i w;split at w
    .rename_i b;rw[W0 b];generalize bM e (ae f.xs - _) _ c=j at *;cases j with
     | none=>rfl
     | some h =>
      simp only[Xr] at w ⊢;generalize bM e h 0 lo=m at *;cases m with
      | none=>rfl
      | some l=>simp at w
    .rename_i b;rw[WX b];rfl
def JQ {lo h:Option Opd} {w:Nat} {f:Bool} {xs:List (List AV)} {K:AV->Prop}:uA k e lo h (.seq w f xs) H K=bD (lq e lo h an k (.seq w f xs)) K:=by unfold uA;generalize lq e lo h an k (.seq w f xs)=o;cases o<;>rfl
def Kr {α:Type} (k h:Nat) (f:Bool) (l:List α) (g:α->List AV) (K:AV->Prop):Nat->Prop:=fun lo=>K (.seq k (f&&decide (h=ae l)) (((l.take h).drop lo).map g))
@[go_sem] def WT {α:Type} {h lo:Nat} {f:Bool} {l:List α} {g:α->List AV} {K:AV->Prop}:Kr k h f l g K lo=K (.seq k (f&&decide (h=ae l)) (((l.take h).drop lo).map g)):=(rfl)
def Ob {α:Type} (k:Nat) (e:Env) (lo:Option Opd) (f:Bool) (l:List α) (g:α->List AV) (K:AV->Prop):Nat->Prop:=fun h=>lD e h 0 lo (Kr k h f l g K)
def WS {α:Type} {h:Nat} {lo:Option Opd} {f:Bool} {l:List α} {g:α->List AV} {K:AV->Prop}:Ob k e lo f l g K h=lD e h 0 lo (Kr k h f l g K):=(rfl)
def Sr {α:Type} {g:α->List AV} {l:List α} {w:Nat} {f:Bool} {lo h:Option Opd} {K:AV->Prop} :
  uA k e lo h (.seq w f (l.map g)) H K=(w=k/\lD e (ae l) (ae l) h (Ob k e lo f l g K)):=by rw[JQ];simp only[lq,W4,sI,gO,lD,pF,<-List.map_drop,<-List.map_take];rfl
attribute [go_sem] WS Sr
def Hj (K:AV->Prop):Nat->Prop:=fun _=>K .aY
@[go_sem] def Wh {n:Nat} {K:AV->Prop}:Hj K n=K .aY:=(rfl)
def Hi (e:Env) (lo:Option Opd) (K:AV->Prop):Nat->Prop:=fun h=>lD e h 0 lo (Hj K)
@[go_sem] def Wg {h:Nat} {lo:Option Opd} {K:AV->Prop}:Hi e lo K h=lD e h 0 lo (Hj K):=(rfl)
def Mi (e:Env) (lo hi:Option Opd) (K:AV->Prop):Nat->Prop:=fun m=>lD e m 0 hi (Hi e lo K)
@[go_sem] def Wi {m:Nat} {lo h:Option Opd} {K:AV->Prop}:Mi e lo h K m=lD e m 0 h (Hi e lo K):=(rfl)
def Hk (k:Nat) (e:Env) (lo hi:Option Opd) (m:Opd) (a:AV) (K:AV->Prop):Prop:=bD (lq e lo hi (ak m) k a) K
def TQ:bW P fr (.nj x lo h (ak m) k) e H K=Hk k e lo h m (x.ev e) (AtH K H):=(dA rfl rfl)
def Sq {w id ver i n:Nat} {lo:Option Opd} {h m:Opd} {K:AV->Prop}:Hk k e lo (ak h) m (.sl w id ver i n) K=(w=k/\lD e n 0 (ak m) (Mi e lo (ak h) K)):=by simp only[Hk,lq,sI,gO,lD,abh,Yj,pF];rfl
attribute [go_sem] TQ Sq
def qS (k:Nat) (a b:AV) (H:aE) (K:AV->aE->Prop):Prop:=bD ((ik k H b).bind fun ys=>hU k H a ys) fun v=>K v.1 v.2
@[go_sem] def U0:bW P fr (.app x y k) e H K=qS k (x.ev e) (y.ev e) H K:=jZ rfl rfl
def c6 (k:Nat) (a:AV) (ys:List (List AV)) (H:aE) (K:AV->aE->Prop):Prop:=bD (hU k H a ys) fun v=>K v.1 v.2
@[go_sem] def DO:qS k a (.seq w f ys) H K=(w=k/\c6 k a ys H K):=by simp only[qS,ik,gO,c6];by_cases h:w=k<;>simp[h,bD]
def Kz {y:List AV} {ys:List (List AV)}:hU k H .nil (y::ys)=if ae ys+1<=4294967296 then ak (.sl k (ae H) 0 0 (ae ys+1),H++[ak ⟨k,0,y::ys⟩]) else an:=rfl
def Gc {h id ver i n:Nat} {y:List AV} {ys:List (List AV)}:hU k H (.sl h id ver i n) (y::ys)=(aH H id ver).bind fun ob =>
  if h=k/\i+n=ae ob.xs then
   if n+(ae ys+1)<=4294967296/\ob.k=k then ak (.sl k id (ver+1) 0 (n+(ae ys+1)),H.set id (ak ⟨k,ver+1,ob.xs.drop i++y::ys⟩)) else an
  else if h=k/\i+n+(ae ys+1)<=ae ob.xs/\ob.k=k then
   ak (.sl k id ver i (n+(ae ys+1)),H.set id (ak ⟨k,ver,ob.xs.take (i+n)++y::ys++ob.xs.drop (i+n+(ae ys+1))⟩))
  else an:=rfl
@[go_sem] def DM {y:List AV} {ys:List (List AV)} {K:AV->aE->Prop}:c6 k .nil (y::ys) H K=(ae ys+1<=4294967296/\K (.sl k (ae H) 0 0 (ae ys+1)) (H++[ak ⟨k,0,y::ys⟩])):=by simp only[c6,Kz,dM]
def qX {w id ver i n:Nat} {y:List AV} {ys:List (List AV)} {K:AV->aE->Prop} {xs:List (List AV)} (b:aH H id ver=ak ⟨k,ver,xs⟩) (a:i+n=ae xs) :
  c6 k (.sl w id ver i n) (y::ys) H K=(w=k/\n+(ae ys+1)<=4294967296/\K (.sl k id (ver+1) 0 (n+(ae ys+1))) (H.set id (ak ⟨k,ver+1,xs.drop i++y::ys⟩))):=by
 simp only[c6,Gc,b,Xr,a,aaV];by_cases h:w=k
 .simp[h,dM]
 .simp[h,bD]
def jy (P:Program) (fr:Md) (f:FuncId) (args:List AV) (H:aE) (K:AV->aE->Prop):Prop:=match fr with
 | .any=>∃Post,cF P f args H Post/\∀v H',Post v H'->K v H'
 | .Gi=>∃v H',bK P f args H v H'/\K v H'
 | .aR=>∃v,bK P f args H v H/\K v H
 | .xO=>∃v,Ai P f args v/\K v H
 | .loc=>∃v a ob ob',mW P f args v a ob ob'/\dJ H a=ak ob/\K v (H.set a (ak ob'))
def P9:bW P .xO (.iW f args) e H K=jy P .loc f (args.map (·.ev e)) H K:=(rfl)
def P8:bW P .aR (.iW f args) e H K=jy P .Gi f (args.map (·.ev e)) H K:=(rfl)
def TO:bW P fr (.call f args) e H K=jy P fr f (args.map (·.ev e)) H K:=(rfl)
attribute [go_sem] P9 P8 TO
def Aj (P:Program) (fr:Md) (a:AV) (args:List AV) (H:aE) (K:AV->aE->Prop):Prop:=match a with
 | .fn f first caps=>jy P fr f (first++args++caps) H K
 | _=>False
def St:bW P fr (.jz x args) e H K=Aj P fr (x.ev e) (args.map (·.ev e)) H K:=by unfold bW;simp only[dU];generalize h:x.ev e=a;cases a<;>first | (cases fr<;>simp[Aj,jy,eO,pv,hv,zV];done) | simp[Aj,jy,eO,pv,hv]
def Qs:Aj P fr (.fn f first caps) args H K=jy P fr f (first++args++caps) H K:=(rfl)
attribute [go_sem] St Qs
def aG (h:a9 P f args r) (w:args.all bP=aq) (b:bP r=aq) (a:K r H) (c:fr ≠ .loc:=by exact Md.noConfusion):jy P fr f args H K:=by
 cases fr with
 | loc=>exact absurd rfl c
 | any=>exact ⟨_,(h.call H w b).q,fun v H' g=>by obtain ⟨rfl,rfl⟩:=g;exact a⟩
 | Gi=>exact ⟨r,H,h.call H w b,a⟩
 | aR=>exact ⟨r,h.call H w b,a⟩
 | xO=>exact ⟨r,h.PA w b,a⟩
def cY (h:a9 P f args r) (a:q) (e:K r H=q:=by simp only[go_sem,↓reduceIte,Nat.reduceLeDiff,WY];rfl) (b:args.all bP=aq:=by rfl) (c:bP r=aq:=by rfl) (w:fr ≠ .loc:=by exact Md.noConfusion):jy P fr f args H K:=aG h b c (e.mpr a) w
def cX (h:a9 P f args r) (a:K r H) (b:args.all bP=aq:=by rfl) (c:bP r=aq:=by rfl) (w:fr ≠ .loc:=by exact Md.noConfusion):jy P fr f args H K:=aG h b c a w
def dK (h:bK P f args H r H') (w:K r H'):jy P .any f args H K:=⟨_,h.q,fun v G a=>by obtain ⟨rfl,rfl⟩:=a;exact w⟩
def kX (h:mW P f args r a ob w) (b:dJ H a=ak ob) (c:K r (H.set a (ak w))):jy P .loc f args H K:=⟨r,a,ob,w,h,b,c⟩
def wM (h:bK P f args H r H') (w:K r H'):jy P .Gi f args H K:=⟨r,H',h,w⟩
def dZ {f:FuncId} {args:List AV} {Post:AV->aE->Prop} (h:cF P f args H Post) (w:∀v G,Post v G->K v G):jy P .any f args H K:=⟨Post,h,w⟩
end ops
def uy (e:Env) (H:aE) (rs:List gC) (n:Nat) (r:AV) (H2:aE):Prop:=bD (mj e H rs) fun vs=>Fin n (rK vs) H r H2
def B7 {α:Type} {o:Option α} {K:α->Prop}:(∃v,o=ak v/\K v)=bD o K:=by cases o<;>simp[bD]
def Rw {w:List gC} {n:Nat} {r:AV} {h:aE}:pQ w n r h .ret e H=uy e H w n r h:=by simp[pQ,B7,uy]
def US:uy e H [.t t] n r h=Fin n (lk t e) H r h:=(rfl)
def TJ:uy e H [.t t,.t w] n r h=Fin n (.bI [lk t e,lk w e]) H r h:=(rfl)
attribute [go_sem] Rw US TJ
def wD (e:Env) (H:aE) (rs:List gC) (Post:AV->aE->Prop):Prop:=bD (mj e H rs) fun vs=>Post (rK vs) H
def Rx {h:List gC} {Post:AV->aE->Prop}:ky h Post .ret e H=wD e H h Post:=by simp[ky,B7,wD]
def Pp {h:List gC} {Post:AV->aE->Prop}:ky h Post .normal e H=wD e H h Post:=by simp[ky,B7,wD]
def UT {t:Nat} {Post:AV->aE->Prop}:wD e H [.t t] Post=Post (lk t e) H:=(rfl)
def TK {t h:Nat} {Post:AV->aE->Prop}:wD e H [.t t,.t h] Post=Post (.bI [lk t e,lk h e]) H:=(rfl)
def Q8 {Post:AV->aE->Prop}:wD e H [] Post=Post (.bI []) H:=(rfl)
attribute [go_sem] Rx Pp UT TK Q8
def N5 (n:Nat) (H:aE) (r:AV) (H2:aE):AV->Prop:=fun v=>Fin n v H r H2
def WI:N5 n H r h v=Fin n v H r h:=(rfl)
def Q7 {x k n:Nat} {ag:Bool} {r:AV} {h:aE}:uy e H [.cell x ag k] n r h=LdP ag k (lk x e) H (N5 n H r h):=by simp only[uy,mj,Ad,LdP];generalize lk x e=a;cases a<;>first | rfl | (simp only[XL,gO,pF,rK];rfl)
attribute [go_sem] WI Q7
def oD (h:Wk1 r a) (w:jR 0 r=aq):Fin 0 r H a []:=by refine Fin.trans (mO (m:=0) (WY _) aK w) ?_;exact eH h
def Wk1.refl (a:AV):Wk1 a a := .cell (.refl a)
def iZ (h:jR 0 r=aq):Fin 0 r H r []:=mO (m:=0) (WY _) aK h
def aV (h:r=a) (w:jR 0 r=aq):Fin 0 r H a []:=by subst h;exact iZ w
def kV {k ver n:Nat} {y:List AV} {ys:List (List AV)} {K:AV->aE->Prop} {xs:List (List AV)} (h:n=ae xs) :
  c6 k (.sl k 0 ver 0 n) (y::ys) [ak ⟨k,ver,xs⟩] K=(n+(ae ys+1)<=4294967296/\K (.sl k 0 (ver+1) 0 (n+(ae ys+1))) [ak ⟨k,ver+1,xs++y::ys⟩]):=by rw[qX (xs:=xs) (by simp[aH]) aD];simp
def yr (b:n=ae xs) (a:xs.all (fun x=>x.all b8)=aq):Fin 0 (.sl k 0 ver 0 n) [ak ⟨k,ver,xs⟩] (.seq k ar xs) []:=by
 have h:=uP (n:=0) (id:=0) (ver:=ver) (H:=[ak ⟨k,ver,xs⟩]) (r := .sl k 0 ver 0 n) (ob:=⟨k,ver,xs⟩) (by simp[aH]) a;have w:dT 0 ver k xs (.sl k 0 ver 0 n) = .seq k ar xs:=by simp[dT,oF,fX,b]
 rw[w] at h;exact h.trans (iZ rfl)
def Z {p q:Prop} (a:q) (h:p=q:=by simp only[go_sem,↓reduceIte,Nat.reduceLeDiff,WY,Yy,X9,Zr,Zs,W3,Xb,Xd,XU,XH,Xz,Yh,Yw,X4,Z9,ZQ, *];rfl):p:=h ▸ a
def Y {p q:Prop} (a:q) (h:p=q:=by simp only[go_sem,↓reduceIte,Nat.reduceLeDiff,WY];rfl):p:=h ▸ a
def Y1 {a:Prop} {p q:Prop} (b:a) (h:q) (w:a->p=q:=by intro c;simp only[go_sem,↓reduceIte,Nat.reduceLeDiff,WY,c];rfl):p:=(w b) ▸ h
def Y2 {a:Prop} {b:Prop} {p q:Prop} (c:a) (f:b) (h:q) (w:a->b->p=q:=by intro g i;simp only[go_sem,↓reduceIte,Nat.reduceLeDiff,WY,g,i];rfl):p:=(w c f) ▸ h
def Y3 {a:Prop} {b:Prop} {c:Prop} {p q:Prop} (f:a) (g:b) (i:c) (h:q) (w:a->b->c->p=q:=by intro j l m;simp only[go_sem,↓reduceIte,Nat.reduceLeDiff,WY,j,l,m];rfl):p:=(w f g i) ▸ h
def Y4 {a:Prop} {b:Prop} {c:Prop} {d:Prop} {p q:Prop} (f:a) (g:b) (i:c) (j:d) (h:q) (w:a->b->c->d->p=q:=by intro l m n o;simp only[go_sem,↓reduceIte,Nat.reduceLeDiff,WY,l,m,n,o];rfl):p:=(w f g i j) ▸ h
def Y5 {a:Prop} {b:Prop} {c:Prop} {d:Prop} {e:Prop} {p q:Prop} (f:a) (g:b) (i:c) (j:d) (l:e) (h:q) (w:a->b->c->d->e->p=q:=by intro m n o r s;simp only[go_sem,↓reduceIte,Nat.reduceLeDiff,WY,m,n,o,r,s];rfl):p:=(w f g i j l) ▸ h
def Y6 {a:Prop} {b:Prop} {c:Prop} {d:Prop} {e:Prop} {f:Prop} {p q:Prop} (g:a) (i:b) (j:c) (l:d) (m:e) (n:f) (h:q) (w:a->b->c->d->e->f->p=q:=by intro o r s t v X;simp only[go_sem,↓reduceIte,Nat.reduceLeDiff,WY,o,r,s,t,v,X];rfl):p:=(w g i j l m n) ▸ h
def Y7 {a:Prop} {b:Prop} {c:Prop} {d:Prop} {e:Prop} {f:Prop} {g:Prop} {p q:Prop} (i:a) (j:b) (l:c) (m:d) (n:e) (o:f) (r:g) (h:q) (w:a->b->c->d->e->f->g->p=q:=by intro s t v X W A B;simp only[go_sem,↓reduceIte,Nat.reduceLeDiff,WY,s,t,v,X,W,A,B];rfl):p:=(w i j l m n o r) ▸ h
def Y8 {a:Prop} {b:Prop} {c:Prop} {d:Prop} {e:Prop} {f:Prop} {g:Prop} {h:Prop} {p q:Prop} (j:a) (l:b) (m:c) (n:d) (o:e) (r:f) (s:g) (t:h) (w:q) (i:a->b->c->d->e->f->g->h->p=q:=by intro v X W A B C D E;simp only[go_sem,↓reduceIte,Nat.reduceLeDiff,WY,v,X,W,A,B,C,D,E];rfl):p:=(i j l m n o r s t) ▸ w
def Z0  {p q:Prop}  (h:q) (w:p=q:=by simp only[go_sem,↓reduceIte,Nat.reduceLeDiff,WY,Yy,X9,Zr,Zs,W3,Xb,Xd,XU,XH,Xz,Yh,Yw,X4,Z9,ZQ];rfl):p:=w ▸ h
def Z1 {a:Prop} {p q:Prop} (b:a) (h:q) (w:a->p=q:=by intro c;simp only[go_sem,↓reduceIte,Nat.reduceLeDiff,WY,Yy,X9,Zr,Zs,W3,Xb,Xd,XU,XH,Xz,Yh,Yw,X4,Z9,ZQ,c];rfl):p:=(w b) ▸ h
def Z2 {a:Prop} {b:Prop} {p q:Prop} (c:a) (f:b) (h:q) (w:a->b->p=q:=by intro g i;simp only[go_sem,↓reduceIte,Nat.reduceLeDiff,WY,Yy,X9,Zr,Zs,W3,Xb,Xd,XU,XH,Xz,Yh,Yw,X4,Z9,ZQ,g,i];rfl):p:=(w c f) ▸ h
def Z3 {a:Prop} {b:Prop} {c:Prop} {p q:Prop} (f:a) (g:b) (i:c) (h:q) (w:a->b->c->p=q:=by intro j l m;simp only[go_sem,↓reduceIte,Nat.reduceLeDiff,WY,Yy,X9,Zr,Zs,W3,Xb,Xd,XU,XH,Xz,Yh,Yw,X4,Z9,ZQ,j,l,m];rfl):p:=(w f g i) ▸ h
def Z4 {a:Prop} {b:Prop} {c:Prop} {d:Prop} {p q:Prop} (f:a) (g:b) (i:c) (j:d) (h:q) (w:a->b->c->d->p=q:=by intro l m n o;simp only[go_sem,↓reduceIte,Nat.reduceLeDiff,WY,Yy,X9,Zr,Zs,W3,Xb,Xd,XU,XH,Xz,Yh,Yw,X4,Z9,ZQ,l,m,n,o];rfl):p:=(w f g i j) ▸ h
def Z5 {a:Prop} {b:Prop} {c:Prop} {d:Prop} {e:Prop} {p q:Prop} (f:a) (g:b) (i:c) (j:d) (l:e) (h:q) (w:a->b->c->d->e->p=q:=by intro m n o r s;simp only[go_sem,↓reduceIte,Nat.reduceLeDiff,WY,Yy,X9,Zr,Zs,W3,Xb,Xd,XU,XH,Xz,Yh,Yw,X4,Z9,ZQ,m,n,o,r,s];rfl):p:=(w f g i j l) ▸ h
def Z6 {a:Prop} {b:Prop} {c:Prop} {d:Prop} {e:Prop} {f:Prop} {p q:Prop} (g:a) (i:b) (j:c) (l:d) (m:e) (n:f) (h:q) (w:a->b->c->d->e->f->p=q:=by intro o r s t v X;simp only[go_sem,↓reduceIte,Nat.reduceLeDiff,WY,Yy,X9,Zr,Zs,W3,Xb,Xd,XU,XH,Xz,Yh,Yw,X4,Z9,ZQ,o,r,s,t,v,X];rfl):p:=(w g i j l m n) ▸ h
def Z7 {a:Prop} {b:Prop} {c:Prop} {d:Prop} {e:Prop} {f:Prop} {g:Prop} {p q:Prop} (i:a) (j:b) (l:c) (m:d) (n:e) (o:f) (r:g) (h:q) (w:a->b->c->d->e->f->g->p=q:=by intro s t v X W A B;simp only[go_sem,↓reduceIte,Nat.reduceLeDiff,WY,Yy,X9,Zr,Zs,W3,Xb,Xd,XU,XH,Xz,Yh,Yw,X4,Z9,ZQ,s,t,v,X,W,A,B];rfl):p:=(w i j l m n o r) ▸ h
def Z8 {a:Prop} {b:Prop} {c:Prop} {d:Prop} {e:Prop} {f:Prop} {g:Prop} {h:Prop} {p q:Prop} (j:a) (l:b) (m:c) (n:d) (o:e) (r:f) (s:g) (t:h) (w:q) (i:a->b->c->d->e->f->g->h->p=q:=by intro v X W A B C D E;simp only[go_sem,↓reduceIte,Nat.reduceLeDiff,WY,Yy,X9,Zr,Zs,W3,Xb,Xd,XU,XH,Xz,Yh,Yw,X4,Z9,ZQ,v,X,W,A,B,C,D,E];rfl):p:=(i j l m n o r s t) ▸ w
end
def gD (d:Int):List AV:=[.c (.int .u32 d)]
@[reducible] def cZ (l:List Int):List (List AV):=l.map gD
@[reducible] def dx (l:List Int):AV := .seq 1 ar (cZ l)
@[go_sem] def Tc {d:Int}:gD d=[.c (.int .u32 d)]:=(rfl)
def dC:List Int->List Int
 | []=>[]
 | d::r=>if dC r=[]/\d=0 then [] else d::dC r
def F6 (l:List Int):dC (l++[0])=dC l:=by
 induction l with
 | nil=>rfl
 | cons d r h=>simp[dC,h]
def It (l:List Int) {d:Int} (h:d≠0):dC (l++[d])=l++[d]:=by
 induction l with
 | nil=>simp[dC,h]
 | cons x r k=>simp[dC,k]
def tu (h:0 < ae l) (k:af l (ae l - 1) 0=0):dC (l.take (ae l - 1))=dC l:=by obtain ⟨m,d,rfl⟩:∃m d,l=m++[d]:=⟨l.dropLast,l.getLast (by intro x;simp[x] at h),(abb _).symm⟩;simp at k;subst k;simp[F6]
def Bx (k:af l (ae l - 1) 0≠0):dC l=l:=by
 by_cases h:l=[]
 .subst h;rfl
 obtain ⟨m,d,rfl⟩:∃m d,l=m++[d]:=⟨l.dropLast,l.getLast h,(abb _).symm⟩;simp at k;exact It _ k
def wrap_i64 (h:-9223372036854775808<=n) (k:n < 9223372036854775808):au .i64 n=n:=pP h k
def wi (h:-9223372036854775808<=n:=by omega) (k:n < 9223372036854775808:=by omega):au .i64 n=n:=pP h k
def ws (i:Nat) (h:(i:Int) < 9223372036854775807:=by omega):au .i64 ((i:Int)+1)=((i+1:Nat):Int):=by rw[wi];rfl
def J0 {M:Int} {n:Nat} (k:0<=M) (h:M < 4294967296 ^ n):az M < 4294967296 ^ n:=by
 have:((az M:Nat):Int) < ((4294967296 ^ n:Nat):Int):=by rw[Int.toNat_of_nonneg k,Zf];exact h
 exact Int.ofNat_lt.1 this
def Pd (h:a < b):(2:Int) ^ a < 2 ^ b:=by
 have:(2:Nat) ^ a < 2 ^ b:=Nat.pow_lt_pow_right aS h
 exact_mod_cast this
def FG {k:IntKind} {n:Int} (y:k.signed=ar) (h:0<=n) (x:n < 2 ^ k.bits):k.wrap n=n:=by unfold IntKind.wrap;simp[y];exact ZG h (by exact_mod_cast x)
def br {n:Int} (h:0<=n) (k:n < 18446744073709551616):au .u64 n=n:=FG rfl h k
def wrap_u32 {n:Int} (h:0<=n) (k:n < 4294967296):au .u32 n=n:=FG rfl h k
def dc (n:Int):au .u32 n=n % 4294967296:=by unfold IntKind.wrap;simp[IntKind.signed,IntKind.bits]
def jP (n:Int):au .u64 n=n % 18446744073709551616:=by unfold IntKind.wrap;simp[IntKind.signed,IntKind.bits]
def OV {a b:Nat} (y:a < 18446744073709551616) (z:b < 18446744073709551616):pG .u64 a b=((a ||| b:Nat):Int):=by
 unfold pG;have h:(BitVec.ofInt IntKind.u64.bits (a:Int)).toNat=a:=by show (BitVec.ofInt 64 (a:Int)).toNat=a;rw[aaL];omega
 have k:(BitVec.ofInt IntKind.u64.bits (b:Int)).toNat=b:=by show (BitVec.ofInt 64 (b:Int)).toNat=b;rw[aaL];omega
 rw[BitVec.toNat_or,h,k];have x:a ||| b < 2 ^ 64:=abp aD aD;exact br aD aD
def oN {a b:Int} {k:Nat} (c:0<=a/\a < 2 ^ k) (f:0<=b) (h:a+b*2 ^ k < 18446744073709551616) :
  pG .u64 a (b*2 ^ k)=a+b*2 ^ k:=by
 obtain ⟨x,rfl⟩:∃x:Nat,a=x:=⟨az a,aD⟩;obtain ⟨y,rfl⟩:∃y:Nat,b=y:=⟨az b,aD⟩;have w:((y:Int)*2 ^ k)=((y*2 ^ k:Nat):Int):=by rw[YT,Zf];rfl
 have e:x < 2 ^ k:=by have:=c.2;exact_mod_cast this
 have z:=aa8 e y;rw[Nat.shiftLeft_eq] at z;rw[w] at h ⊢;generalize g:y*2 ^ k=p at *;rw[OV aD aD,Nat.or_comm,<-z];omega
def UY:Int.fdiv x (2 ^ min (Int.toNat 32) 64)=x / 4294967296:=by rw[show ((2:Int) ^ min (Int.toNat 32) 64)=4294967296 from rfl,YZ _ aS]
def UW {x:Int}:x*2 ^ min (Int.toNat 32) 64=x*4294967296:=by rw[show ((2:Int) ^ min (Int.toNat 32) 64)=4294967296 from rfl]
def Ok:(1==1&&b)=b:=by cases b<;>rfl
attribute [go_sem] UY UW Ok
def ov {a:Nat} (h:a < 4294967296):(BitVec.ofInt IntKind.u32.bits (a:Int)).toNat=a:=by show (BitVec.ofInt 32 (a:Int)).toNat=a;rw[aaL];omega
def Jt {a b:Nat} (h:a < 4294967296) (k:b < 4294967296):pG .u32 a b=((a ||| b:Nat):Int):=by unfold pG;rw[BitVec.toNat_or,ov h,ov k];have x:a ||| b < 2 ^ 32:=abp aD aD;exact wrap_u32 aD aD
def Gb {a b:Nat} (h:a < 4294967296) (k:b < 4294967296):wG .u32 a b=((a &&& b:Nat):Int):=by unfold wG;rw[BitVec.toNat_and,ov h,ov k];have x:a &&& b < 2 ^ 32:=abi _ aD;exact wrap_u32 aD aD
def Ch {a b:Nat} (h:a < 4294967296) (k:b < 4294967296):yj .u32 a b=((a ^^^ b:Nat):Int):=by unfold yj;rw[BitVec.toNat_xor,ov h,ov k];have x:a ^^^ b < 2 ^ 32:=aaM aD aD;exact wrap_u32 aD aD
def NJ (h:v < 4294967296):v / 2147483648=(v.testBit 31).toNat:=by
 rw[aaY];have:v / 2 ^ 31 < 2:=aD;have e:v / 2 ^ 31=v / 2147483648:=rfl;by_cases k:v / 2 ^ 31 % 2=1
 .simp[k];omega
 .simp[k];omega
def lX (h:v < 2147483648):v.testBit 31=ar:=Nat.testBit_lt_two_pow h
def lW (h:2147483648<=v) (k:v < 4294967296):v.testBit 31=aq:=by rw[aaY];simp;omega
def Ho (t:0<=x/\x < 4294967296) (H:0<=y/\y < 4294967296) (s:0<=c/\c<=1) (i:o=(x - y - c) % 4294967296) :
  pG .u32 (wG .u32 (yj .u32 4294967295 x) y) (wG .u32 (yj .u32 4294967295 (yj .u32 x y)) o) / 2147483648 = -((x - y - c) / 4294967296):=by
 obtain ⟨a,rfl⟩:∃a:Nat,x=a:=⟨az x,aD⟩;obtain ⟨b,rfl⟩:∃b:Nat,y=b:=⟨az y,aD⟩;obtain ⟨r,j⟩:∃r:Nat,o=r:=⟨az o,aD⟩;rw[j] at i ⊢;have e:a < 2 ^ 32:=aD;have f:b < 2 ^ 32:=aD;have p:r < 2 ^ 32:=aD;have K:4294967295 ^^^ a < 2 ^ 32:=aaM aS e;have l:=aaM e f;have X:4294967295 ^^^ (a ^^^ b) < 2 ^ 32:=aaM aS l;have m:(4294967295 ^^^ a) &&& b < 2 ^ 32:=abi _ f;have n:(4294967295 ^^^ (a ^^^ b)) &&& r < 2 ^ 32:=abi _ p;have W:=abp m n;have g:(4294967295:Int)=((4294967295:Nat):Int):=rfl;rw[g,Ch aS aD,Gb aD aD,Ch aD aD,Ch aS aD,Gb aD aD,Jt aD aD];have w:=NJ (v:=((4294967295 ^^^ a) &&& b) ||| ((4294967295 ^^^ (a ^^^ b)) &&& r)) aD;have key:((((4294967295 ^^^ a) &&& b) ||| ((4294967295 ^^^ (a ^^^ b)) &&& r):Nat).testBit 31).toNat=(if (a:Int) - b - c < 0 then 1 else 0):=by
  rw[abG,Nat.testBit_and,Nat.testBit_and,abz,abz,abz,show Nat.testBit 4294967295 31=aq from aS];rcases Xe a 2147483648 with h | h<;>rcases Xe b 2147483648 with k | k
  .rw[lX h,lX k];by_cases z:(a:Int) - b - c < 0
   .rw[lW (v:=r) aD aD,W0 z];rfl
   .rw[lX (v:=r) aD,WX z];rfl
  .rw[lX h,lW k aD,W0 aD];simp
  .rw[lW h aD,lX k,WX aD];simp
  .rw[lW h aD,lW k aD];by_cases z:(a:Int) - b - c < 0
   .rw[lW (v:=r) aD aD,W0 z];rfl
   .rw[lX (v:=r) aD,WX z];rfl
 rw[key] at w;generalize ((4294967295 ^^^ a) &&& b) ||| ((4294967295 ^^^ (a ^^^ b)) &&& r)=q at *;split at w<;>omega
def zU (h:0<=x/\x < 18446744073709551616):wG .u64 x 4294967295=x % 4294967296:=by
 obtain ⟨a,rfl⟩:∃a:Nat,x=a:=⟨az x,aD⟩;unfold wG;have k:(BitVec.ofInt IntKind.u64.bits (a:Int)).toNat=a:=by show (BitVec.ofInt 64 (a:Int)).toNat=a;rw[aaL];omega
 have y:(BitVec.ofInt IntKind.u64.bits (4294967295:Int)).toNat=2 ^ 32 - 1:=rfl;rw[BitVec.toNat_and,k,y,Nat.and_two_pow_sub_one_eq_mod];have:a % 2 ^ 32 < 4294967296:=aaz _ aS;rw[br aD aD];omega
def jX {a b:Int} (k:0<=a/\a < 4294967296) (h:0<=b/\b < 4294967296):0<=a*b/\a*b<=18446744065119617025:=by refine ⟨YB k.1 h.1,?_⟩;have:=Int.mul_le_mul (show a<=4294967295 by omega) (show b<=4294967295 by omega) h.1 (by decide);exact this
def TL {l:List Int} {i:Nat} {y:Int}:(l.map gD).set i [.c (.int .u32 y)]=(l.set i y).map gD:=(Yp (f:=gD)).symm
def R8:aA n [.c (.int .u32 y)]=(aA n y).map gD:=by simp[gD]
attribute [go_sem] TL R8
end Go.Fx
