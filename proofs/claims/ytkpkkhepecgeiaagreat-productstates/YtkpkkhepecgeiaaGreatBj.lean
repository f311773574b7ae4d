/- A state of the product is allowed or initial exactly when its two parts are; ProductStates returns true whatever its arguments are: part 10 of 10. No condition. -/
import Derived.Test.YtkpkkhepecgeiaaGreatBi
set_option linter.all false
set_option maxRecDepth 8000
set_option maxHeartbeats 9000000
set_option autoImplicit true
set_option relaxedAutoImplicit true
namespace Go.Fx
open Go.Proofs.Tryz
open List renaming length->ae,getD->af,replicate->aA,eraseIdx->aB,range->aC
open Inhabited renaming default->ah
open Option renaming some->ak,none->an
open Bool renaming true->aq,false->ar
open Go.IntKind renaming wrap->au
open Int renaming natAbs->ay,toNat->az
def wZ {α β γ:Type} [Inhabited α] [Inhabited β] [Inhabited γ] {f:α->β->γ} {r:List β}:∀{l:List α} {i j:Nat},i < ae l->j < ae r ->
  af (l.flatMap fun x=>r.map (f x)) (i*ae r+j) ah=f (af l i ah) (af r j ah)
 | [],i,j,h,_=>by simp at h
 | x::l,0,j,_,y=>by rw[YG,XZ,Xc (by simp;omega)];simp[af,y]
 | x::l,i+1,j,h,y=>by have z:=wZ (f:=f) (r:=r) (l:=l) (i:=i) (j:=j) (by simpa using h) y;rw[YG,XZ,Xk (by rw[W4,aa7];omega)];rw[W4,show (i+1)*ae r+j - ae r=i*ae r+j by rw[aa7];omega,<-XZ,z];rfl
def both (b:Au) (s t:Sta):Sta:=⟨s.loc*(ae b.aL:Int)+t.loc,s.pt++t.pt⟩
open Classical in
def Ew {cs:List Cd} {s:Sta}:mC cs s=aq↔fB (ae s.pt) cs (sO (s.pt.map oh)):=by unfold mC mR;rw[Xm,lh]
def Mv {l r:List Q} (h:i < ae l):sO (l++r) i=sO l i:=by unfold sO;rw[XZ,Xc h];rfl
def Mw {l r:List Q}:sO (l++r) (ae l+i)=sO r i:=by unfold sO;rw[XZ,Xk aK,aae];rfl
def Gr {b:Au} {x y:List Cd} {s t:Sta} (c:jw (ae s.pt) x=aq) (f:jw (ae t.pt) y=aq) :
  mC (dO (ae s.pt) (ae t.pt) x y).l (both b s t)=(mC x s&&mC y t):=by
 rw[ZT,WZ,Ew,Ew,Ew];have e:(both b s t).pt.length=ae s.pt+ae t.pt:=Xn ..;have w:(both b s t).pt.map oh=s.pt.map oh++t.pt.map oh:=Xu ..;rw[e,w,ng (tQ c) (tQ f)];have z:ae (s.pt.map oh)=ae s.pt:=W4 ..;refine and_congr ⟨lN fun i h=>?_,lN fun i h=>?_⟩ ⟨lN fun i h=>?_,lN fun i h=>?_⟩
 .exact Mv aD
 .exact (Mv aD).symm
 .rw[<-z];exact Mw
 .rw[<-z];exact Mw.symm
section
variable {a b:Au} {s t:Sta} {m k:Nat} {l:List Int}
def KG (y:StF a s m) (z:StF b t k):(both b s t).loc.toNat=az s.loc*ae b.aL+az t.loc:=by have w:=y.l0;have c:=z.l0;unfold both;have h:s.loc=(az s.loc:Int):=aD;have x:t.loc=(az t.loc:Int):=aD;generalize az s.loc=i at *;generalize az t.loc=j at *;show az (s.loc*(ae b.aL:Int)+t.loc)=_;rw[h,x,<-YT];omega
def Ga (h:StF a s m) (x:StF b t k):sx (da a b m k l) (both b s t)=(sx a s&&sx b t):=by unfold sx;rw[KG h x];show mC (af (gZ a b m k) _ ah).inv.l _=_;unfold gZ;rw[wZ h.l1 x.l1];have w:=(h.v.loc _ (bS (d:=ah) h.l1)).1.1;have c:=(x.v.loc _ (bS (d:=ah) x.l1)).1.1;have y:=h.n;have z:=x.n;subst y z;exact Gr w c
def Kx {α β γ:Type} {f:α->β->γ} {p:γ->Bool} {i:α->Bool} {j:β->Bool} {r:List β} {l:List α} (h:∀x,x∈l->∀y,y∈r->p (f x y)=(i x&&j y)):(l.flatMap fun x=>r.map (f x)).any p=(l.any i&&r.any j):=by
 rw[ZT,WZ,aa1,aa1,aa1];constructor
 .rintro ⟨z,g,e⟩;have ⟨x,w,g⟩:=Zz.1 g;obtain ⟨y,c,rfl⟩:=Xf.1 g;rw[h x w y c,WZ] at e;exact ⟨⟨x,w,e.1⟩,y,c,e.2⟩
 .rintro ⟨⟨x,w,n⟩,y,c,o⟩;exact ⟨f x y,Zz.2 ⟨x,w,Xf.2 ⟨y,c,rfl⟩⟩,by rw[h x w y c,n,o];rfl⟩
def Nx {i x j y q:Int} (c:0<=j) (f:j < q) (g:0<=y) (n:y < q):(i*q+j=x*q+y)↔i=x/\j=y:=by
 constructor
 .intro h;have e:i=x:=by
   have d:(i - x)*q=y - j:=by rw[Int.sub_mul];omega
   have z:(i - x)*q < 1*q:=aD;have w:(-1)*q < (i - x)*q:=aD;have g1:=abn z aD;have g2:=abn w aD;omega
  subst e;exact ⟨rfl,aD⟩
 .rintro ⟨rfl,rfl⟩;rfl
def Ni (w:StF a s m) (z:StF b t k):AM (da a b m k l) (both b s t)=(AM a s&&AM b t):=by
 unfold AM;rw[Ga w z];have h:(da a b m k l).init.any (BG (both b s t))=(a.init.any (BG s)&&b.init.any (BG t)):=by show (fA a b m k).any _=_;unfold fA;refine Kx fun x g y i=>?_;have A:=w.v.xz x g;have B:=z.v.xz y i;have j:=z.l0;have o:=z.l1;unfold BG;have c:=w.n;have f:=z.n;subst c f;rw[Gr A.2.1 B.2.1];have e:(x.loc*(ae b.aL:Int)+y.loc=(both b s t).loc)=(x.loc=s.loc/\y.loc=t.loc):=propext (Nx B.1.1 B.1.2 z.l0 aD);show (decide (x.loc*(ae b.aL:Int)+y.loc=(both b s t).loc)&&_)=_;simp only[e,Bool.decide_and];cases decide (x.loc=s.loc)<;>cases decide (y.loc=t.loc)<;>cases mC x.set.l s<;>rfl
 rw[h];cases sx a s<;>cases sx b t<;>cases a.init.any (BG s)<;>rfl
def LQ (y:StF a s m) (z:StF b t k) (h:eF (da a b m k l)=aq):wg (da a b m k l) (both b s t)=aq:=by
 have d:=nZ h;have f:=d.m4;have c:(da a b m k l).bt=(m:Int)+k:=rfl;have g:((da a b m k l).aL.length:Int)=(ae a.aL:Int)*ae b.aL:=by show (ae (gZ a b m k):Int)=_;rw[mD];exact YT _ _
 have s0:=y.l0;have o:=y.l1;have r:=z.l0;have v:=z.l1;have al:=qk (q:=(ae b.aL:Int)) (p:=(ae a.aL:Int)) y.l0 aD z.l0 aD;unfold wg J5;rw[WZ,Xm,WZ,Xm,W6,g,c];have e:(both b s t).pt.length=ae s.pt+ae t.pt:=Xn ..;have i:=y.n;have j:=z.n;rw[c] at f;refine ⟨al,⟨aD,aD,aD⟩,fun x w=>?_⟩;rcases Yc.1 w with w | w
 .exact y.p x w
 .exact z.p x w
end
section
variable {P:Program}
def a9.MW (h:a9 P f k r) (V:k.all bP=aq) (hw:WkS (ae H) H H2 R) (F:ae k=ae args)
  (hr:∀(j:Nat) a t,args[j]?=ak a->k[j]?=ak t->R a t) (hk:∀{I A β J v},Rel I β r v->Rel A J r v):bK P f args H r H:=by
 have ⟨T,U⟩:=h;refine ⟨T,fun I β w W s z=>?_⟩;have ⟨p,a3,s2,hR,hx⟩:=hw I β w s;have y:bJ p a3 k W:=by refine ⟨F ▸ z.1,fun j t v q M=>?_⟩;have hj:j < ae args:=F ▸ (W9.1 q).1;have C:=W7 hj;exact hR _ _ _ (hr j _ _ C q) (z.2 j _ v C M)
 have s0:Sim p eW [] w:=⟨s2.ef,fun id m h=>by simp at h,fun id a0 m a1 B B' h=>by simp at h,fun id ver B h=>by simp[eW] at h,fun id m n h=>by simp at h⟩;have l:bJ p eW k W:=⟨y.1,fun j a v e L=>(y.2 j a v e L).bP (dY V e) eW⟩;refine (U p eW w W s0 l).mono fun en w' hp=>?_;have ⟨rv,A,J,q,x,s',X⟩:=hp;have K:∀b,¬Own eW [] b:=by rintro b ⟨id,m,B,h,_⟩;simp at h
 have i:=fun b g=>(x.frame b g (K b)).1;refine ⟨rv,I,β,q,⟨.refl _,.refl _,WY _,x.size,x.os,x.tape,x.output,fun b g _=>⟨i b g,fun _=>rfl⟩,fun b g => .inl g⟩,⟨fun b o v g=>?_,fun id m h=>?_,s.inj,s.gw,s.ver⟩,hk X⟩
 .have ⟨c,E,N,G,k2⟩:=s.ef b o v g;exact ⟨c,E,N,i b (Yl.1 G).1 ▸ G,k2⟩
 .have ⟨B,O,S,D⟩:=s.obj id m h;exact ⟨B,O,S,D.aR (.refl _) (.refl _) (fun hn=>i _ (D.lt hn)) (fun _ _=>rfl)⟩
def NC {u v:Value} {I b:Imm} {β l:Bet} {w:Value} (h:Rel I β (.bI [.c u,.c v]) w):Rel b l (.bI [.c u,.c v]) w:=by
 cases h with
 | bI g i =>
  refine .bI g fun j a x e f=>?_;have z:=i j a x e f
  match j with
  | 0=>simp at e;subst e;obtain ⟨k,y⟩:=z.c7;rw[k];exact .c y
  | 1=>simp at e;subst e;obtain ⟨k,y⟩:=z.c7;rw[k];exact .c y
  | j+2=>simp at e
def xU {F:FuncId} {a:Au} {s:Sta} {v:AV} {H:aE} {u w:Value} (h:a9 P F [.agg (e9 a),.agg (wa s)] (.bI [.c u,.c w])) (g:Acc n0 H 2 v (s.pt.map eu)) :
  bK P F [.agg (e9 a),.agg [.q0 s.loc,v]] H (.bI [.c u,.c w]) H:=by
 have l:(s.pt.map eu).all (fun x=>x.all b8)=aq:=Ab _;have ⟨m,q,f,o⟩:=g.Ey;refine h.MW (R:=fun a c=>∃b,(yD a=aq/\b=jo v (s.pt.map eu) a)/\bg b c) rfl ((g.CL (n:=ae H) l).trans (lz _ _)) rfl (fun j x y e z=>?_) NC;have k:∀u,aF u=[]->bY v (s.pt.map eu) u=u:=fun u h=>gU (fun p _ i=>by rw[h] at i;simp at i)
 match j with
 | 0 =>
  simp at e z;subst e z;have:jo v (s.pt.map eu) (.agg (e9 a)) = .agg (e9 a):=by simp only[jo,jF,XD,Yi];rw[k _ rfl,k _ rfl,k _ rfl,k _ rfl]
  exact ⟨_,⟨rfl,rfl⟩,by rw[this];exact bg.refl _⟩
 | 1 =>
  simp at e z;subst e z;have:jo v (s.pt.map eu) (.agg [.q0 s.loc,v]) = .agg [.q0 s.loc,bY v (s.pt.map eu) v]:=by simp only[jo,jF,XD,Yi];rw[k (.c _) rfl]
  refine ⟨_,⟨?_,rfl⟩,by rw[this];exact pN (.cons (bg.refl _) (.cons m .nil))⟩;show [AV.q0 s.loc,v].all fK=aq;rw[Yu,Yu,f];rfl
 | j+2=>simp at e
def M0 {a b:Au} {l:List Int} (h:(m7 a b l).2.2=0):eF a=aq/\eF b=aq/\eF (da a b (az a.bt) (az b.bt) l)=aq/\(m7 a b l).1=da a b (az a.bt) (az b.bt) l:=by
 revert h
 unfold m7
 split
 .rename_i k
  split
  .split
   .rename_i x;intro _;exact ⟨k.1,k.2,x.2,rfl⟩
   .intro h;exact absurd h aS
  .intro h;exact absurd h aS
 .intro h;exact absurd h aS
noncomputable def KH:=Tz 0 f4 {lv:=[77]}
def IG {k id ver:Nat} {H:aE} {xs:List (List AV)} (ys:List (List AV)) (h:aH H id ver=ak ⟨k,ver,xs⟩) (x:ae xs+ae ys < 4000000000) :
  ∃w,∀K,c6 k (.sl k id ver 0 (ae xs)) ys H K=K (.sl k id w 0 (ae xs+ae ys)) (H.set id (ak ⟨k,w,xs++ys⟩)):=by
 cases ys with
 | nil =>
  refine ⟨ver,fun K=>?_⟩;have e:H.set id (ak ⟨k,ver,xs++[]⟩)=H:=by
   rw[Xz];have hi:=aU h;exact ZF fun j=>by
    rw[abo];split
    .rename_i e;subst e;rw[(ct h).1]
    .rfl
  rw[e];rfl
 | cons z y =>
  refine ⟨ver+1,fun K=>?_⟩;rw[qX h aK];refine propext ⟨fun g=>g.2.2,fun g=>⟨rfl,by simp at x ⊢;omega,g⟩⟩
def L5 (a b:Au) (l:List Int) (fl:Bool) (s t:Sta) (ha:AuL a) (hb:AuL b) (hl:ae l < 9223372036854775808) (hs:ae s.pt < 9223372036854775808) (ht:ae t.pt < 9223372036854775808) :
  a9 prog 4 [.agg (e9 a),.agg (e9 b),.seq 1 fl (jN l),.agg (wa s),.agg (wa t)] (.v0 aq):=by
 refine pc func4 KH ?_;refine uz ?_;refine Y ?_;refine cX (LY a b l fl ha hb hl) ?_;cases hf:eZ a&&(eZ b&&decide (ae l<=40)) with
 | false =>
  refine Z0 ?_;refine cY oT ?_;exact aV rfl rfl
 | true =>
  simp only[WZ,Xm] at hf;have ⟨I,J,X⟩:=hf;by_cases M:40 < (ae s.pt:Int)
  .refine Z1 M ?_;refine cY oT ?_;exact aV rfl rfl
  by_cases h2:40 < (ae t.pt:Int)
  .refine Z2 M h2 ?_;refine cY oT ?_;exact aV rfl rfl
  have sa:=yp I;have sb:=yp J;have hP:=C5 a b l fl I J X;have al:∀{a:Au} {s:Sta},AuS a->ae s.pt < 1000000000->∃x f,a9 prog 12 [.agg (e9 a),.agg (wa s)] (.bI [.v0 x,.q0 f])/\(f=0->(eF a=aq/\wg a s=aq)/\x=sx a s):=fun {a s} ha hl=>by
   have h:=C4 a s ha hl;by_cases v:eF a=aq/\wg a s=aq
   .rw[W0 v] at h;exact ⟨_,_,h,fun _=>⟨v,rfl⟩⟩
   .rw[WX v] at h;exact ⟨_,_,h,fun h=>absurd h aS⟩
  obtain ⟨x,f,hA,v1⟩:=al sa (s:=s) aD;obtain ⟨y,g,hB,v2⟩:=al sb (s:=t) aD;refine Z2 M h2 ?_;refine cX hP ?_;refine Z0 ?_;refine cX hA ?_;refine Z0 ?_;refine cX hB ?_;by_cases D:(m7 a b l).2.2=0;rotate_left
  .have i:=Xh D;refine Z1 i ?_;refine cY oT ?_;exact aV rfl rfl
  have i:=XO D;by_cases G:f=0;rotate_left
  .have j:=Xh G;refine Z2 i j ?_;refine cY oT ?_;exact aV rfl rfl
  have j:=XO G;by_cases L:g=0;rotate_left
  .have m:=Xh L;refine Z3 i j m ?_;refine cY oT ?_;exact aV rfl rfl
  have m:=XO L;refine Z3 i j m ?_;obtain ⟨u1,rfl⟩:=v1 G;obtain ⟨u2,rfl⟩:=v2 L;have ⟨va,vb,C,e⟩:=M0 D;rw[e];have S:=StF.of u1.1 u1.2;have T:=StF.of u2.1 u2.2;have U:=LQ S T C;have Z:=StF.of C U;have N:=Ga S T (l:=l);have O:=Ni S T (l:=l);have A:=nZ va;have B:=nZ vb;have d4:=(nZ C).m4;have hd:(da a b (az a.bt) (az b.bt) l).bt=(az a.bt:Int)+az b.bt:=rfl;have pS:=JE A B (rj I A) (rj J B) l aD;have pA:=C4 (da a b (az a.bt) (az b.bt) l) (both b s t) pS (by have:=S.n;have:=T.n;show ae (s.pt++t.pt) < _;rw[Xn];omega);have pI:=ya (da a b (az a.bt) (az b.bt) l) (both b s t) pS (by have:=S.n;have:=T.n;show ae (s.pt++t.pt) < _;rw[Xn];omega);have iA:=ya a s sa aD;have iB:=ya b t sb aD;rw[W0 ⟨C,U⟩,N] at pA;rw[W0 ⟨C,U⟩,O] at pI;rw[W0 u1] at iA;rw[W0 u2] at iB;generalize da a b (az a.bt) (az b.bt) l=R at *;clear hP e D i;have s0:=S.l0;have s1:=S.l1;have t0:=T.l0;have t1:=T.l1;have r:=A.AQ;have K:=B.AQ;have al:=qk (q:=(ae b.aL:Int)) (p:=(ae a.aL:Int)) s0 aD t0 aD;have a0:(ae a.aL:Int)*ae b.aL<=144:=by have:=ZD r K;rw[<-YT];omega
  have p0:0<=s.loc*(ae b.aL:Int):=YB s0 aD;have e3:au .i64 (s.loc*(ae b.aL:Int))=s.loc*(ae b.aL:Int):=wrap_i64 aD aD;have e4:au .i64 (s.loc*(ae b.aL:Int)+t.loc)=(both b s t).loc:=wrap_i64 aD aD;refine Z2 e3 e4 ?_;have n1:=S.n;have n2:=T.n;have W:(both b s t).pt.map eu=s.pt.map eu++t.pt.map eu:=Xu ..;have ⟨w1,E⟩:=IG (k:=2) (id:=1) (ver:=0) (H:=[ak ⟨4,0,[e9 R]⟩,ak ⟨2,0,[]⟩]) (xs:=[]) (s.pt.map eu) rfl (by simp;omega);have ⟨o,F⟩:=IG (k:=2) (id:=1) (ver:=w1) (H:=[ak ⟨4,0,[e9 R]⟩,ak ⟨2,w1,s.pt.map eu⟩]) (xs:=s.pt.map eu) (t.pt.map eu) (by simp[aH]) (by simp;omega);simp only[XQ,Xb,XH,List.set_cons_succ,ZP,W4,<-W] at E F;refine Z1 E ?_;refine Z1 F ?_;have V:Acc 0 [ak ⟨4,0,[e9 R]⟩,ak ⟨2,o,(both b s t).pt.map eu⟩,ak ⟨2,0,[[.c (.int .i64 (both b s t).loc),.sl 2 1 o 0 (ae s.pt+ae t.pt)]]⟩] 2 (.sl 2 1 o 0 (ae s.pt+ae t.pt)) ((both b s t).pt.map eu):=by
   have h:=Acc.sl (n0:=0) (k:=2) (id:=1) (ver:=o) (H:=[ak ⟨4,0,[e9 R]⟩,ak ⟨2,o,(both b s t).pt.map eu⟩,ak ⟨2,0,[[.c (.int .i64 (both b s t).loc),.sl 2 1 o 0 (ae s.pt+ae t.pt)]]⟩]) (xs:=(both b s t).pt.map eu) (XE _) (by simp[aH]);have e:ae ((both b s t).pt.map eu)=ae s.pt+ae t.pt:=by rw[W];simp
   rw[e] at h;exact h
  have cA:=xU pA V;have cI:=xU pI V;clear pA pI V E F;generalize ae s.pt+ae t.pt=q at *;generalize (both b s t).pt=pp at *;generalize (both b s t).loc=qq at *;refine dK cA ?_;generalize sx a s=x at *;generalize sx b t=y at *;generalize AM a s=z at *;generalize AM b t=w at *;have b1:(ar==ar)=aq:=rfl;have b2:(aq==aq)=aq:=rfl;have b3:(aq ^^ aq)=ar:=rfl;have b4:(ar ^^ aq)=aq:=rfl;cases x<;>cases y
  all_goals (
   refine Z3 b1 b2 b3 ?_
   refine cX iA ?_
   refine Z0 ?_
   refine cX iB ?_
   refine Z0 ?_
   refine dK cI ?_
   cases z<;>cases w
   all_goals (
    refine Z3 b1 b2 b4 ?_
    refine cY oT ?_
    exact aV rfl rfl))
end
end Go.Fx
namespace Go.Fx
open List renaming length->ae,getD->af,replicate->aA,eraseIdx->aB,range->aC
open Inhabited renaming default->ah
open Option renaming some->ak,none->an
open Bool renaming true->aq,false->ar
open Go.IntKind renaming wrap->au
open Int renaming natAbs->ay,toNat->az
open Go.Proofs.Tryz (prog)
section
variable {H:Type} {enc:TypeId × Value->H} {w:World} {sp:Nat->Bool} {held:Bool}
abbrev QN (x:Int × Int):Prop:=I64 x.1/\I64 x.2
abbrev QS (s:Sta):Prop:=I64 s.loc/\(ae s.pt<=maxLen/\∀x,x∈s.pt->QN x)
def Mk:prog.cellsOf 117=2:=by kernel_rfl
def Rp:prog.cellsOf 41=1:=by kernel_rfl
def Rq:prog.cellsOf 43=2:=by kernel_rfl
def PT:dI prog w enc sp held 117 (fun x:Int × Int=>eu x) QN:=by intro fuel k x h;obtain ⟨a,b⟩:=fS Go.Proofs.Tryz.underlying117 h;rw[Mk] at a;obtain ⟨c,n,y⟩:=b 0 _ rfl;change DataW.trod enc prog w 0 sp held c 3 ((k.drop 0).take (prog.cellsOf 3))=ak n at y;rw[tI] at y;obtain ⟨l,f,i⟩:=ua _ _ _ y;obtain ⟨e,o,z⟩:=b 1 _ rfl;change DataW.trod enc prog w 0 sp held e 3 ((k.drop 1).take (prog.cellsOf 3))=ak o at z;rw[tI] at z;obtain ⟨m,g,j⟩:=ua _ _ _ z;have R:=fh i j;rw[fi k 0,Yx,Xq (by rw[a];decide)] at R;exact ⟨⟨l,m⟩,⟨f,g⟩,R⟩
def RZ:dI prog w enc sp held 41 (fun l:List (Int × Int)=>[.seq 2 ar (l.map fun x=>eu x)]) (fun l=>ae l<=maxLen/\∀x,x∈l->QN x) :=
 jY (e:=117) (by kernel_rfl) Mk aS (fun x=>⟨rfl,rfl⟩) PT
def O0:dI prog w enc sp held 43 (fun s:Sta=>wa s) QS:=by intro fuel k x h;obtain ⟨a,b⟩:=fS Go.Proofs.Tryz.underlying43 h;rw[Rq] at a;obtain ⟨c,n,y⟩:=b 0 _ rfl;change DataW.trod enc prog w 0 sp held c 3 ((k.drop 0).take (prog.cellsOf 3))=ak n at y;rw[tI] at y;obtain ⟨l,f,i⟩:=ua _ _ _ y;obtain ⟨e,o,z⟩:=b 1 _ rfl;change DataW.trod enc prog w 0 sp held e 41 ((k.drop 1).take (prog.cellsOf 41))=ak o at z;rw[Rp] at z;obtain ⟨m,g,j⟩:=RZ _ _ _ z;have R:=fh i j;rw[fi k 0,Yx,Xq (by rw[a];decide)] at R;exact ⟨⟨l,m⟩,⟨f,g⟩,R⟩
end
end Go.Fx
namespace Go.Proofs.YtkpkkhepecgeiaaGreat
open List renaming length->ae,getD->af,replicate->aA,eraseIdx->aB,range->aC
open Inhabited renaming default->ah
open Option renaming some->ak,none->an
open Bool renaming true->aq,false->ar
open Go.IntKind renaming wrap->au
open Int renaming natAbs->ay,toNat->az
open Go.ChangeShapes Go.WideShapes Go.ChangeAt Go.RowKit
open Go.Fx
def Du (B:Os) (started:B.Started) (H:Type) (enc:TypeId × Value->H) :
  ReturnsInHanded {} Tryz.checked B 4 .any (Rows.productStatesSpec.pre6 enc Tryz.prog Tryz.f4 Rows.productStatesRow.domain ar) (Rows.productStatesSpec.post enc Tryz.prog Tryz.f4 ar aq ar ar):=by
 refine returnsInHanded_of_change (C:=Tryz.checked) PD started (by kernel_rfl) Tryz.func4
  (ChangeSpec.witness6 (enc:=enc) (C:=Tryz.checked) ar ⟨#[],#[.agg #[.int .i64 0,.slice an 0 0,.slice an 0 0,.slice an 0 0],.agg #[.int .i64 0,.slice an 0 0,.slice an 0 0,.slice an 0 0],.slice an 0 0,.agg #[.int .i64 0,.slice an 0 0],.agg #[.int .i64 0,.slice an 0 0]],[]⟩ 8 (by kernel_rfl) (by kernel_rfl) (by kernel_rfl) (by kernel_rfl)) ?_;intro W base args ds gs before z X A _;have k:=z;have c:=X;obtain ⟨p,q,f,J,rfl,N,O⟩:=X;have v:=f;rw[Tryz.params4] at v k;have K:=v;obtain ⟨v0,v1,v2,v3,v4,d0,d1,d2,d3,d4,U,V,p2,p3,p4,rfl,rfl,rfl,j,m,n,o,r⟩:=Fp v;obtain ⟨rfl,rfl⟩:=trodVars_none J;obtain ⟨E,rfl,_⟩:=okWide_struct Tryz.underlying26 (k 0 26 v0 rfl rfl);obtain ⟨F,rfl,_⟩:=okWide_struct Tryz.underlying26 (k 1 26 v1 rfl rfl);obtain ⟨D,T,S,rfl⟩:=okWide_slice Tryz.underlying27 (k 2 27 v2 rfl rfl);obtain ⟨G,rfl,_⟩:=okWide_struct Tryz.underlying43 (k 3 43 v3 rfl rfl);obtain ⟨I,rfl,_⟩:=okWide_struct Tryz.underlying43 (k 4 43 v4 rfl rfl);obtain ⟨f0,j⟩:=j;obtain ⟨f1,m⟩:=m;obtain ⟨f2,n⟩:=n;obtain ⟨f3,o⟩:=o;obtain ⟨f4,r⟩:=r;obtain ⟨a,qa,ra⟩:=OY _ _ _ j;obtain ⟨b,qb,rb⟩:=OY _ _ _ m;obtain ⟨l,ql,rl⟩:=OZ _ _ _ n;obtain ⟨s,qs,rs⟩:=O0 _ _ _ o;obtain ⟨t,qt,rt⟩:=O0 _ _ _ r;clear f z;simp only[Xz] at c;have hm:maxLen < 9223372036854775808:=by decide
 have L:=L5 a b l ar s t qa.Qq qb.Qq (by have:=ql.1;omega) (by have:=qs.2.1;omega) (by have:=qt.2.1;omega);refine (L.2 (wI W) eW W [.agg E,.agg F,.slice D T S,.agg G,.agg I] (Sp W) (.cons (yJ ra) (.cons (yJ rb) (.cons (rl.2 0 _ _ rfl rfl) (.cons (yJ rs) (.cons (yJ rt) (.nil _ _))))))).mono fun e W' ⟨rv,I',a0,M,x,s',P⟩=>?_;obtain ⟨rfl,_⟩:=P.c7;subst M;have g:∀y,y∈U++V++p2++p3++p4->y.block < W.heap.size:=fun y i=>c.lt y (by simpa using i);refine ⟨_,rfl,_,_,_,[],_,[],c,?_,wb (DataW.TrodAll.respare (kids_rows (by kernel_rfl) (by kernel_rfl)) (slices_full_of Tryz.prog (by kernel_rfl)) (fun t R=>?_) K (fun y i=>XB (g y i))) (fun y i=>KR x (g y i)),rfl,KQ x _,fun h=>by cases h⟩
 .exact trodAll_mk1 (shut_bool Tryz.underlying4 _)
 .have:t=26\/t=27\/t=43:=by simp at R;omega
  rcases this with rfl | rfl | rfl<;>exact ZI (by kernel_rfl)
theorem productStates_holds:Rows.ProductStatesSaid :=
 OpenClaim.holds_of_wide 4 Tryz.f4 rfl rfl rfl rfl rfl rfl rfl ⟨rfl,rfl,rfl,rfl,rfl⟩ rfl rfl rfl rfl rfl (by kernel_rfl) Tryz.func4 (by kernel_rfl)
  (ZI (by kernel_rfl)) (by unfold Func.isWrapper;first | (rw[W0 (by decide +kernel)];kernel_rfl) | (rw[WX (by decide +kernel)];exact ⟨rfl,rfl⟩))
  (fun h started H enc _=>Du h started H enc)
#print axioms productStates_holds
end Go.Proofs.YtkpkkhepecgeiaaGreat
