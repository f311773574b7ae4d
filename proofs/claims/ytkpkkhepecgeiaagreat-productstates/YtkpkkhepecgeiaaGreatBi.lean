/- A state of the product is allowed or initial exactly when its two parts are; ProductStates returns true whatever its arguments are: part 9 of 10. No condition. -/
import Derived.Test.YtkpkkhepecgeiaaGreatBh
import Derived.Test.YtkpkkhepecgeiaaGreatBf
import Derived.Test.YtkpkkhepecgeiaaGreatBg
import Derived.Test.YtkpkkhepecgeiaaGreatBe
import Derived.Test.YtkpkkhepecgeiaaGreatRows
import Derived.ProofKit
set_option linter.all false
set_option maxRecDepth 8000
set_option maxHeartbeats 9000000
set_option autoImplicit true
set_option relaxedAutoImplicit true
namespace Go.Fx
open Go.Proofs.Tryz
open List renaming length->ae,getD->af,replicate->aA,eraseIdx->aB,range->aC
open Inhabited renaming default->ah
open Option renaming some->ak,none->an
open Bool renaming true->aq,false->ar
open Go.IntKind renaming wrap->au
open Int renaming natAbs->ay,toNat->az
section
variable {P:Program}
def gZ (a b:Au) (m k:Nat):List Lc:=a.aL.flatMap fun x=>b.aL.map fun y=>⟨dO m k x.inv.l y.inv.l,dO m k x.eb.l y.eb.l⟩
def fA (a b:Au) (m k:Nat):List Zn:=a.init.flatMap fun x=>b.init.map fun y=>⟨x.loc*(ae b.aL:Int)+y.loc,dO m k x.set.l y.set.l⟩
def da (a b:Au) (m k:Nat) (l:List Int):Au:=⟨(m:Int)+k,gZ a b m k,(bQ a b l).map (dW a b m k),fA a b m k⟩
def iK (x:Lp):Int × Int:=(x.i,x.k)
def Gp (l:List Lc):(l.map kP).all (fun x=>x.all b8)=aq:=by rw[Zw,W6];exact fun c _=>rfl
def Gl (l:List Jp):(l.map fQ).all (fun x=>x.all b8)=aq:=by rw[Zw,W6];exact fun c _=>rfl
def GY (l:List Zn):(l.map jx).all (fun x=>x.all b8)=aq:=by rw[Zw,W6];exact fun c _=>rfl
def Ab (l:List (Int × Int)):(l.map eu).all (fun x=>x.all b8)=aq:=by rw[Zw,W6];exact fun c _=>rfl
structure PrR (H:aE) (d:Int) (vl vj vi:AV) (L:List Lc) (J:List Jp) (Z:List Zn) (x:Option Nat) (vp:AV) (ps:List (Int × Int)):Prop where
 o0:aH H 0 0=some ⟨4,0,[[.c (.int .i64 0),.nil,.nil,.nil]]⟩
 o1:aH H 1 0=some ⟨1,0,[[.nil]]⟩
 o2:aH H 2 0=some ⟨1,0,[[.c (.int .i64 0)]]⟩
 o3:aH H 3 0=some ⟨4,0,[[.c (.int .i64 d),vl,vj,vi]]⟩
 ox:∀q,x=some q->4<=q/\aH H q 0=some ⟨1,0,[[vp]]⟩/\q∉aF vl/\q∉aF vj/\q∉aF vi/\q∉aF vp
 al:Acc 4 H 4 vl (L.map kP)
 aj:Acc 4 H 6 vj (J.map fQ)
 ai:Acc 4 H 3 vi (Z.map jx)
 ap:Acc 4 H 2 vp (ps.map eu)
 zh:∀id,id∈aF vl->id∉aF vj
 zg:∀id,id∈aF vl->id∉aF vi
 Av:∀id,id∈aF vl->id∉aF vp
 zb:∀id,id∈aF vj->id∉aF vi
 At:∀id,id∈aF vj->id∉aF vp
 Ar:∀id,id∈aF vi->id∉aF vp
section
variable {H G:aE} {d:Int} {vl vj vi vp:AV} {L:List Lc} {J:List Jp} {Z:List Zn} {x:Option Nat} {ps:List (Int × Int)}
def PrR.len (h:PrR H d vl vj vi L J Z x vp ps):4<=ae H:=dp (aU h.o3)
def PrR.aQ (h:PrR H d vl vj vi L J Z x vp ps) (k:aT H G []):PrR G d vl vj vi L J Z x vp ps:=by
 have e:=fun w y=>k.2 w y aK 0;have f:=h.len;exact ⟨(e 0 aD).trans h.o0,(e 1 aD).trans h.o1,(e 2 aD).trans h.o2,(e 3 aD).trans h.o3,
  fun q z=>by obtain ⟨a,b,c⟩:=h.ox q z;exact ⟨a,(e q (aU b)).trans b,c⟩,
  h.al.aQ k aK,h.aj.aQ k aK,h.ai.aQ k aK,h.ap.aQ k aK,h.zh,h.zg,h.Av,h.zb,h.At,h.Ar⟩
def PrR.ft (h:PrR H d vl vj vi L J Z x vp ps) (S:ae L < 1000000) (y:Lc) :
  ∃v G,(∀K,c6 4 vl [kP y] H K=K v G)/\(bh v=aq/\v.cells=[v]/\eC v=aq)/\aH G 3 0=ak ⟨4,0,[[.q0 d,vl,vj,vi]]⟩/\PrR (G.set 3 (ak ⟨4,0,[[.q0 d,v,vj,vi]]⟩)) d v vj vi (L++[y]) J Z x vp ps:=by
 have N:=h.len;have ⟨v,G,t,X,g,R,p,W,A,B⟩:=h.al.app N cE (kP y);have ge:=fun z a=>(h.al.ge z a).1;have e:∀z,z < ae H->z∉aF vl->z≠3->∀w,aH (G.set 3 (ak ⟨4,0,[[.q0 d,v,vj,vi]]⟩)) z w=aH H z w:=fun z c I M w=>by rw[aW (Xg M),g.2 z c I]
 have s:aH G 3 0=ak ⟨4,0,[[.q0 d,vl,vj,vi]]⟩:=by rw[g.2 3 aD (fun b=>by have:=ge 3 b;omega)];exact h.o3
 have m:∀{k u} {o:List (List AV)},Acc 4 H k u o->(∀z,z∈aF vl->z∉aF u)->Acc 4 (G.set 3 (ak ⟨4,0,[[.q0 d,v,vj,vi]]⟩)) k u o:=fun {k u o} f j =>
  (f.aQ g (fun z a b=>j z b a)).nW aS;have n:∀u,(∀z,z∈aF vl->z∉aF u)->(∀z,z∈aF u->z < ae H)->∀z,z∈aF v->z∉aF u:=fun u j l z a f=>by
  rcases p z a with c | c
  .exact j z c f
  .have:=l z f;omega
 refine ⟨v,G,t,⟨W,A,B⟩,s,⟨?_,?_,?_,bz (aU s),fun q O=>?_,Xu ▸ X.nW aS,m h.aj h.zh,m h.ai h.zg,m h.ap h.Av,
  n _ h.zh (fun z a=>(h.aj.ge z a).2),n _ h.zg (fun z a=>(h.ai.ge z a).2),n _ h.Av (fun z a=>(h.ap.ge z a).2),h.zb,h.At,h.Ar⟩⟩
 .rw[e 0 aD (fun b=>by have:=ge 0 b;omega) aS];exact h.o0
 .rw[e 1 aD (fun b=>by have:=ge 1 b;omega) aS];exact h.o1
 .rw[e 2 aD (fun b=>by have:=ge 2 b;omega) aS];exact h.o2
 .have ⟨C,i,r,D,E,F⟩:=h.ox q O;refine ⟨C,by rw[e q (aU i) r aD];exact i,fun b=>?_,D,E,F⟩;rcases p q b with c | c
  .exact r c
  .have:=aU i;omega
def PrR.Rf (h:PrR H d vl vj vi L J Z x vp ps) (hL:ae J < 1000000) (y:Jp) :
  ∃v G,(∀K,c6 6 vj [fQ y] H K=K v G)/\(bh v=aq/\v.cells=[v]/\eC v=aq)/\aH G 3 0=ak ⟨4,0,[[.q0 d,vl,vj,vi]]⟩/\PrR (G.set 3 (ak ⟨4,0,[[.q0 d,vl,v,vi]]⟩)) d vl v vi L (J++[y]) Z x vp ps:=by
 have T:=h.len;have ⟨v,G,W,A,j,V,s,B,C,D⟩:=h.aj.app T cE (fQ y);have ge:=fun z c=>(h.aj.ge z c).1;have e:∀z,z < ae H->z∉aF vj->z≠3->∀w,aH (G.set 3 (ak ⟨4,0,[[.q0 d,vl,v,vi]]⟩)) z w=aH H z w:=fun z g N O w=>by rw[aW (Xg O),j.2 z g N]
 have X:aH G 3 0=ak ⟨4,0,[[.q0 d,vl,vj,vi]]⟩:=by rw[j.2 3 aD (fun f=>by have:=ge 3 f;omega)];exact h.o3
 have o:∀{k u} {r:List (List AV)},Acc 4 H k u r->(∀z,z∈aF vj->z∉aF u)->Acc 4 (G.set 3 (ak ⟨4,0,[[.q0 d,vl,v,vi]]⟩)) k u r:=fun {k u r} i m =>
  (i.aQ j (fun z c f=>m z f c)).nW aS;have p:∀u,(∀z,z∈aF vj->z∉aF u)->(∀z,z∈aF u->z < ae H)->∀z,z∈aF v->z∉aF u:=fun u m n z c i=>by
  rcases s z c with g | g
  .exact m z g i
  .have:=n z i;omega
 refine ⟨v,G,W,⟨B,C,D⟩,X,⟨?_,?_,?_,bz (aU X),fun q U=>?_,o h.al (fun z a b=>h.zh z b a),Xu ▸ A.nW aS,o h.ai h.zb,o h.ap h.At,(fun z R S=>p _ (fun z a b=>h.zh z b a) (fun z c=>(h.al.ge z c).2) z S R),h.zg,h.Av,p _ h.zb (fun z c=>(h.ai.ge z c).2),p _ h.At (fun z c=>(h.ap.ge z c).2),h.Ar⟩⟩
 .rw[e 0 aD (fun f=>by have:=ge 0 f;omega) aS];exact h.o0
 .rw[e 1 aD (fun f=>by have:=ge 1 f;omega) aS];exact h.o1
 .rw[e 2 aD (fun f=>by have:=ge 2 f;omega) aS];exact h.o2
 .have ⟨E,l,F,t,I,M⟩:=h.ox q U;refine ⟨E,by rw[e q (aU l) t aD];exact l,F,fun f=>?_,I,M⟩;rcases s q f with g | g
  .exact t g
  .have:=aU l;omega
def PrR.Rh (h:PrR H d vl vj vi L J Z x vp ps) (hL:ae Z < 1000000) (y:Zn) :
  ∃v G,(∀K,c6 3 vi [jx y] H K=K v G)/\(bh v=aq/\v.cells=[v]/\eC v=aq)/\aH G 3 0=ak ⟨4,0,[[.q0 d,vl,vj,vi]]⟩/\PrR (G.set 3 (ak ⟨4,0,[[.q0 d,vl,vj,v]]⟩)) d vl vj v L J (Z++[y]) x vp ps:=by
 have T:=h.len;have ⟨v,G,B,C,j,V,X,D,E,F⟩:=h.ai.app T cE (jx y);have ge:=fun z c=>(h.ai.ge z c).1;have e:∀z,z < ae H->z∉aF vi->z≠3->∀w,aH (G.set 3 (ak ⟨4,0,[[.q0 d,vl,vj,v]]⟩)) z w=aH H z w:=fun z g R S w=>by rw[aW (Xg S),j.2 z g R]
 have A:aH G 3 0=ak ⟨4,0,[[.q0 d,vl,vj,vi]]⟩:=by rw[j.2 3 aD (fun f=>by have:=ge 3 f;omega)];exact h.o3
 have r:∀{k u} {t:List (List AV)},Acc 4 H k u t->(∀z,z∈aF vi->z∉aF u)->Acc 4 (G.set 3 (ak ⟨4,0,[[.q0 d,vl,vj,v]]⟩)) k u t:=fun {k u t} i o =>
  (i.aQ j (fun z c f=>o z f c)).nW aS;have s:∀u,(∀z,z∈aF vi->z∉aF u)->(∀z,z∈aF u->z < ae H)->∀z,z∈aF v->z∉aF u:=fun u o p z c i=>by
  rcases X z c with g | g
  .exact o z g i
  .have:=p z i;omega
 refine ⟨v,G,B,⟨D,E,F⟩,A,⟨?_,?_,?_,bz (aU A),fun q U=>?_,r h.al (fun z a b=>h.zg z b a),r h.aj (fun z a b=>h.zb z b a),Xu ▸ C.nW aS,r h.ap h.Ar,h.zh,(fun z m n=>s _ (fun z a b=>h.zg z b a) (fun z c=>(h.al.ge z c).2) z n m),h.Av,(fun z m n=>s _ (fun z a b=>h.zb z b a) (fun z c=>(h.aj.ge z c).2) z n m),h.At,s _ h.Ar (fun z c=>(h.ap.ge z c).2)⟩⟩
 .rw[e 0 aD (fun f=>by have:=ge 0 f;omega) aS];exact h.o0
 .rw[e 1 aD (fun f=>by have:=ge 1 f;omega) aS];exact h.o1
 .rw[e 2 aD (fun f=>by have:=ge 2 f;omega) aS];exact h.o2
 .have ⟨I,l,M,N,W,O⟩:=h.ox q U;refine ⟨I,by rw[e q (aU l) W aD];exact l,M,N,fun f=>?_,O⟩;rcases X q f with g | g
  .exact W g
  .have:=aU l;omega
def PrR.Rg (h:PrR H d vl vj vi L J Z (ak q) vp ps) (hL:ae ps < 1000000) (y:Int × Int) :
  ∃v G,(∀K,c6 2 vp [eu y] H K=K v G)/\(bh v=aq/\v.cells=[v]/\eC v=aq)/\aH G q 0=ak ⟨1,0,[[vp]]⟩/\PrR (G.set q (ak ⟨1,0,[[v]]⟩)) d vl vj vi L J Z (ak q) v (ps++[y]):=by
 have U:=h.len;have ⟨O,i,t,X,W,A⟩:=h.ox q rfl;have ⟨v,G,E,F,g,a4,s,I,M,N⟩:=h.ap.app U cE (eu y);have ge:=fun z a=>(h.ap.ge z a).1;have e:∀z,z < ae H->z∉aF vp->z≠q->∀w,aH (G.set q (ak ⟨1,0,[[v]]⟩)) z w=aH H z w:=fun z c R S w=>by rw[aW (Xg S),g.2 z c R]
 have B:aH G q 0=ak ⟨1,0,[[vp]]⟩:=by rw[g.2 q (aU i) A];exact i
 have C:∀{k u} {f:List (List AV)},Acc 4 G k u f->q∉aF u->Acc 4 (G.set q (ak ⟨1,0,[[v]]⟩)) k u f:=fun {k u f} o n =>
  o.aQ (ids:=[q]) (aT.write aK (fun j T w=>aW (Xg T))) (fun z a b=>by simp at b;subst b;exact n a);have p:∀{k u} {f:List (List AV)},Acc 4 H k u f->(∀z,z∈aF u->z∉aF vp)->q∉aF u->Acc 4 (G.set q (ak ⟨1,0,[[v]]⟩)) k u f:=fun {k u f} o l n =>
  C (o.aQ g (fun z a b=>l z a b)) n;have r:∀u,(∀z,z∈aF u->z∉aF vp)->(∀z,z∈aF u->z < ae H)->∀z,z∈aF u->z∉aF v:=fun u l m z a hv=>by
  rcases s z hv with c | c
  .exact l z a c
  .have:=m z a;omega
 have D:q∉aF v:=fun b=>by
  rcases s q b with c | c
  .exact A c
  .have:=aU i;omega
 refine ⟨v,G,E,⟨I,M,N⟩,B,⟨?_,?_,?_,?_,fun q' V=>?_,p h.al h.Av t,p h.aj h.At X,p h.ai h.Ar W,Xu ▸ C F D,h.zh,h.zg,
  r _ h.Av (fun z a=>(h.al.ge z a).2),h.zb,r _ h.At (fun z a=>(h.aj.ge z a).2),r _ h.Ar (fun z a=>(h.ai.ge z a).2)⟩⟩
 .rw[e 0 aD (fun b=>by have:=ge 0 b;omega) aD];exact h.o0
 .rw[e 1 aD (fun b=>by have:=ge 1 b;omega) aD];exact h.o1
 .rw[e 2 aD (fun b=>by have:=ge 2 b;omega) aD];exact h.o2
 .rw[e 3 aD (fun b=>by have:=ge 3 b;omega) aD];exact h.o3
 .cases V;exact ⟨O,bz (aU B),t,X,W,D⟩
end
def pN (h:iU l m):bg (.agg l) (.agg m):=by intro I β v k;obtain ⟨y,rfl,x⟩:=k.ot;exact Rel.tP (h.Lz x)
def xZ (h:iU l m):bg (.bI l) (.bI m):=by
 intro I β v z;cases z with
 | bI x y =>
  have k:=h.Lz ⟨x,y⟩;exact .bI k.1 k.2
def zz:∀l:List AV,iU l l
 | [] => .nil
 | _::l => .cons (bg.refl _) (zz l)
structure wC (n0:Nat) (H:aE) (va vb vc vd:AV) (ka kb kc kd:Nat) (A B C D:List (List AV)):Prop where
 a:Acc n0 H ka va A
 b:Acc n0 H kb vb B
 c:Acc n0 H kc vc C
 d:Acc n0 H kd vd D
 ab:∀id,id∈aF va->id∉aF vb
 ac:∀id,id∈aF va->id∉aF vc
 ad:∀id,id∈aF va->id∉aF vd
 bc:∀id,id∈aF vb->id∉aF vc
 bd:∀id,id∈aF vb->id∉aF vd
 cd:∀id,id∈aF vc->id∉aF vd
section
variable {n0:Nat} {H:aE} {va vb vc vd:AV} {ka kb kc kd:Nat} {A B C D:List (List AV)}
def wC.CL (h:wC n0 H va vb vc vd ka kb kc kd A B C D) (cA:A.all (fun x=>x.all b8)=aq) (cB:B.all (fun x=>x.all b8)=aq) (cC:C.all (fun x=>x.all b8)=aq) (cD:D.all (fun x=>x.all b8)=aq) :
  ∃H2 R,WkS n H H2 R/\(∀x:Value,R (.agg [.c x,va,vb,vc]) (.agg [.c x,.seq ka ar A,.seq kb ar B,.seq kc ar C])) /\
   (∀(x:Value) (ys:List Value),R (.bI (.agg [.c x,va,vb,vc]::vd::ys.map .c)) (.bI (.agg [.c x,.seq ka ar A,.seq kb ar B,.seq kc ar C] :: .seq kd ar D::ys.map .c))):=by
 have J:=h.b.B3 h.a h.ab;have c1:=h.c.B3 h.a h.ac;have d1:=h.d.B3 h.a h.ad;have T:=c1.B3 J h.bc;have d2:=d1.B3 J h.bd;have d3:=d2.B3 T h.cd;have ⟨tA,o,K,O⟩:=h.a.Ey;have ⟨tB,F,g,iB⟩:=h.b.Ey;have ⟨tC,nC,e,iC⟩:=h.c.Ey;have ⟨tD,nD,z,iD⟩:=h.d.Ey;have W:∀(v:AV) f (x:Value),bY v f (.c x) = .c x:=fun v f x=>gU (fun m _ k=>by simp[aF] at k);have U:∀x,jF va A (.agg [.c x,va,vb,vc]) = .agg [.c x,bY va A va,vb,vc]:=fun x=>by simp only[jF,XD,Yi,W,gU h.ab,gU h.ac]
 have V:∀x,jF vb B (.agg [.c x,bY va A va,vb,vc]) = .agg [.c x,bY va A va,bY vb B vb,vc]:=fun x=>by simp only[jF,XD,Yi,W,gU h.bc,gU (v:=vb) (u:=bY va A va) (fun m _ k=>by rw[O] at k;simp at k)]
 have e3:∀x,jF vc C (.agg [.c x,bY va A va,bY vb B vb,vc]) = .agg [.c x,bY va A va,bY vb B vb,bY vc C vc]:=fun x=>by simp only[jF,XD,Yi,W,gU (v:=vc) (u:=bY va A va) (fun m _ k=>by rw[O] at k;simp at k),gU (v:=vc) (u:=bY vb B vb) (fun m _ k=>by rw[iB] at k;simp at k)]
 have e4:∀x,jF vd D (.agg [.c x,bY va A va,bY vb B vb,bY vc C vc]) = .agg [.c x,bY va A va,bY vb B vb,bY vc C vc]:=fun x=>by simp only[jF,XD,Yi,W,gU (v:=vd) (u:=bY va A va) (fun m _ k=>by rw[O] at k;simp at k),gU (v:=vd) (u:=bY vb B vb) (fun m _ k=>by rw[iB] at k;simp at k),gU (v:=vd) (u:=bY vc C vc) (fun m _ k=>by rw[iC] at k;simp at k)]
 have t:∀(v u:AV) (f:List (List AV)),fK u=aq->jF v f u=bY v f u:=fun v u f E=>by cases u<;>first | rfl | simp[fK] at E
 have w:=((((h.a.CL (n:=n) cA).trans (J.CL (n:=n) cB)).trans (T.CL (n:=n) cC)).trans (d3.CL (n:=n) cD)).trans (lz n _);have ta:∀x,bg (.agg [.c x,bY va A va,bY vb B vb,bY vc C vc]) (.agg [.c x,.seq ka ar A,.seq kb ar B,.seq kc ar C]):=fun x =>
  pN (.cons (bg.refl _) (.cons tA (.cons tB (.cons tC .nil))));have f0:∀x:Value,fK (.c x)=aq:=fun _=>rfl;have n1:∀u,fK u=aq->oY u=aq:=fun u E=>by cases u<;>first | exact E | simp[fK] at E
 have na:∀(x:Value) (p q r:AV),fK p=aq->fK q=aq->fK r=aq->oY (.agg [.c x,p,q,r])=aq:=fun x p q r L M N=>by show [AV.c x,p,q,r].all fK=aq;simp only[Yu,Zv,f0,L,M,N,X4]
 have i:∀(x:Value) (p q r:AV),fK p=aq->fK q=aq->fK r=aq->yD (.agg [.c x,p,q,r])=aq:=na;have G:∀(x:Value) (ys:List Value) (p q r s:AV),fK p=aq->fK q=aq->fK r=aq->fK s=aq->yD (.bI (.agg [.c x,p,q,r]::s::ys.map .c))=aq:=fun x ys p q r s L M N hs=>by
  show (AV.agg [.c x,p,q,r]::s::ys.map .c).all oY=aq;have hy:(ys.map AV.c).all oY=aq:=by rw[Zw,W6];exact fun _ _=>rfl
  simp only[Yu,hy,na x p q r L M N,n1 s hs,X4]
 refine ⟨_,_,w,fun x=>?_,fun x ys=>?_⟩
 .have j:jo va A (.agg [.c x,va,vb,vc]) = .agg [.c x,bY va A va,vb,vc]:=U x;have l:jo vb B (.agg [.c x,bY va A va,vb,vc]) = .agg [.c x,bY va A va,bY vb B vb,vc]:=V x;have X:jo vc C (.agg [.c x,bY va A va,bY vb B vb,vc]) = .agg [.c x,bY va A va,bY vb B vb,bY vc C vc]:=e3 x;have S:jo vd D (.agg [.c x,bY va A va,bY vb B vb,bY vc C vc]) = .agg [.c x,bY va A va,bY vb B vb,bY vc C vc]:=e4 x;refine ⟨_,⟨_,⟨_,⟨_,⟨i _ _ _ _ K g e,rfl⟩,?_,rfl⟩,?_,rfl⟩,?_,rfl⟩,?_⟩
  .rw[j];exact i _ _ _ _ o g e
  .rw[j,l];exact i _ _ _ _ o F e
  .rw[j,l,X];exact i _ _ _ _ o F nC
  .rw[j,l,X,S];exact ta x
 .have I:∀(v:AV) f,(ys.map AV.c).map (jF v f)=ys.map AV.c:=fun v f=>by rw[aaJ];exact YE fun y _=>(t v (.c y) f rfl).trans (W v f y)
  have j:jo va A (.bI (.agg [.c x,va,vb,vc]::vd::ys.map .c)) = .bI (.agg [.c x,bY va A va,vb,vc]::vd::ys.map .c):=by simp only[jo,XD,U,t va vd A z,gU h.ad,I]
  have l:jo vb B (.bI (.agg [.c x,bY va A va,vb,vc]::vd::ys.map .c)) = .bI (.agg [.c x,bY va A va,bY vb B vb,vc]::vd::ys.map .c):=by simp only[jo,XD,V,t vb vd B z,gU h.bd,I]
  have X:jo vc C (.bI (.agg [.c x,bY va A va,bY vb B vb,vc]::vd::ys.map .c)) = .bI (.agg [.c x,bY va A va,bY vb B vb,bY vc C vc]::vd::ys.map .c):=by simp only[jo,XD,e3,t vc vd C z,gU h.cd,I]
  have S:jo vd D (.bI (.agg [.c x,bY va A va,bY vb B vb,bY vc C vc]::vd::ys.map .c)) = .bI (.agg [.c x,bY va A va,bY vb B vb,bY vc C vc]::bY vd D vd::ys.map .c):=by simp only[jo,XD,e4,t vd vd D z,I]
  refine ⟨_,⟨_,⟨_,⟨_,⟨G _ _ _ _ _ _ K g e z,rfl⟩,?_,rfl⟩,?_,rfl⟩,?_,rfl⟩,?_⟩
  .rw[j];exact G _ _ _ _ _ _ o g e z
  .rw[j,l];exact G _ _ _ _ _ _ o F e z
  .rw[j,l,X];exact G _ _ _ _ _ _ o F nC z
  .rw[j,l,X,S];exact xZ (.cons (ta x) (.cons tD (zz _)))
def wC.fin (h:wC n0 H va vb vc vd ka kb kc kd A B C D) (k:A.all (fun x=>x.all b8)=aq) (y:B.all (fun x=>x.all b8)=aq) (cC:C.all (fun x=>x.all b8)=aq) (z:D.all (fun x=>x.all b8)=aq) (x:Value) (ys:List Value) :
  Fin 0 (.bI (.agg [.c x,va,vb,vc]::vd::ys.map .c)) H (.bI (.agg [.c x,.seq ka ar A,.seq kb ar B,.seq kc ar C] :: .seq kd ar D::ys.map .c)) []:=by
 have ⟨e,R,a,_,w⟩:=h.CL (n:=0) k y cC z;exact Fin.trans ⟨R,a,w x ys⟩ (iZ (by
  have b:(ys.map AV.c).all (rr 0)=aq:=by rw[Zw,W6];exact fun _ _=>rfl
  simp only[jR,Yu,b,X4];rfl))
def wC.borrow (h:wC n0 H va vb vc vd ka kb kc kd A B C D) (z:A.all (fun x=>x.all b8)=aq) (w:B.all (fun x=>x.all b8)=aq) (cC:C.all (fun x=>x.all b8)=aq) (b:D.all (fun x=>x.all b8)=aq)
  (g:a9 P f [.agg [.c x,.seq ka ar A,.seq kb ar B,.seq kc ar C]] (.c v)):bK P f [.agg [.c x,va,vb,vc]] H (.c v) H:=by
 have ⟨l,R,i,e,_⟩:=h.CL (n:=ae H) z w cC b;refine a9.borrow g rfl i rfl fun j a m k y=>?_
 match j with
 | 0=>simp at k y;subst k y;exact e x
 | j+1=>simp at k
end
def RXL (e:Env) (H:aE) (Post:AV->aE->Prop):List AV->List gC->Prop
 | vs,[]=>Post (rK vs) H
 | vs,.t n::r=>RXL e H Post (vs++[lk n e]) r
 | vs,.cell n ag k::r=>LdP ag k (lk n e) H fun v=>RXL e H Post (vs++[v]) r
def RXK (e:Env) (H:aE) (Post:AV->aE->Prop) (vs:List AV) (r:List gC):AV->Prop:=fun v=>RXL e H Post (vs++[v]) r
def WW {e:Env} {H:aE} {Post:AV->aE->Prop} {vs:List AV} {r:List gC} {v:AV}:RXK e H Post vs r v=RXL e H Post (vs++[v]) r:=(rfl)
def V8 {e:Env} {H:aE} {Post:AV->aE->Prop} {vs:List AV}:RXL e H Post vs []=Post (rK vs) H:=(rfl)
def V9 {e:Env} {H:aE} {Post:AV->aE->Prop} {vs:List AV} {r:List gC} {n:Nat}:RXL e H Post vs (.t n::r)=RXL e H Post (vs++[lk n e]) r:=(rfl)
def V7 {e:Env} {H:aE} {Post:AV->aE->Prop} {vs:List AV} {r:List gC} {n k:Nat} {ag:Bool}:RXL e H Post vs (.cell n ag k::r)=LdP ag k (lk n e) H (RXK e H Post vs r):=(rfl)
def UU:rK (x::y::l) = .bI (x::y::l):=(rfl)
attribute [go_sem] WW V8 V9 V7 UU
def vv {e:Env} {H:aE} {Post:AV->aE->Prop}:∀(h:List gC) (vs:List AV),bD (mj e H h) (fun x=>Post (rK (vs++x)) H)=RXL e H Post vs h
 | [],vs=>by simp[mj,bD,RXL]
 | .t n::r,vs=>by rw[RXL,<-vv r];simp only[mj,Ad,Xr,rE];simp
 | .cell n ag k::r,vs=>by rw[RXL];simp only[mj,CR,Je,gO];congr 1;funext v;rw[<-vv r,rE];simp
def xQ {e:Env} {H:aE} {Post:AV->aE->Prop} {h:List gC}:wD e H h Post=RXL e H Post [] h:=by rw[<-vv];rfl
def Bq {e:Env} {H:aE} {k:List gC} {n:Nat} {r:AV} {h:aE}:uy e H k n r h=RXL e H (fun v G=>Fin n v G r h) [] k:=by rw[<-vv];rfl
def dz {H:aE} {a b v:Nat} {o:Option bC} {K:bC->Prop} (h:a≠b):bq (H.set a o) b v K=bq H b v K:=by unfold bq;rw[aW h]
def zw {H:aE} {a k v:Nat} {xs:List (List AV)} {K:bC->Prop} (h:a < ae H):bq (H.set a (ak ⟨k,v,xs⟩)) a v K=K ⟨k,v,xs⟩:=aP (bz h) K
def PrR.four {H:aE} {d:Int} {vl vj vi vp:AV} {L:List Lc} {J:List Jp} {Z:List Zn} {x:Option Nat} {ps:List (Int × Int)} (h:PrR H d vl vj vi L J Z x vp ps) :
  wC 4 H vl vj vi vp 4 6 3 2 (L.map kP) (J.map fQ) (Z.map jx) (ps.map eu):=⟨h.al,h.aj,h.ai,h.ap,h.zh,h.zg,h.Av,h.zb,h.At,h.Ar⟩
def jd (A:Au) (ps:List (Int × Int)):AV := .bI [.agg (e9 A),.seq 2 ar (ps.map eu),.c (.int .i64 0)]
def tK:AV := .bI [.agg (e9 ⟨0,[],[],[]⟩),.seq 2 ar [],.c (.int .i64 3)]
def yo {H:aE}:Fin 0 (.bI [.agg [.q0 0,.nil,.nil,.nil],.nil,.q0 3]) H tK [] :=
 (mO (m:=0) (WY _) aK rfl).trans (sC (xZ (.cons (pN (.cons (bg.refl _) (.cons (dX 4) (.cons (dX 6) (.cons (dX 3) .nil))))) (.cons (dX 2) (.cons (bg.refl _) .nil)))))
section
variable {C:Ctx (Option Nat)} {H:aE} {d:Int} {vl vj vi vp:AV} {L:List Lc} {J:List Jp} {Z:List Zn} {ps:List (Int × Int)}
abbrev G7 (R:AV):Option Nat->bN:=fun _=>ky [.cell 2 aq 4,.cell 3 ar 1,.cell 4 ar 1] fun r G=>Fin 0 r G R []
def Ia (h:PrR H d vl vj vi L J Z (ak q) vp ps) (hv:a9 prog 27 [.agg (e9 ⟨d,L,J,Z⟩)] (.v0 bv)) (o:Env) :
  WPJ prog C 148 Y0 (RM prog 148) kM (G7 (if bv then jd ⟨d,L,J,Z⟩ ps else tK)) s ((2,.ptr 0 0 0 0)::(3,.ptr 1 0 0 0)::(4,.ptr 2 0 0 0)::(5,.ptr 3 0 0 0)::(10,.ptr q 0 0 0)::o) H:=by
 refine CZ ?_;have j:=aP h.o3;have wl:=h.al.cell;have r:=h.aj.cell;have wi:=h.ai.cell;have wp:=h.ap.cell;refine Y1 j ?_;refine dK (h.four.borrow (Gp _) (Gl _) (GY _) (Ab _) hv) ?_;have o0:=aP h.o0;have o1:=aP h.o1;have o2:=aP h.o2;have n:=fun K=>aP (h.ox q rfl).2.1 K;have l0:=aU h.o0;have l1:=aU h.o1;have l:=aU h.o2;have y:(0:Nat)≠1:=aS;have z:(0:Nat)≠2:=aS;have w:(1:Nat)≠0:=aS;have e:(1:Nat)≠2:=aS;have f:(2:Nat)≠0:=aS;have g:(2:Nat)≠1:=aS;cases bv with
 | true =>
  simp only[go_sem,↓reduceIte,WY,Yy,L9,j,n,wl,r,wi,wp,o0,o1,o2,dz y,dz z,dz w,dz e,dz f,dz g,zw,Xa,l0,l1,l,xQ];have x:∀G:aE,ae G=ae H->(G.drop (ae H)).all (eI (ae H))=aq:=fun G t=>by rw[Xo aD];rfl
  have i:∀{k u} {m:List (List AV)} (a b c:Option bC),Acc 4 H k u m->Acc 4 (((H.set 0 a).set 1 b).set 2 c) k u m:=fun a b c p=>((p.nW aS).nW aS).nW aS
  first | refine ⟨x _ aK,x _ aK,x _ aK,dp ((h.ox q rfl).1),?_⟩ | refine ⟨x _ aK,x _ aK,dp ((h.ox q rfl).1),?_⟩
  exact wC.fin (n0:=4) ⟨i _ _ _ h.al,i _ _ _ h.aj,i _ _ _ h.ai,i _ _ _ h.ap,h.zh,h.zg,h.Av,h.zb,h.At,h.Ar⟩ (Gp _) (Gl _) (GY _) (Ab _) _ [_]
 | false =>
  simp only[go_sem,↓reduceIte,WY,X9,W3,o0,o1,o2,dz y,dz z,dz w,dz e,dz f,dz g,zw,Xa,l0,l1,l,xQ];exact yo
structure qT (a:Au) (m:Nat):Prop where
 bt:a.bt=m
 lt:m<=100
 aL:a.aL.length<=100
 BZ:∀x,x∈a.aL->kT x.inv.l/\kT x.eb.l
 aM:a.aM.length<=100
 Mn:JIn a
 init:a.init.length<=100
 BV:∀x,x∈a.init->kT x.set.l/\0<=x.loc/\x.loc < 1000000
def xL (b:Au) (m k:Nat) (x y:Zn):Zn:=⟨x.loc*(ae b.aL:Int)+y.loc,dO m k x.set.l y.set.l⟩
def mb (a b:Au) (m k i:Nat):List Zn:=(a.init.take i).flatMap fun x=>b.init.map (xL b m k x)
def Ki (a b:Au) (m k:Nat):mb a b m k (ae a.init)=fA a b m k:=by unfold mb fA;rw[XP];rfl
def qF {α:Type} [Inhabited α] {l:List α} {i:Nat} (h:i < ae l):l.take (i+1)=l.take i++[af l i ah]:=by rw[XW h];simp[af,h]
def BE (h:i < ae a.init):mb a b m k (i+1)=mb a b m k i++b.init.map (xL b m k (af a.init i ah)):=by unfold mb;rw[qF h,aaE];simp
def C9 (a b:Au) (m k:Nat):∀i,ae (mb a b m k i)<=i*ae b.init
 | 0=>by simp[mb]
 | i+1=>by
  have:=C9 a b m k i;by_cases h:i < ae a.init
  .rw[BE h,Xn,W4,XF];omega
  .have e:mb a b m k (i+1)=mb a b m k i:=by unfold mb;rw[Xq aD,Xq aD]
   rw[e,XF];omega
def ly {k id v i o:Nat} {H:aE} {cs:List AV} (h:id < ae H):bg (dT (ae H) 0 k [cs] (.ptr id v i o)) (.ptr id v i o):=by
 have:dT (ae H) 0 k [cs] (.ptr id v i o) = .ptr id v i o:=by simp[dT,oF,fX];omega
 rw[this];exact bg.refl _
def rH (z:4<=ae H) (y:∀id ver k xs,dT id ver k xs p=p) (x:qV (fun a b=>bg (dT (ae H) 0 k [cs] a) b) e h) :
  qV (fun a b=>bg (dT (ae H) 0 k [cs] a) b) ((1,p)::(2,.ptr 0 0 0 0)::(3,.ptr 1 0 0 0)::(4,.ptr 2 0 0 0)::(5,.ptr 3 0 0 0)::e) ((1,p)::(2,.ptr 0 0 0 0)::(3,.ptr 1 0 0 0)::(4,.ptr 2 0 0 0)::(5,.ptr 3 0 0 0)::h) :=
 .cons (by rw[y];exact bg.refl _) (.cons (ly aD) (.cons (ly aD) (.cons (ly aD) (.cons (ly aD) x))))
def H9 (hR:ROk prog C 148 (RM prog 148)) {a b:Au} {m k:Nat} {l:List Int} {fl:Bool} (f:qT a m) (z:qT b k) {s:Option Nat} {q:Nat} {vi:AV} (h:PrR H d vl vj vi L J [] (ak q) vp ps) {bv:Bool} (hv:a9 prog 27 [.agg (e9 ⟨d,L,J,fA a b m k⟩)] (.v0 bv)) (er:Env) :
  WPJ prog C 148 Y0 (RM prog 148) kL (G7 (if bv then jd ⟨d,L,J,fA a b m k⟩ ps else tK)) s ((1,.fp (eU a b l fl) 0)::(2,.ptr 0 0 0 0)::(3,.ptr 1 0 0 0)::(4,.ptr 2 0 0 0)::(5,.ptr 3 0 0 0)::(10,.ptr q 0 0 0)::er) H:=by
 refine CZ ?_;generalize X:(if bv then jd ⟨d,L,J,fA a b m k⟩ ps else tK)=RR;refine Y ?_;refine iE BD hR (fun n R e H=>R=s/\∃(i:Nat) (vi:AV),i<=ae a.init/\n=ae a.init - i/\PrR H d vl vj vi L J (mb a b m k i) (ak q) vp ps /\
  e=[(1,.fp (eU a b l fl) 0),(2,.ptr 0 0 0 0),(3,.ptr 1 0 0 0),(4,.ptr 2 0 0 0),(5,.ptr 3 0 0 0),(10,.ptr q 0 0 0),(106,.seq 3 ar (a.init.map jx)),(107,.q0 (ae a.init:Int)),(108,.q0 (i:Int))]) (n:=ae a.init) ⟨rfl,0,vi,aD,rfl,h,rfl⟩ ?_;clear h vi;rintro n R _ H ⟨rfl,i,vi,hi,a0,h,rfl⟩;by_cases p:(i:Int) < (ae a.init:Int)
 .have e1:au .i64 ((i:Int)+1)=((i+1:Nat):Int):=by have:=f.init;rw[wrap_i64 (by omega) (by omega)];rfl
  have F:af a.init i ah∈a.init:=bS aD;have O:=BE (b:=b) (m:=m) (k:=k) (show i < ae a.init by omega);have ⟨D,E⟩:=f.BV _ F;generalize hx:af a.init i ah=x at *;refine Y2 p hx ?_;refine ⟨aD,[(1,.fp (eU a b l fl) 0),(2,.ptr 0 0 0 0),(3,.ptr 1 0 0 0),(4,.ptr 2 0 0 0),(5,.ptr 3 0 0 0),(10,.ptr q 0 0 0),(13,.fp (jx x) 0),(106,.seq 3 ar (a.init.map jx)),(107,.q0 (ae a.init:Int)),(108,.q0 (i:Int))],H++[an],?_,?_⟩
  .exact j6 (cs:=jx x) rfl (rH h.len (fun _ _ _ _=>rfl) (.cons (ly (aU (h.ox q rfl).2.1)) (.cons jh (.cons (bg.refl _) (.cons (bg.refl _) (.cons (bg.refl _) .nil))))))
  refine Y ?_;have w:=h.aQ (aT.app H [an] []);refine iE BD hR (fun n r e H=>r=R/\∃(j:Nat) (vi:AV),j<=ae b.init/\n=ae b.init - j/\PrR H d vl vj vi L J (mb a b m k i++(b.init.take j).map (xL b m k x)) (ak q) vp ps /\
   e=[(1,.fp (eU a b l fl) 0),(2,.ptr 0 0 0 0),(3,.ptr 1 0 0 0),(4,.ptr 2 0 0 0),(5,.ptr 3 0 0 0),(10,.ptr q 0 0 0),(13,.fp (jx x) 0),(106,.seq 3 ar (a.init.map jx)),(107,.q0 (ae a.init:Int)),(108,.q0 (i:Int)),
    (114,.seq 3 ar (b.init.map jx)),(115,.q0 (ae b.init:Int)),(116,.q0 (j:Int))]) (n:=ae b.init) ⟨rfl,0,vi,aD,rfl,bk w,rfl⟩ ?_;clear h w vi;rintro n2 r _ H ⟨rfl,j,vi,hj,a2,h,rfl⟩;by_cases g:(j:Int) < (ae b.init:Int)
  .have e2:au .i64 ((j:Int)+1)=((j+1:Nat):Int):=by have:=z.init;rw[wrap_i64 (by omega) (by omega)];rfl
   have N:af b.init j ah∈b.init:=bS aD;have B:b.init.take (j+1)=b.init.take j++[af b.init j ah]:=qF aD;have ⟨I,M⟩:=z.BV _ N;generalize hy:af b.init j ah=y at *;have w:=h.aQ (aT.app H [an] []);have o:ae (mb a b m k i++(b.init.take j).map (xL b m k x)) < 1000000:=by have q1:=C9 a b m k i;have q3:=z.init;have q2:i*ae b.init<=100*100:=ZD (dp f.init) z.init;simp;omega
   have ⟨S,G,T,V,g3,h2⟩:=w.Rh o (xL b m k x y);have U:∀K,bq (H++[an]) 3 0 K=K ⟨4,0,[[.q0 d,vl,vj,vi]]⟩:=aP w.o3;have v:∀K,bq G 3 0 K=K ⟨4,0,[[.q0 d,vl,vj,vi]]⟩:=aP g3;have wi:=h.ai.cell;have t:∀K,c6 3 vi [[.q0 (x.loc*(ae b.aL:Int)+y.loc),.c (.int .i64 (dO m k x.set.l y.set.l).n),.seq 3 ar ((dO m k x.set.l y.set.l).l.map cC)]] (H++[an]) K=K S G:=T;refine Y2 g hy ?_;refine ⟨aD,[(1,.fp (eU a b l fl) 0),(2,.ptr 0 0 0 0),(3,.ptr 1 0 0 0),(4,.ptr 2 0 0 0),(5,.ptr 3 0 0 0),(10,.ptr q 0 0 0),(13,.fp (jx x) 0),(15,.fp (jx y) 0),(106,.seq 3 ar (a.init.map jx)),(107,.q0 (ae a.init:Int)),(108,.q0 (i:Int)),
    (114,.seq 3 ar (b.init.map jx)),(115,.q0 (ae b.init:Int)),(116,.q0 (j:Int))],H++[an],?_,?_⟩
   .exact j6 (cs:=jx y) rfl (rH h.len (fun _ _ _ _=>rfl) (.cons (ly (aU (h.ox q rfl).2.1)) (.cons (bg.refl _) (.cons jh (.cons (bg.refl _) (.cons (bg.refl _) (.cons (bg.refl _) (.cons (bg.refl _) (.cons (bg.refl _) (.cons (bg.refl _) .nil))))))))))
   refine Y1 U ?_;refine cY (Ah a b l fl x.loc y.loc E M (by have:=z.aL;omega)) ?_;refine cX (mV a b l fl m k f.bt z.bt (by have:=f.lt;omega) (by have:=z.lt;omega) _ _ ar ar D I) ?_;refine Y4 t V v e2 ?_;refine ⟨rfl,ae b.init - (j+1),aD,j+1,S,aD,rfl,?_,rfl⟩;rw[B,Xu,<-XC];exact h2
  .have A:j=ae b.init:=aD;subst A;refine Y2 g e1 ?_;rw[XP] at h;refine ⟨ae a.init - (i+1),aD,i+1,vi,aD,rfl,by rw[O];exact h,rfl⟩
 .have W:i=ae a.init:=aD;subst W;refine Y1 p ?_;rw[Ki] at h;rw[<-X];exact Ia h hv _
end
def cF.Sv {f:FuncId} {args:List AV} {H c:aE} {g:AV} {Post:AV->aE->Prop} (h:cF P f args H Post) (o:∀r G,Post r G->Fin (ae H) r G g c):bK P f args H g c:=by refine ⟨h.1,fun I β w X s y=>(h.2 I β w X s y).mono fun F W p=>?_⟩;have ⟨rv,r,i,j,D,e,A,v,q,x⟩:=p;obtain ⟨R,z,hR⟩:=o r i x;obtain ⟨n,E,K,t,B⟩:=z j D W v;exact ⟨rv,n,E,e,B I β H w (WY _) s.gw A,K,t _ _ _ hR q⟩
def Acc.jn {n0 k:Nat} {H:aE} {v:AV} {xs:List (List AV)} (h:Acc n0 H k v xs) (K:AV->Prop):fM v K=K (.q0 (ae xs:Int)):=by cases h<;>simp[fM,BX,bD]
section
variable {C:Ctx (Option Nat)} {H:aE} {d:Int} {vl vj vi vp:AV} {L:List Lc} {J:List Jp} {Z:List Zn} {ps:List (Int × Int)} {a b:Au} {m k:Nat} {l:List Int} {fl:Bool}
def Kn (a b:Au) (m k:Nat) (d:Int) (vl:AV) (L:List Lc) (q:Nat) (pre:List Lp) (H:aE):Prop:=∃vj vp,PrR H d vl vj .nil L (pre.map (dW a b m k)) [] (ak q) vp (pre.map iK)/\ae pre<=40
def Mj (W:List Lp) (H:aE):Prop:=aH H 0 0=ak ⟨4,0,[[.c (.int .i64 0),.nil,.nil,.nil]]⟩/\aH H 1 0=ak ⟨1,0,[[.nil]]⟩/\aH H 2 0=ak ⟨1,0,[[.c (.int .i64 3)]]⟩/\40 < ae W
def Nk (w:qT a m) (c:qT b k) (h:x∈bQ a b l):(-1<=x.i/\x.i < ae a.aM)/\(-1<=x.k/\x.k < ae b.aM):=by
 unfold bQ at h;simp only[Yc,Zz,X5] at h;rcases h with (⟨i,z,h⟩ | ⟨i,z,h⟩) | ⟨i,z,h⟩
 .unfold rL jT at h;split at h
  .simp at h
  .obtain ⟨j,y,rfl⟩:=Xf.1 h;simp only[yx];omega
 .unfold pY jU at h;split at h
  .simp at h
  .obtain ⟨j,y,rfl⟩:=Xf.1 h;simp only[yy];omega
 .unfold nT jV at h;obtain ⟨j,y,rfl⟩:=Xf.1 h;have:=(XR.1 y).1;simp only[X5] at this;simp only[yz];omega
def HZ (hR:ROk prog C 148 (RM prog 148)) (r:qT a m) (t:qT b k) (hl:ae l < 1000000) (h:PrR H d vl .nil .nil L [] [] an .nil [])
  (hv:ae (bQ a b l)<=40->a9 prog 27 [.agg (e9 ⟨d,L,(bQ a b l).map (dW a b m k),fA a b m k⟩)] (.v0 bv)) (er:Env) :
  WPJ prog C 148 Y0 (RM prog 148) kK (G7 (if ae (bQ a b l)<=40/\bv=aq then jd ⟨d,L,(bQ a b l).map (dW a b m k),fA a b m k⟩ ((bQ a b l).map iK) else tK)) an
   ((1,.fp (eU a b l fl) 0)::(2,.ptr 0 0 0 0)::(3,.ptr 1 0 0 0)::(4,.ptr 2 0 0 0)::(5,.ptr 3 0 0 0)::er) H:=by
 refine CZ ?_;generalize E:(if ae (bQ a b l)<=40/\bv=aq then jd ⟨d,L,(bQ a b l).map (dW a b m k),fA a b m k⟩ ((bQ a b l).map iK) else tK)=RR;refine Y ?_;refine cY (NV a b l fl) ?_;have hq:4<=ae H:=h.len;have S:Kn a b m k d vl L (ae H) [] (H++[ak ⟨1,0,[[.seq 2 aq []]]⟩]):=by have j:=h.aQ (aT.app H [ak ⟨1,0,[[.seq 2 aq []]]⟩] []);refine ⟨.nil,.seq 2 aq [],⟨j.o0,j.o1,j.o2,j.o3,fun q hq=>?_,j.al,j.aj,j.ai,.sq,j.zh,j.zg,fun id _ o=>by simp[aF] at o,j.zb,fun id _ o=>by simp[aF] at o,fun id _ o=>by simp[aF] at o⟩,aK⟩;cases hq;exact ⟨hq,bZ,fun o=>dp ((h.al.ge _ o).2),by simp[aF],by simp[aF],by simp[aF]⟩
 generalize b3:ae H=q at *;generalize H++[ak ⟨1,0,[[.seq 2 aq []]]⟩]=G at *;refine ⟨rfl,Kn a b m k d vl L q (bQ a b l),Mj (bQ a b l),?_,?_,?_⟩
 .refine ⟨75,[.fp (eU a b l fl) 0],143,gI,rfl,(sH (c:=gI) (by kernel_rfl) func75).1,aK,aK,aS,(sH (c:=gI) (by kernel_rfl) func75).2,fun n=>YL n (bQ a b l) (Kn a b m k d vl L q) (Mj (bQ a b l)),?_,?_⟩
  .rintro n s l' args w K ⟨rfl,rfl,pre,x,rfl,p,⟨vj,vp,g,y⟩,U,V⟩;refine ⟨rfl,rfl,_,rfl,?_⟩;have a2:x∈bQ a b l:=p.subset aK;have ⟨a3,a4⟩:=Nk r t a2;have z:=g.aQ (aT.app w [ak ⟨4,0,[tO x]⟩] []);have ⟨q1,q2,q3,q4,q5,q6⟩:=z.ox q rfl;have cq:∀K,bq (w++[ak ⟨4,0,[tO x]⟩]) q 0 K=K ⟨1,0,[[vp]]⟩:=aP q2;have wp:=g.ap.cell;have lp:∀K,fM vp K=K (.q0 (ae pre:Int)):=fun K=>by rw[g.ap.jn K,W4,W4]
   by_cases W:(ae pre:Int)=40
   .have f:((ae pre:Int)=40)=True:=XO W;have l0:0 < ae (w++[ak (⟨4,0,[tO x]⟩:bC)]):=aU z.o0;have l1:1 < ae (w++[ak (⟨4,0,[tO x]⟩:bC)]):=aU z.o1;have l2:2 < ae (w++[ak (⟨4,0,[tO x]⟩:bC)]):=aU z.o2;have o0:∀K,bq (w++[ak ⟨4,0,[tO x]⟩]) 0 0 K=K ⟨4,0,[[.q0 0,.nil,.nil,.nil]]⟩:=aP z.o0;have o1:∀K,bq (w++[ak ⟨4,0,[tO x]⟩]) 1 0 K=K ⟨1,0,[[.nil]]⟩:=aP z.o1;have o2:∀K,bq (w++[ak ⟨4,0,[tO x]⟩]) 2 0 K=K ⟨1,0,[[.q0 0]]⟩:=aP z.o2;have a8:(0:Nat)≠1:=aS;have b0:(0:Nat)≠2:=aS;have b2:(1:Nat)≠2:=aS;generalize hG:w++[ak (⟨4,0,[tO x]⟩:bC)]=X at *;simp only[go_sem,↓reduceIte,WY,hG,cq,lp,f,Zr,o0,o1,o2,dz a8,dz b0,dz b2];have a0:=p.length_le;rw[Xn,aa2] at a0;refine .inr ⟨rfl,V _ ⟨?_,?_,?_,aD⟩⟩
    .rw[aW aS,aW aS];exact bz l0
    .rw[aW aS];exact bz (bk l1)
    .exact bz (bk l2)
   .have f:((ae pre:Int)=40)=False:=Xh W;refine Z3 cq lp f ?_;refine ⟨[(1,.fp (eU a b l fl) 0),(2,.ptr 0 0 0 0),(3,.ptr 1 0 0 0),(4,.ptr 2 0 0 0),(5,.ptr 3 0 0 0),(10,.ptr q 0 0 0),(11,.fp (tO x) 0),(86,.v0 ar)],w++[an],?_,?_⟩
    .exact j6 (cs:=tO x) rfl (rH g.len (fun _ _ _ _=>rfl) (.cons (ly (aU (g.ox q rfl).2.1)) (.cons jh (.cons (bg.refl _) .nil))))
    have A:=g.aQ (aT.app w [an] []);have ⟨v,X,a1,cv,gq,B⟩:=A.Rg cE (iK x);have ⟨v',G2,b1,N,g3,T⟩:=B.Rf cE (dW a b m k x);have dq:∀K,bq (w++[an]) q 0 K=K ⟨1,0,[[vp]]⟩:=fun K=>aP (A.ox q rfl).2.1 K;have R:∀K,bq X q 0 K=K ⟨1,0,[[vp]]⟩:=aP gq;have I:∀K,c6 2 vp [[.q0 x.i,.q0 x.k]] (w++[an]) K=K v X:=a1;have e3:∀K,bq (X.set q (ak ⟨1,0,[[v]]⟩)) 3 0 K=K ⟨4,0,[[.q0 d,vl,vj,.nil]]⟩:=aP B.o3;have O:∀K,bq G2 3 0 K=K ⟨4,0,[[.q0 d,vl,vj,.nil]]⟩:=aP g3;have wj:=g.aj.cell;have M:∀K,c6 6 vj [fQ (dW a b m k x)] (X.set q (ak ⟨1,0,[[v]]⟩)) K=K v' G2:=b1;refine Y5 dq I cv R e3 ?_;refine ⟨rfl,?_⟩;refine cX (L4 a b l fl m k r.bt t.bt (by have:=r.lt;omega) (by have:=t.lt;omega) r.Mn.1 t.Mn.1 x a3 a4) ?_;refine Y3 M N O ?_;refine ⟨rfl,.inl ⟨rfl,U _ ⟨v',v,?_,?_⟩⟩⟩
    .rw[Xu,Xu];exact T
    .simp only[Xn,aa2];omega
  .intro C' n hY;have e:jl [.c (.func (.yield n) #[] #[]),.fp (eU a b l fl) 0]=[(0,.c (.func (.yield n) #[] #[])),(1,.fp (eU a b l fl) 0)]:=rfl;rw[e];exact WPJ.aj hY ve aS (Ld hY (fun pre G ⟨vj,vp,o,y⟩=>⟨vj,vp,o.aQ (aT.app G [an] []),y⟩) r.Mn t.Mn hl S [])
 .intro D F g;have ⟨vj,vp,g,y⟩:=g;refine Y ?_;rw[<-E];have e:(if ae (bQ a b l)<=40/\bv=aq then jd ⟨d,L,(bQ a b l).map (dW a b m k),fA a b m k⟩ ((bQ a b l).map iK) else tK)=if bv then jd ⟨d,L,(bQ a b l).map (dW a b m k),fA a b m k⟩ ((bQ a b l).map iK) else tK:=by cases bv<;>simp[y]
  rw[e];exact H9 hR r t g (hv y) _
 .rintro D F ⟨o0,o1,o2,hW⟩;have a5:∀K,bq F 0 0 K=K ⟨4,0,[[.q0 0,.nil,.nil,.nil]]⟩:=aP o0;have a6:∀K,bq F 1 0 K=K ⟨1,0,[[.nil]]⟩:=aP o1;have a7:∀K,bq F 2 0 K=K ⟨1,0,[[.q0 3]]⟩:=aP o2;simp only[go_sem,↓reduceIte,WY,a5,a6,a7,xQ];rw[<-E,WX aD];exact yo
def Bk (m k:Nat) (x y:Lc):Lc:=⟨dO m k x.inv.l y.inv.l,dO m k x.eb.l y.eb.l⟩
def lM (a b:Au) (m k i:Nat):List Lc:=(a.aL.take i).flatMap fun x=>b.aL.map (Bk m k x)
def Jd (a b:Au) (m k:Nat):lM a b m k (ae a.aL)=gZ a b m k:=by unfold lM gZ;rw[XP];rfl
def AR (h:i < ae a.aL):lM a b m k (i+1)=lM a b m k i++b.aL.map (Bk m k (af a.aL i ah)):=by unfold lM;rw[qF h,aaE];simp
def CG (a b:Au) (m k:Nat):∀i,ae (lM a b m k i)<=i*ae b.aL
 | 0=>by simp[lM]
 | i+1=>by
  have:=CG a b m k i;by_cases h:i < ae a.aL
  .rw[AR h,Xn,W4,XF];omega
  .have e:lM a b m k (i+1)=lM a b m k i:=by unfold lM;rw[Xq aD,Xq aD]
   rw[e,XF];omega
def HY (hR:ROk prog C 148 (RM prog 148)) (w:qT a m) (z:qT b k) (hl:ae l < 1000000) (h:PrR H d .nil .nil .nil [] [] [] an .nil [])
  (hv:ae (bQ a b l)<=40->a9 prog 27 [.agg (e9 ⟨d,gZ a b m k,(bQ a b l).map (dW a b m k),fA a b m k⟩)] (.v0 bv)) (er:Env) :
  WPJ prog C 148 Y0 (RM prog 148) kJ (G7 (if ae (bQ a b l)<=40/\bv=aq then jd ⟨d,gZ a b m k,(bQ a b l).map (dW a b m k),fA a b m k⟩ ((bQ a b l).map iK) else tK)) an
   ((1,.fp (eU a b l fl) 0)::(2,.ptr 0 0 0 0)::(3,.ptr 1 0 0 0)::(4,.ptr 2 0 0 0)::(5,.ptr 3 0 0 0)::er) H:=by
 refine CZ ?_;generalize t:(if ae (bQ a b l)<=40/\bv=aq then jd ⟨d,gZ a b m k,(bQ a b l).map (dW a b m k),fA a b m k⟩ ((bQ a b l).map iK) else tK)=RR;refine Y ?_;refine iE BD hR (fun n N e H=>N=an/\∃(i:Nat) (vl:AV),i<=ae a.aL/\n=ae a.aL - i/\PrR H d vl .nil .nil (lM a b m k i) [] [] an .nil [] /\
  e=[(1,.fp (eU a b l fl) 0),(2,.ptr 0 0 0 0),(3,.ptr 1 0 0 0),(4,.ptr 2 0 0 0),(5,.ptr 3 0 0 0),(42,.seq 4 ar (a.aL.map kP)),(43,.q0 (ae a.aL:Int)),(44,.q0 (i:Int))]) (n:=ae a.aL) ⟨rfl,0,.nil,aD,rfl,h,rfl⟩ ?_;clear h;rintro n N _ H ⟨rfl,i,vl,hi,a0,h,rfl⟩;by_cases p:(i:Int) < (ae a.aL:Int)
 .have U:au .i64 ((i:Int)+1)=((i+1:Nat):Int):=by have:=w.aL;rw[wrap_i64 (by omega) (by omega)];rfl
  have D:af a.aL i ah∈a.aL:=bS aD;have M:=AR (b:=b) (m:=m) (k:=k) (show i < ae a.aL by omega);have ⟨A,B⟩:=w.BZ _ D;generalize hx:af a.aL i ah=x at *;refine Y2 p hx ?_;refine ⟨aD,[(1,.fp (eU a b l fl) 0),(2,.ptr 0 0 0 0),(3,.ptr 1 0 0 0),(4,.ptr 2 0 0 0),(5,.ptr 3 0 0 0),(7,.fp (kP x) 0),(42,.seq 4 ar (a.aL.map kP)),(43,.q0 (ae a.aL:Int)),(44,.q0 (i:Int))],H++[an],?_,?_⟩
  .exact j6 (cs:=kP x) rfl (rH h.len (fun _ _ _ _=>rfl) (.cons jh (.cons (bg.refl _) (.cons (bg.refl _) (.cons (bg.refl _) .nil)))))
  refine Y ?_;have f:=h.aQ (aT.app H [an] []);refine iE BD hR (fun n q e H=>q=an/\∃(j:Nat) (vl:AV),j<=ae b.aL/\n=ae b.aL - j/\PrR H d vl .nil .nil (lM a b m k i++(b.aL.take j).map (Bk m k x)) [] [] an .nil [] /\
   e=[(1,.fp (eU a b l fl) 0),(2,.ptr 0 0 0 0),(3,.ptr 1 0 0 0),(4,.ptr 2 0 0 0),(5,.ptr 3 0 0 0),(7,.fp (kP x) 0),(42,.seq 4 ar (a.aL.map kP)),(43,.q0 (ae a.aL:Int)),(44,.q0 (i:Int)),
    (50,.seq 4 ar (b.aL.map kP)),(51,.q0 (ae b.aL:Int)),(52,.q0 (j:Int))]) (n:=ae b.aL) ⟨rfl,0,vl,aD,rfl,bk f,rfl⟩ ?_;clear h f vl;rintro n2 q _ H ⟨rfl,j,vl,hj,a2,h,rfl⟩;by_cases g:(j:Int) < (ae b.aL:Int)
  .have V:au .i64 ((j:Int)+1)=((j+1:Nat):Int):=by have:=z.aL;rw[wrap_i64 (by omega) (by omega)];rfl
   have I:af b.aL j ah∈b.aL:=bS aD;have W:b.aL.take (j+1)=b.aL.take j++[af b.aL j ah]:=qF aD;have ⟨E,F⟩:=z.BZ _ I;generalize hy:af b.aL j ah=y at *;have f:=h.aQ (aT.app H [an] []);have o:ae (lM a b m k i++(b.aL.take j).map (Bk m k x)) < 1000000:=by have q1:=CG a b m k i;have q3:=z.aL;have q2:i*ae b.aL<=100*100:=ZD (dp w.aL) z.aL;simp;omega
   have ⟨O,G,R,T,g3,h2⟩:=f.ft o (Bk m k x y);have S:∀K,bq (H++[an]) 3 0 K=K ⟨4,0,[[.q0 d,vl,.nil,.nil]]⟩:=aP f.o3;have s:∀K,bq G 3 0 K=K ⟨4,0,[[.q0 d,vl,.nil,.nil]]⟩:=aP g3;have wl:=h.al.cell;have r:∀K,c6 4 vl [[.c (.int .i64 (dO m k x.inv.l y.inv.l).n),.seq 3 ar ((dO m k x.inv.l y.inv.l).l.map cC),.c (.int .i64 (dO m k x.eb.l y.eb.l).n),.seq 3 ar ((dO m k x.eb.l y.eb.l).l.map cC)]] (H++[an]) K=K O G:=R;refine Y2 g hy ?_;refine ⟨aD,[(1,.fp (eU a b l fl) 0),(2,.ptr 0 0 0 0),(3,.ptr 1 0 0 0),(4,.ptr 2 0 0 0),(5,.ptr 3 0 0 0),(7,.fp (kP x) 0),(9,.fp (kP y) 0),(42,.seq 4 ar (a.aL.map kP)),(43,.q0 (ae a.aL:Int)),(44,.q0 (i:Int)),
    (50,.seq 4 ar (b.aL.map kP)),(51,.q0 (ae b.aL:Int)),(52,.q0 (j:Int))],H++[an],?_,?_⟩
   .exact j6 (cs:=kP y) rfl (rH h.len (fun _ _ _ _=>rfl) (.cons (bg.refl _) (.cons jh (.cons (bg.refl _) (.cons (bg.refl _) (.cons (bg.refl _) (.cons (bg.refl _) (.cons (bg.refl _) (.cons (bg.refl _) .nil)))))))))
   refine Y1 S ?_;refine cY (mV a b l fl m k w.bt z.bt (by have:=w.lt;omega) (by have:=z.lt;omega) _ _ ar ar A E) ?_;refine cX (mV a b l fl m k w.bt z.bt (by have:=w.lt;omega) (by have:=z.lt;omega) _ _ ar ar B F) ?_;refine Y4 r T s V ?_;refine ⟨rfl,ae b.aL - (j+1),aD,j+1,O,aD,rfl,?_,rfl⟩;rw[W,Xu,<-XC];exact h2
  .have X:j=ae b.aL:=aD;subst X;refine Y2 g U ?_;rw[XP] at h;refine ⟨ae a.aL - (i+1),aD,i+1,vl,aD,rfl,by rw[M];exact h,rfl⟩
 .have v:i=ae a.aL:=aD;subst v;refine Y1 p ?_;rw[Jd] at h;rw[<-t];exact HZ hR w z hl h hv _
end
def fZ (a b:Au) (m k:Nat) (l:List Int):Bool:=decide (m+k<=4)&&decide (ae a.aL*ae b.aL<=12)&&decide (ae (bQ a b l)<=40)
def Kd (a b:Au) (m k:Nat) (l:List Int) (fl:Bool) (z:qT a m) (w:qT b k) (t:ae l < 1000000) {bv:Bool} (hv:fZ a b m k l=aq->a9 prog 27 [.agg (e9 (da a b m k l))] (.v0 bv)) :
  a9 prog 32 [.agg (eU a b l fl)] (if fZ a b m k l=aq/\bv=aq then jd (da a b m k l) ((bQ a b l).map iK) else tK):=by
 refine cF.Sv (qm (Post:=fun r G=>Fin 0 r G (if fZ a b m k l=aq/\bv=aq then jd (da a b m k l) ((bQ a b l).map iK) else tK) []) func32 s8 fun C hR=>?_) (fun r G h=>h);have g:=z.aL;have i:=w.aL;have p:=z.lt;have s:=w.lt;have o:ae a.aL*ae b.aL<=100*100:=ZD g i;have c:au .i64 (a.bt+b.bt)=(m:Int)+k:=by rw[z.bt,w.bt];exact wrap_i64 aD aD
 have j:au .i64 ((ae a.aL:Int)*(ae b.aL:Int))=((ae a.aL*ae b.aL:Nat):Int):=by rw[<-YT];exact wrap_i64 aD aD
 refine CZ ?_;by_cases e:4 < (m:Int)+k
 .have x:fZ a b m k l=ar:=by unfold fZ;rw[Xx (by omega)];rfl
  rw[x];simp only[go_sem,↓reduceIte,Nat.reduceLeDiff,WY,c,e,W3,ZQ,xQ];exact yo
 .by_cases n:12 < ((ae a.aL*ae b.aL:Nat):Int)
  .have x:fZ a b m k l=ar:=by unfold fZ;rw[Xx (show ¬ae a.aL*ae b.aL<=12 by omega)];simp
   rw[x];simp only[go_sem,↓reduceIte,Nat.reduceLeDiff,WY,c,j,e,n,W3,ZQ,xQ];exact yo
  .have x:(fZ a b m k l=aq/\bv=aq)=(ae (bQ a b l)<=40/\bv=aq):=by unfold fZ;rw[XB (show m+k<=4 by omega),XB (show ae a.aL*ae b.aL<=12 by omega)];simp
   simp only[x];refine Z4 c j e n ?_;refine HY hR z w t ⟨rfl,rfl,rfl,rfl,fun q v=>by simp at v,.nil,.nil,.nil,.nil,fun y h=>by simp[aF] at h,fun y h=>by simp[aF] at h,fun y h=>by simp[aF] at h,fun y h=>by simp[aF] at h,fun y h=>by simp[aF] at h,fun y h=>by simp[aF] at h⟩ (fun f=>hv ?_) _;unfold fZ;rw[XB (show m+k<=4 by omega),XB (show ae a.aL*ae b.aL<=12 by omega),XB f];rfl
end
def qi (n:Int) (p:Pl):Bool:=jw p.n p.l&&decide (p.n=n)
def pO (n:Int) (x:As):Bool:=if x.kind=1 then x.f.jd n&&decide (1<=x.low/\x.low<=M60) else decide ((x.kind=0\/x.kind=2)/\ae x.f.c=0/\x.f.a=0/\x.low=0)
noncomputable def wc (n:Int) (x:Lc):Bool:=qi n x.inv&&(qi n x.eb&&kO (az n) x.eb.l)
def ug (n:Int) (k:Nat) (x:Jp):Bool:=decide (0<=x.cQ/\x.cQ < k/\0<=x.to/\x.to < k/\0<=x.label/\x.label<=20)&&(qi n x.guard&&(decide ((ae x.de:Int)=n)&&x.de.all (pO n)))
def wh (n:Int) (k:Nat) (x:Zn):Bool:=decide (0<=x.loc/\x.loc < k)&&qi n x.set
def C0 (a:Au):Bool:=decide (0<=a.bt/\a.bt<=4/\1<=ae a.aL/\ae a.aL<=12/\ae a.aM<=40/\ae a.init<=12)
noncomputable def eF (a:Au):Bool:=C0 a&&(a.aL.all (wc a.bt)&&(a.aM.all (ug a.bt (ae a.aL))&&a.init.all (wh a.bt (ae a.aL))))
def yG {n:Int} {f:Fm}:f.jd n=aq↔(0<=n/\n<=8/\(ae f.c:Int)=n)/\qh f.a=aq/\∀x,x∈f.c->qh x=aq:=by unfold Fm.jd;rw[WZ,Xm,WZ,W6]
def zX {n:Nat} {f:Fm} {b a:Nat} {t:Int} (h:f.jd n=aq) (i:t=((b+n+a:Nat):Int)) (g:b+n+a<=8):(f.wide b a).jd t=aq:=by
 have ⟨⟨w,c,e⟩,y,z⟩:=yG.1 h;refine yG.2 ⟨⟨aD,aD,?_⟩,y,fun x k=>?_⟩
 .simp only[Fm.wide,Xn,Ym];omega
 .simp only[Fm.wide,Yc,YM] at k;rcases k with (⟨_,rfl⟩ | k) | ⟨_,rfl⟩
  .decide
  .exact z x k
  .decide
def lP:jw n l=aq↔(0<=n/\n<=8/\ae l<=120)/\∀c,c∈l->c.f.jd n=aq:=by unfold jw;rw[WZ,Xm,W6]
def oR:qi n p=aq↔jw n p.l=aq/\p.n=n:=by
 unfold qi;rw[WZ,Xm];constructor
 .rintro ⟨h,k⟩;rw[k] at h;exact ⟨h,k⟩
 .rintro ⟨h,k⟩;rw[k];exact ⟨h,rfl⟩
def NL {n:Nat} {x:As} {b a:Nat} {t:Int} (h:pO n x=aq) (e:t=((b+n+a:Nat):Int)) (w:b+n+a<=8):pO t (x.put fun f=>f.wide b a)=aq/\x.put (fun f=>f.wide b a)=x.wide b a:=by
 unfold pO at h ⊢;unfold As.put As.wide;by_cases z:x.kind=1
 .simp only[z,Yj] at h ⊢;rw[WZ] at h ⊢;exact ⟨⟨zX h.1 e w,h.2⟩,trivial⟩
 .simp only[z,YC,Xm] at h ⊢;refine ⟨⟨h.1,aK,aK,h.2.2.2⟩,?_⟩;have ⟨kind,⟨c,g⟩,low⟩:=x;have ⟨_,k,y,_⟩:=h;simp only at k y;rw[Xy k,y]
def oM {m k:Nat} {x y:List Cd} (b:jw m x=aq) (e:jw k y=aq) (i:m+k<=8) (j:ae x+ae y<=120) :
  jw ((m:Int)+k) (dO m k x y).l=aq:=by
 have ⟨f,w⟩:=lP.1 b;have ⟨g,a⟩:=lP.1 e;refine lP.2 ⟨⟨aD,aD,by simp only[dO,Xn,W4];omega⟩,fun c z=>?_⟩;simp only[dO,Yc,Xf] at z;rcases z with ⟨d,h,rfl⟩ | ⟨d,h,rfl⟩
 .exact zX (w d h) aD aD
 .exact zX (a d h) aD aD
def Gv {m:Nat} (h:m<=8):jw m []=aq:=lP.2 ⟨⟨aD,aD,aK⟩,fun c h=>by simp at h⟩
def Fe:bR (n+k) f=bR n f+bR k (fun i=>f (n+i)):=by
 induction k with
 | zero=>show bR n f=bR n f+0;grind
 | succ k h=>show bR (n+k) f+f (n+k)=bR n f+(bR k (fun i=>f (n+i))+f (n+k));rw[h];grind
def IB {m k:Nat} {f:Fm} (z:ae f.c=m) (u:Nat->Rat):(f.wide 0 k).val (m+k) u=f.val m u:=by
 unfold Fm.val;rw[Fe];have x:bR k (fun i=>(((f.wide 0 k).c.getD (m+i) 0:Int):Rat)*u (m+i))=0:=by
  rw[cH (g:=fun _=>0) (fun i w=>?_)]
  .clear z;induction k with
   | zero=>rfl
   | succ k b=>show bR k _+0=0;rw[b];grind
  .have:(f.wide 0 k).c.getD (m+i) 0=0:=by simp only[Fm.wide,Zp,XH,XZ];rw[Xk aD,YH];split<;>rfl
   rw[this];show ((0:Int):Rat)*_=0;have h:(((0:Int)):Rat)=0:=by rfl
   rw[h];grind
 rw[x];have y:bR m (fun i=>(((f.wide 0 k).c.getD i 0:Int):Rat)*u i)=bR m (fun i=>((af f.c i 0:Int):Rat)*u i):=by
  refine cH fun i w=>?_;have:(f.wide 0 k).c.getD i 0=af f.c i 0:=by simp only[Fm.wide,Zp,XH,XZ];rw[Xc aD]
  rw[this]
 rw[y];show (f.a:Rat)+_=_
 grind
def IC {m k:Nat} {f:Fm} (w:ae f.c=k) (u:Nat->Rat):(f.wide m 0).val (m+k) u=f.val k (fun i=>u (m+i)):=by
 unfold Fm.val;rw[Fe];have y:bR m (fun i=>(((f.wide m 0).c.getD i 0:Int):Rat)*u i)=0:=by
  rw[cH (g:=fun _=>0) (fun i h=>?_)]
  .clear w;induction m with
   | zero=>rfl
   | succ k b=>show bR k _+0=0;rw[b];grind
  .have:(f.wide m 0).c.getD i 0=0:=by simp only[Fm.wide,Zp,Xz,XZ];rw[Xc (by simpa using h),YH];split<;>rfl
   rw[this];have x:(((0:Int)):Rat)=0:=by rfl
   rw[x];grind
 rw[y];have z:bR k (fun i=>(((f.wide m 0).c.getD (m+i) 0:Int):Rat)*u (m+i))=bR k (fun i=>((af f.c i 0:Int):Rat)*u (m+i)):=by
  refine cH fun i h=>?_;have:(f.wide m 0).c.getD (m+i) 0=af f.c i 0:=by simp only[Fm.wide,Zp,Xz,XZ];rw[Xk aK,Ym,aae]
  rw[this]
 rw[z];show (f.a:Rat)+_=_
 grind
def ng (j:∀c,c∈x->ae c.f.c=m) (n:∀c,c∈y->ae c.f.c=k) (u:Nat->Rat) :
  fB (m+k) (dO m k x y).l u↔fB m x u/\fB k y (fun i=>u (m+i)):=by
 have a:∀c,c∈x->((c.put fun f=>f.wide 0 k).gP (m+k) u↔c.gP m u):=fun c z=>by unfold Cd.gP Cd.put;rw[IB (j c z)]
 have b:∀c,c∈y->((c.put fun f=>f.wide m 0).gP (m+k) u↔c.gP k (fun i=>u (m+i))):=fun c z=>by unfold Cd.gP Cd.put;rw[IC (n c z)]
 unfold fB dO;simp only[Yc,Xf];constructor
 .intro h;exact ⟨fun c z=>(a c z).1 (h _ (Or.inl ⟨c,z,rfl⟩)),fun c z=>(b c z).1 (h _ (Or.inr ⟨c,z,rfl⟩))⟩
 .rintro ⟨e,g⟩ c (⟨d,w,rfl⟩ | ⟨d,w,rfl⟩)
  .exact (a d w).2 (e d w)
  .exact (b d w).2 (g d w)
def lN {n:Nat} {cs:List Cd} {u v:Nat->Rat} (h:∀i,i < n->u i=v i):fB n cs u->fB n cs v:=by
 intro z c x;have:=z c x;unfold Cd.gP Fm.val at this ⊢;have e:bR n (fun k=>((af c.f.c k 0:Int):Rat)*u k)=bR n (fun k=>((af c.f.c k 0:Int):Rat)*v k):=cH fun i y=>by rw[h i y]
 rw[e] at this;exact this
open Classical in
def pB:kO n cs=aq↔(∃u,fB n cs u)/\∀v,v < n->DI n cs v:=by unfold kO sG xC;rw[WZ,Yd,YI,Xm,aaR]
def IX {m k:Nat} {x y:List Cd} (a:∀c,c∈x->ae c.f.c=m) (b:∀c,c∈y->ae c.f.c=k) (o:kO m x=aq) (p:kO k y=aq):kO (m+k) (dO m k x y).l=aq:=by
 have ⟨⟨u,q⟩,r⟩:=pB.1 o;have ⟨⟨v,hv⟩,s⟩:=pB.1 p;refine pB.2 ⟨⟨fun i=>if i < m then u i else v (i - m),(ng a b _).2 ⟨lN (fun i n=>by simp[n]) q,lN (fun i n=>by have e:¬m+i < m:=aD;simp[e]) hv⟩⟩,fun i n=>?_⟩;by_cases h:i < m
 .have ⟨⟨B,g⟩,C,j⟩:=r i h;exact ⟨⟨B,fun w z=>g w ((ng a b w).1 z).1⟩,C,fun w z=>j w ((ng a b w).1 z).1⟩
 .have ⟨⟨B,g⟩,C,j⟩:=s (i - m) aD;have e:m+(i - m)=i:=aD;refine ⟨⟨B,fun w z=>?_⟩,C,fun w z=>?_⟩
  .have:=g _ ((ng a b w).1 z).2;rw[e] at this;exact this
  .have:=j _ ((ng a b w).1 z).2;rw[e] at this;exact this
structure VA0 (a:Au) (m:Nat):Prop where
 bt:a.bt=m
 m4:m<=4
 l1:1<=a.aL.length
 AQ:a.aL.length<=12
 Mm:a.aM.length<=40
 i12:a.init.length<=12
 loc:∀x,x∈a.aL->(jw m x.inv.l=true/\x.inv.n=m)/\(jw m x.eb.l=true/\x.eb.n=m)/\kO m x.eb.l=true
 jmp:∀x,x∈a.aM->(0<=x.cQ/\x.cQ < a.aL.length/\0<=x.to/\x.to < a.aL.length/\0<=x.label/\x.label<=20)/\(jw m x.guard.l=true/\x.guard.n=m)/\(x.de.length=m/\∀y,y∈x.de->pO m y=true)
 xz:∀z,z∈a.init->(0<=z.loc/\z.loc < a.aL.length)/\jw m z.set.l=true/\z.set.n=m
def nZ (h:eF a=aq):VA0 a (az a.bt):=by
 unfold eF C0 at h;simp only[WZ,Xm,W6] at h;have ⟨⟨b,c,f,g,i,j⟩,w,z,y⟩:=h;have e:a.bt=(az a.bt:Int):=aD;rw[e] at w z y;generalize az a.bt=m at *;rw[e] at b c;refine ⟨e,aD,f,g,i,j,fun x k=>?_,fun x k=>?_,fun x k=>?_⟩
 .have:=w x k;simp only[wc,WZ,oR,Xd] at this;exact this
 .have:=z x k;simp only[ug,WZ,oR,Xm,W6] at this;exact ⟨this.1,this.2.1,dp this.2.2.1,this.2.2.2⟩
 .have:=y x k;simp only[wh,WZ,oR,Xm] at this;exact this
def VA0.eF (h:VA0 a m):eF a=aq:=by
 unfold Go.Fx.eF C0;simp only[WZ,Xm,W6];rw[h.bt];refine ⟨⟨aD,dp h.m4,h.l1,h.AQ,h.Mm,h.i12⟩,fun x k=>?_,fun x k=>?_,fun x k=>?_⟩
 .have:=h.loc x k;simp only[wc,WZ,oR,Xd];exact this
 .have:=h.jmp x k;simp only[ug,WZ,oR,Xm,W6];exact ⟨this.1,this.2.1,by rw[this.2.2.1],this.2.2.2⟩
 .have:=h.xz x k;simp only[wh,WZ,oR,Xm];exact this
def yt {α:Type} {f:Nat->List α} {B:Nat} (h:∀i,ae (f i)<=B):∀n,ae ((aC n).flatMap f)<=n*B
 | 0=>aK
 | n+1=>by have:=yt h n;rw[kZ,Xn,aa7];have:=h n;omega
def Jf (h:VA0 a m) (x:VA0 b k) (l:List Int):ae (bQ a b l)<=2560:=by have al:=h.AQ;have bl:=x.AQ;have aj:=h.Mm;have y:=x.Mm;have z:=yt (f:=rL a b l) (B:=12) (fun i=>by unfold rL jT;split<;>simp;omega) (ae a.aM);have w:=yt (f:=pY a b l) (B:=12) (fun i=>by unfold pY jU;split<;>simp;omega) (ae b.aM);have c:=yt (f:=nT a b l) (B:=40) (fun i=>by unfold nT jV;rw[W4];exact XX (ZV _ _) cE) (ae a.aM);unfold bQ;rw[Xn,Xn];omega
structure uB (a:Au) (n:Nat):Prop where
 loc:∀x,x∈a.aL->x.inv.l.length<=n/\x.eb.l.length<=n
 jmp:∀x,x∈a.aM->x.guard.l.length<=n
 xz:∀z,z∈a.init->z.set.l.length<=n
def HH (h:x∈bQ a b l) :
  (∃i k,i < ae a.aM/\k < ae b.aL/\x=yx a b i k)\/(∃k i,k < ae b.aM/\i < ae a.aL/\x=yy b k i) \/
  (∃i k,i < ae a.aM/\k < ae b.aM/\(af a.aM i ah).label=(af b.aM k ah).label/\x=yz a b i k):=by
 unfold bQ rL pY nT jT jU jV at h;simp only[Yc,Zz,X5] at h;rcases h with (⟨i,y,h⟩ | ⟨k,z,h⟩) | ⟨i,y,h⟩
 .left;split at h
  .simp at h
  .simp only[Xf,X5] at h;obtain ⟨k,z,rfl⟩:=h;exact ⟨i,k,y,z,rfl⟩
 .right;left;split at h
  .simp at h
  .simp only[Xf,X5] at h;obtain ⟨i,y,rfl⟩:=h;exact ⟨k,i,z,y,rfl⟩
 .right;right;simp only[Xf,XR,X5,A7,WZ,Xm] at h;obtain ⟨k,⟨z,_,w⟩,rfl⟩:=h;exact ⟨i,k,y,z,w,rfl⟩
def AO:As:=⟨0,⟨[],0⟩,0⟩
def EY (n b a:Nat):(aA n (⟨0,⟨[],0⟩,0⟩:As)).map (As.put fun f=>f.wide b a)=aA n AO:=by rw[ZS];rfl
def pD {a:Au} {i:Nat} (h:i < ae a.aM):af a.aM i ah∈a.aM:=bS h
def tQ {n:Nat} {l:List Cd} (h:jw n l=aq):∀c,c∈l->ae c.f.c=n:=fun c k=>by have:=(yG.1 ((lP.1 h).2 c k)).1;omega
def qk {i j p q:Int} (h:0<=i) (x:i < p) (y:0<=j) (z:j < q):0<=i*q+j/\i*q+j < p*q:=by have w:0<=i*q:=YB h aD;have k:(i+1)*q<=p*q:=Xj aD aD;rw[Yo,YO] at k;omega
def mD (a b:Au) (m k:Nat):ae (gZ a b m k)=ae a.aL*ae b.aL:=by
 unfold gZ
 induction a.aL with
 | nil=>simp
 | cons x y h=>rw[YG,Xn,h,W4,XG,aa7];omega
def tk (a b:Au) (m k:Nat):ae (fA a b m k)=ae a.init*ae b.init:=by
 unfold fA
 induction a.init with
 | nil=>simp
 | cons x y h=>rw[YG,Xn,h,W4,XG,aa7];omega
def An {n:Nat} {l:List As} {b a:Nat} {t:Int} (h:∀y,y∈l->pO n y=aq) (x:t=((b+n+a:Nat):Int)) (k:b+n+a<=8):∀y,y∈l.map (As.put fun f=>f.wide b a)->pO t y=aq:=fun y w=>by obtain ⟨z,c,rfl⟩:=Xf.1 w;exact (NL (h z c) x k).1
def Gm (n:Nat) (t:Int):∀y,y∈aA n AO->pO t y=aq:=fun y h=>by rw[(YM.1 h).2];rfl
def EV (s:VA0 a m) (t:VA0 b k) (H:uB a 60) (K:uB b 60) (I:m+k<=4) :
  (∀x,x∈(da a b m k l).aL->(jw (m+k:Nat) x.inv.l=aq/\x.inv.n=(m+k:Nat))/\(jw (m+k:Nat) x.eb.l=aq/\x.eb.n=(m+k:Nat))/\kO (m+k) x.eb.l=aq) /\
  (∀x,x∈(da a b m k l).aM->(0<=x.cQ/\x.cQ < (da a b m k l).aL.length/\0<=x.to/\x.to < (da a b m k l).aL.length/\0<=x.label/\x.label<=20)/\(jw (m+k:Nat) x.guard.l=aq/\x.guard.n=(m+k:Nat))/\(ae x.de=m+k/\∀y,y∈x.de->pO (m+k:Nat) y=aq)) /\
  (∀z,z∈(da a b m k l).init->(0<=z.loc/\z.loc < (da a b m k l).aL.length)/\jw (m+k:Nat) z.set.l=aq/\z.set.n=(m+k:Nat)):=by
 have E:((da a b m k l).aL.length:Int)=(ae a.aL:Int)*ae b.aL:=by show (ae (gZ a b m k):Int)=_;rw[mD];exact YT _ _
 have e:((m+k:Nat):Int)=(m:Int)+k:=aD;refine ⟨fun x W=>?_,fun x W=>?_,fun z G=>?_⟩
 .have w:x∈gZ a b m k:=W;unfold gZ at w;have ⟨u,r,w⟩:=Zz.1 w;obtain ⟨v,hv,rfl⟩:=Xf.1 w;have A:=s.loc u r;have B:=t.loc v hv;have C:=H.loc u r;have D:=K.loc v hv;rw[e];exact ⟨⟨oM A.1.1 B.1.1 (by omega) (by omega),rfl⟩,⟨oM A.2.1.1 B.2.1.1 (by omega) (by omega),rfl⟩,IX (tQ A.2.1.1) (tQ B.2.1.1) A.2.2 B.2.2⟩
 .have w:x∈(bQ a b l).map (dW a b m k):=W;obtain ⟨y,h,rfl⟩:=Xf.1 w;rw[e,E];rcases HH h with ⟨i,j,o,p,rfl⟩ | ⟨j,i,p,o,rfl⟩ | ⟨i,j,o,p,J,rfl⟩
  .have A:=s.jmp _ (pD o);have C:=H.jmp _ (pD o);have X:¬(0:Int) <= -1:=aS;have q:(0:Int)<=(i:Int):=aD;unfold dW pf yx;simp only[X,q,Yj,YC,oa,Xd];have f:=qk A.1.1 A.1.2.1 (show (0:Int)<=(j:Int) by omega) (show (j:Int) < ae b.aL by omega);have g:=qk A.1.2.2.1 A.1.2.2.2.1 (show (0:Int)<=(j:Int) by omega) (show (j:Int) < ae b.aL by omega);refine ⟨⟨f.1,f.2,g.1,g.2,A.1.2.2.2.2⟩,⟨oM A.2.1.1 (Gv aD) aD (by simp only[XQ];omega),rfl⟩,by have:=A.2.2.1;simp only[Xn,W4,Ym];omega,fun y h=>?_⟩;rcases Yc.1 h with h | h
   .exact An A.2.2.2 aD aD y h
   .rw[EY] at h;exact Gm _ _ y h
  .have B:=t.jmp _ (pD p);have D:=K.jmp _ (pD p);have X:¬(0:Int) <= -1:=aS;have q:(0:Int)<=(j:Int):=aD;unfold dW pf yy;simp only[X,q,Yj,YC,oa,Xd];have f:=qk (show (0:Int)<=(i:Int) by omega) (show (i:Int) < ae a.aL by omega) B.1.1 B.1.2.1;have g:=qk (show (0:Int)<=(i:Int) by omega) (show (i:Int) < ae a.aL by omega) B.1.2.2.1 B.1.2.2.2.1;refine ⟨⟨f.1,f.2,g.1,g.2,B.1.2.2.2.2⟩,⟨oM (Gv aD) B.2.1.1 aD (by simp only[XQ];omega),rfl⟩,by have:=B.2.2.1;simp only[Xn,W4,Ym];omega,fun y h=>?_⟩;rcases Yc.1 h with h | h
   .rw[EY] at h;exact Gm _ _ y h
   .exact An B.2.2.2 aD aD y h
  .have A:=s.jmp _ (pD o);have C:=H.jmp _ (pD o);have B:=t.jmp _ (pD p);have D:=K.jmp _ (pD p);have q:(0:Int)<=(j:Int):=aD;have F:(0:Int)<=(i:Int):=aD;unfold dW pf yz;simp only[q,F,Yj,oa,Xd];have f:=qk A.1.1 A.1.2.1 B.1.1 B.1.2.1;have g:=qk A.1.2.2.1 A.1.2.2.2.1 B.1.2.2.1 B.1.2.2.2.1;refine ⟨⟨f.1,f.2,g.1,g.2,B.1.2.2.2.2⟩,⟨oM A.2.1.1 B.2.1.1 aD aD,rfl⟩,by have:=A.2.2.1;have:=B.2.2.1;simp only[Xn,W4];omega,fun y h=>?_⟩;rcases Yc.1 h with h | h
   .exact An A.2.2.2 aD aD y h
   .exact An B.2.2.2 aD aD y h
 .have c:z∈fA a b m k:=G;unfold fA at c;have ⟨u,r,c⟩:=Zz.1 c;obtain ⟨v,hv,rfl⟩:=Xf.1 c;have A:=s.xz u r;have B:=t.xz v hv;have C:=H.xz u r;have D:=K.xz v hv;rw[e,E];exact ⟨qk A.1.1 A.1.2 B.1.1 B.1.2,oM A.2.1 B.2.1 aD aD,rfl⟩
def Lv (x:VA0 a m) (y:VA0 b k) (i:uB a 60) (j:uB b 60) (h:m+k<=4) (c:ae a.aL*ae b.aL<=12) (w:ae (bQ a b l)<=40) (z:ae a.init*ae b.init<=12) :
  VA0 (da a b m k l) (m+k):=by
 have ⟨e,f,g⟩:=EV (l:=l) x y i j h;refine ⟨rfl,h,?_,?_,?_,?_,e,f,g⟩
 .show 1<=ae (gZ a b m k);rw[mD];exact Nat.mul_pos x.l1 y.l1
 .show ae (gZ a b m k)<=12;rw[mD];exact c
 .show ae ((bQ a b l).map (dW a b m k))<=40;rw[W4];exact w
 .show ae (fA a b m k)<=12;rw[tk];exact z
def OW {a b:Au} {m k:Nat} (y:VA0 a m) (z:VA0 b k) (w:uB a 60) (c:uB b 60) {l:List Int} (x:fZ a b m k l=aq) :
  eF (da a b m k l)=decide (ae a.init*ae b.init<=12):=by
 unfold fZ at x;simp only[WZ,Xm] at x;by_cases h:ae a.init*ae b.init<=12
 .rw[XB h];exact (Lv y z w c x.1.1 x.1.2 x.2 h).eF
 .rw[Xx h];cases hv:eF (da a b m k l) with
  | false=>rfl
  | true =>
   have:=(nZ hv).i12;have e:(da a b m k l).init.length=ae a.init*ae b.init:=tk a b m k;omega
section
variable {P:Program}
def vK (n:Int) (l:List Cd) (k:ae l < 1000000000) (h:∀c,c∈l->FmI c.f):a9 prog 44 [.agg [.q0 n,.seq 3 ar (l.map cC)]] (.seq 6 ar (l.map fun c=>bT c.dj)):=by refine pw func44 ?_;refine Z ?_;refine cX (L0 n l k h) ?_;refine Z ?_;exact aV rfl rfl
def vJ (n:Int) (p:Pl) (x:kT p.l):a9 prog 41 [.q0 n,.agg (Bg p)] (.v0 (qi n p)):=by
 refine pw func41 ?_;unfold qi;by_cases h:p.n=n
 .have k:(p.n=n)=True:=XO h;refine Z1 k ?_;refine cX (F9 p.n p.l (by have:=x.1;omega) (fun c y=>by have:=x.2 c y;omega)) ?_;refine Z ?_;exact aV rfl rfl
 .have k:(p.n=n)=False:=Xh h;simp only[go_sem,↓reduceIte,k,Zs,W3,Bool.and_false];exact aV rfl rfl
def Fv (n:Int) (x:As) (m:ae x.f.c < 1000000):a9 prog 42 [.q0 n,.agg (mr x)] (.v0 (pO n x)):=by
 refine pw func42 ?_;unfold pO;by_cases h:x.kind=1
 .have e:(x.kind=1)=True:=XO h;refine Z ?_;refine cX (um n x.f aD) ?_;by_cases i:x.f.jd n=aq
  .by_cases g:1<=x.low
   .refine Z ?_;exact aV rfl rfl
   .refine Z ?_;exact aV rfl rfl
  .have l:x.f.jd n=ar:=bk i;refine Z ?_;exact aV rfl rfl
 .have e:(x.kind=1)=False:=Xh h;by_cases i:x.kind=0\/x.kind=2
  .by_cases g:ae x.f.c=0
   .have y:((ae x.f.c:Int)=0)=True:=XO aD;by_cases j:x.f.a=0
    .have z:(x.f.a=0)=True:=XO j;by_cases b:x.kind=0
     .have k:(x.kind=0)=True:=XO b;refine Z4 e k y z ?_;exact aV (by simp[g]) rfl
     .have k:(x.kind=0)=False:=Xh b;have w:(x.kind=2)=True:=XO aD;refine Z5 e k w y z ?_;exact aV (by simp[g]) rfl
    .have z:(x.f.a=0)=False:=Xh j;by_cases b:x.kind=0
     .have k:(x.kind=0)=True:=XO b;refine Z4 e k y z ?_;exact aV aK rfl
     .have k:(x.kind=0)=False:=Xh b;have w:(x.kind=2)=True:=XO aD;refine Z5 e k w y z ?_;exact aV aK rfl
   .have y:((ae x.f.c:Int)=0)=False:=Xh aD;by_cases b:x.kind=0
    .have k:(x.kind=0)=True:=XO b;refine Z3 e k y ?_;exact aV (by simp[g]) rfl
    .have k:(x.kind=0)=False:=Xh b;have w:(x.kind=2)=True:=XO aD;refine Z ?_;exact aV (by simp[g]) rfl
  .have k:(x.kind=0)=False:=Xh aD;have w:(x.kind=2)=False:=Xh aD;refine Z ?_;exact aV aK rfl
def yb (a:Au) (x:Int):a9 prog 40 [.q0 x,.fp (e9 a) 0] (.v0 (decide (0<=x/\x < (ae a.aL:Int)))):=by
 refine pw func40 ?_;by_cases h:0<=x
 .refine Z ?_;exact aV rfl rfl
 .refine Z ?_;exact aV rfl rfl
structure AuS (a:Au):Prop where
 aL:a.aL.length < 1000000
 aM:a.aM.length < 1000000
 init:a.init.length < 1000000
 BZ:∀x,x∈a.aL->kT x.inv.l/\kT x.eb.l
 Lb:∀x,x∈a.aM->kT x.guard.l/\x.de.length < 1000000/\∀y,y∈x.de->y.f.c.length < 1000000
 BV:∀x,x∈a.init->kT x.set.l
def LP (h:C0 a=ar):eF a=ar:=by unfold eF;rw[h];rfl
def NP (k:x∈a.aL) (h:wc a.bt x=ar):eF a=ar:=by
 have:a.aL.all (wc a.bt)=ar:=by rw[Ye];exact ⟨x,k,by rw[h];decide⟩
 unfold eF;rw[this];simp
def NO (k:x∈a.aM) (h:ug a.bt (ae a.aL) x=ar):eF a=ar:=by
 have:a.aM.all (ug a.bt (ae a.aL))=ar:=by rw[Ye];exact ⟨x,k,by rw[h];decide⟩
 unfold eF;rw[this];simp
def NN (k:x∈a.init) (h:wh a.bt (ae a.aL) x=ar):eF a=ar:=by
 have:a.init.all (wh a.bt (ae a.aL))=ar:=by rw[Ye];exact ⟨x,k,by rw[h];decide⟩
 unfold eF;rw[this];simp
def NM (h:C0 a=aq) (y:∀j,j < ae a.aL->wc a.bt (af a.aL j ah)=aq) (x:∀j,j < ae a.aM->ug a.bt (ae a.aL) (af a.aM j ah)=aq)
  (k:∀j,j < ae a.init->wh a.bt (ae a.aL) (af a.init j ah)=aq):eF a=aq:=by unfold eF;rw[h,gW y,gW x,gW k];rfl
def jK {α:Type} [Inhabited α] {p:α->Bool} {l:List α} {i:Nat} (k:∀j,j < i->p (af l j ah)=aq) (x:p (af l i ah)=aq):∀j,j < i+1->p (af l j ah)=aq:=fun j y=>by
 rcases Xe j i with h | h
 .exact k j h
 .rw[show j=i by omega];exact x
def Gu (h:jw n l=aq):∀c,c∈l->FmI c.f:=fun c k=>by have x:=(lP.1 h).1;have e:n=(az n:Int):=aD;rw[e] at h;exact (gL.of h).QE k
abbrev EA (a:Au):Env:=[(1,.fp (e9 a) 0),(3,.q0 a.bt),(4,.fn 40 [] [.fp (e9 a) 0])]
def mG (a:Au) (W:AuS a):a9 prog 27 [.agg (e9 a)] (.v0 (eF a)):=by
 refine pw func27 ?_;have bad:∀{H:aE},eF a=ar->Fin 0 (.v0 ar) H (.v0 (eF a)) []:=fun h=>aV (by rw[h]) rfl;have v:∀{H:aE},¬(0<=a.bt/\a.bt<=4/\1<=ae a.aL/\ae a.aL<=12/\ae a.aM<=40/\ae a.init<=12)->Fin 0 (.v0 ar) H (.v0 (eF a)) []:=fun h=>bad (LP (by unfold C0;exact Xx h));have l0:ae a.aL < 1000000:=W.aL;have j0:ae a.aM < 1000000:=W.aM;have i0:ae a.init < 1000000:=W.init;by_cases t:a.bt < 0
 .refine Z1 t ?_;exact v aD
 by_cases X:4 < a.bt
 .refine Z2 t X ?_;exact v aD
 by_cases E:(ae a.aL:Int) < 1
 .refine Z3 t X E ?_;exact v aD
 by_cases M:12 < (ae a.aL:Int)
 .refine Z4 t X E M ?_;exact v aD
 by_cases S:40 < (ae a.aM:Int)
 .refine Z5 t X E M S ?_;exact v aD
 by_cases h6:12 < (ae a.init:Int)
 .refine Z6 t X E M S h6 ?_;exact v aD
 have V:C0 a=aq:=by unfold C0;exact XB aD
 refine Z6 t X E M S h6 ?_;refine bE (fun n e H=>∃i:Nat,i<=ae a.aM/\n=ae a.aM - i/\(∀j,j < i->ug a.bt (ae a.aL) (af a.aM j ah)=aq) /\
  e=EA a++[(47,.seq 6 ar (a.aM.map fQ)),(48,.q0 (ae a.aM:Int)),(49,.q0 (i:Int))]) ⟨0,aD,rfl,fun j h=>aD,rfl⟩ ?_;rintro n _ H ⟨i,N,O,o,rfl⟩;simp only[XU,XH];by_cases z:(i:Int) < (ae a.aM:Int)
 .have A:au .i64 ((i:Int)+1)=((i+1:Nat):Int):=by rw[wrap_i64 aD aD];rfl
  have r:af a.aM i ah∈a.aM:=bS aD;obtain ⟨fg,fa,B⟩:=W.Lb _ r;have f:∀{H:aE},ug a.bt (ae a.aL) (af a.aM i ah)=ar->Fin 0 (.v0 ar) H (.v0 (eF a)) []:=fun h=>bad (NO r h);have g:ug a.bt (ae a.aL) (af a.aM i ah)=aq->∀j,j < i+1->ug a.bt (ae a.aL) (af a.aM j ah)=aq:=jK o;generalize L:af a.aM i ah=x at *;have w:ug a.bt (ae a.aL) x=(decide (0<=x.cQ/\x.cQ < ae a.aL/\0<=x.to/\x.to < ae a.aL/\0<=x.label/\x.label<=20)&&(qi a.bt x.guard&&(decide ((ae x.de:Int)=a.bt)&&x.de.all (pO a.bt)))):=rfl;refine Z2 z L ?_;refine ⟨aD,aG (yb a x.cQ) rfl rfl ?_⟩;by_cases K:0<=x.cQ/\x.cQ < (ae a.aL:Int);rotate_left
  .rw[Xx K];refine Z0 ?_;exact f (by rw[w,Xx aD];rfl)
  rw[XB K];refine Z0 ?_;refine aG (yb a x.to) rfl rfl ?_;by_cases g2:0<=x.to/\x.to < (ae a.aL:Int);rotate_left
  .rw[Xx g2];refine Z0 ?_;exact f (by rw[w,Xx aD];rfl)
  rw[XB g2];by_cases R:x.label < 0
  .refine Z1 R ?_;exact f (by rw[w,Xx aD];rfl)
  by_cases g4:20 < x.label
  .refine Z2 R g4 ?_;exact f (by rw[w,Xx aD];rfl)
  refine Z2 R g4 ?_;refine aG (vJ a.bt x.guard fg) rfl rfl ?_;cases m:qi a.bt x.guard with
  | false =>
   refine Z0 ?_;exact f (by rw[w,m];simp)
  | true =>
   by_cases p:(ae x.de:Int)=a.bt;rotate_left
   .have s:((ae x.de:Int)=a.bt)=False:=Xh p;refine Z1 s ?_;exact f (by rw[w,Xx p];simp)
   have s:((ae x.de:Int)=a.bt)=True:=XO p;refine Z1 s ?_;have hF:ug a.bt (ae a.aL) x=x.de.all (pO a.bt):=by rw[w,m,XB aD,XB p];rfl
   refine bE (fun k e G=>∃j:Nat,j<=ae x.de/\k=ae x.de - j/\(∀q,q < j->pO a.bt (af x.de q ah)=aq) /\
    e=EA a++[(47,.seq 6 ar (a.aM.map fQ)),(48,.q0 (ae a.aM:Int)),(49,.q0 (i:Int)),(90,.seq 4 ar (x.de.map mr)),(91,.q0 (ae x.de:Int)),(92,.q0 (j:Int))]) ⟨0,aD,rfl,fun j h=>aD,rfl⟩ ?_;rintro k _ G ⟨j,hj,hk,F,rfl⟩;simp only[XU,XH];by_cases I:(j:Int) < (ae x.de:Int)
   .have e2:au .i64 ((j:Int)+1)=((j+1:Nat):Int):=by rw[wrap_i64 aD aD];rfl
    have J:af x.de j ah∈x.de:=bS aD;have U:=jK F;have a0:=B _ J;generalize hy:af x.de j ah=y at *;refine Y2 I hy ?_;refine ⟨aD,aG (Fv a.bt y a0) rfl rfl ?_⟩;cases D:pO a.bt y with
    | false =>
     refine Z0 ?_;exact f (by rw[hF];exact Ye.2 ⟨y,J,by rw[D];decide⟩)
    | true =>
     refine Z1 e2 ?_;exact ⟨ae x.de - (j+1),aD,j+1,aD,rfl,U (by rw[D]),rfl⟩
   .refine Y2 I A ?_;exact ⟨ae a.aM - (i+1),aD,i+1,aD,rfl,g (by rw[hF];exact gW (d:=ah) (fun q hq=>F q aD)),rfl⟩
 have b:i=ae a.aM:=aD;have hJ:∀j,j < ae a.aM->ug a.bt (ae a.aL) (af a.aM j ah)=aq:=by rw[<-b];exact o
 clear o N O;refine Y1 z ?_;refine bE (fun n e H=>∃i:Nat,i<=ae a.init/\n=ae a.init - i/\(∀j,j < i->wh a.bt (ae a.aL) (af a.init j ah)=aq) /\
  e=EA a++[(103,.seq 3 ar (a.init.map jx)),(104,.q0 (ae a.init:Int)),(105,.q0 (i:Int))]) ⟨0,aD,rfl,fun j h=>aD,rfl⟩ ?_;clear z b i;rintro n2 _ H ⟨i,N,O,o,rfl⟩;simp only[XU,XH];by_cases z:(i:Int) < (ae a.init:Int)
 .have A:au .i64 ((i:Int)+1)=((i+1:Nat):Int):=by rw[wrap_i64 aD aD];rfl
  have r:af a.init i ah∈a.init:=bS aD;have B:=W.BV _ r;have f:∀{H:aE},wh a.bt (ae a.aL) (af a.init i ah)=ar->Fin 0 (.v0 ar) H (.v0 (eF a)) []:=fun h=>bad (NN r h);have g:wh a.bt (ae a.aL) (af a.init i ah)=aq->∀j,j < i+1->wh a.bt (ae a.aL) (af a.init j ah)=aq:=jK o;generalize L:af a.init i ah=x at *;have w:wh a.bt (ae a.aL) x=(decide (0<=x.loc/\x.loc < ae a.aL)&&qi a.bt x.set):=rfl;refine Z2 z L ?_;refine ⟨aD,aG (yb a x.loc) rfl rfl ?_⟩;by_cases K:0<=x.loc/\x.loc < (ae a.aL:Int);rotate_left
  .rw[Xx K];refine Z0 ?_;exact f (by rw[w,Xx aD];rfl)
  rw[XB K];refine Z0 ?_;refine aG (vJ a.bt x.set B) rfl rfl ?_;cases m:qi a.bt x.set with
  | false =>
   refine Z0 ?_;exact f (by rw[w,m];simp)
  | true =>
   refine Z1 A ?_;exact ⟨ae a.init - (i+1),aD,i+1,aD,rfl,g (by rw[w,m,XB K];rfl),rfl⟩
 have b:i=ae a.init:=aD;have hI:∀j,j < ae a.init->wh a.bt (ae a.aL) (af a.init j ah)=aq:=by rw[<-b];exact o
 clear o N O;refine Y1 z ?_;refine bE (fun n e H=>∃i:Nat,i<=ae a.aL/\n=ae a.aL - i/\(∀j,j < i->wc a.bt (af a.aL j ah)=aq) /\
  e=[(3,.q0 a.bt),(123,.seq 4 ar (a.aL.map kP)),(124,.q0 (ae a.aL:Int)),(125,.q0 (i:Int))]) ⟨0,aD,rfl,fun j h=>aD,rfl⟩ ?_;clear z b i;rintro n3 _ H ⟨i,N,O,o,rfl⟩;by_cases z:(i:Int) < (ae a.aL:Int)
 .have A:au .i64 ((i:Int)+1)=((i+1:Nat):Int):=by rw[wrap_i64 aD aD];rfl
  have r:af a.aL i ah∈a.aL:=bS aD;obtain ⟨B,fy⟩:=W.BZ _ r;have f:∀{H:aE},wc a.bt (af a.aL i ah)=ar->Fin 0 (.v0 ar) H (.v0 (eF a)) []:=fun h=>bad (NP r h);have g:wc a.bt (af a.aL i ah)=aq->∀j,j < i+1->wc a.bt (af a.aL j ah)=aq:=jK o;generalize L:af a.aL i ah=x at *;have w:wc a.bt x=(qi a.bt x.inv&&(qi a.bt x.eb&&kO (az a.bt) x.eb.l)):=rfl;refine Y2 z L ?_;refine ⟨aD,aG (vJ a.bt x.inv B) rfl rfl ?_⟩;cases m:qi a.bt x.inv with
  | false =>
   refine Z0 ?_;exact f (by rw[w,m];rfl)
  | true =>
   refine Z0 ?_;refine aG (vJ a.bt x.eb fy) rfl rfl ?_;cases p:qi a.bt x.eb with
   | false =>
    refine Z0 ?_;exact f (by rw[w,m,p];rfl)
   | true =>
    obtain ⟨D,g8⟩:=oR.1 p;have hd:a.bt=(az a.bt:Int):=aD;have T:a9 prog 43 [.q0 a.bt,.seq 6 ar (x.eb.l.map fun c=>bT c.dj)] (.v0 (kO (az a.bt) x.eb.l)):=by have g9:=D;rw[hd] at g9;have:=Pf (gL.of g9);rw[<-hd] at this;exact this
    refine Z0 ?_;refine cX (vK x.eb.n x.eb.l (by have:=fy.1;omega) (Gu D)) ?_;refine Y ?_;refine aG T ?_ rfl ?_
    .simp only[Yu,Zv,X4];rfl
    cases C:kO (az a.bt) x.eb.l with
    | false =>
     refine Z0 ?_;exact f (by rw[w,m,p,C];rfl)
    | true =>
     refine Z1 A ?_;exact ⟨ae a.aL - (i+1),aD,i+1,aD,rfl,g (by rw[w,m,p,C];rfl),rfl⟩
 have b:i=ae a.aL:=aD;have hL:∀j,j < ae a.aL->wc a.bt (af a.aL j ah)=aq:=by rw[<-b];exact o
 refine Y1 z ?_;exact aV (by rw[NM V hL hJ hI]) rfl
def Fw (x:Int) (ps:List Pl) (b:Bool) (R:ae ps < 9223372036854775808) (J:∀p,p∈ps->ae p.l < 9223372036854775808) :
  a9 prog 31 [.q0 x,.seq 2 b (ps.map Bg)] (.v0 (ps.all (Pl.fE x))):=by
 refine pw func31 ?_;refine Y ?_;refine bE (fun n e H=>∃i:Nat,i<=ae ps/\n=ae ps - i/\(∀j,j < i->(af ps j ah).fE x=aq) /\
  e=[(0,.q0 x),(9,.seq 2 b (ps.map Bg)),(10,.q0 (ae ps:Int)),(11,.q0 (i:Int))]) ⟨0,aD,rfl,fun j h=>aD,rfl⟩ ?_;rintro n _ H ⟨i,O,S,E,rfl⟩;by_cases w:(i:Int) < (ae ps:Int)
 .have D:=ws i;have F:af ps i ah∈ps:=bS aD;have M:=J _ F;have N:(af ps i ah).fE x=ar->ps.all (Pl.fE x)=ar:=fun h=>Ye.2 ⟨_,F,by rw[h];decide⟩;generalize r:af ps i ah=p at *;have y:∀{H:aE},p.fE x=ar->Fin 0 (.v0 ar) H (.v0 (ps.all (Pl.fE x))) []:=fun h=>aV (by rw[N h]) rfl;have I:∀G:aE,p.fE x=aq->∃m,m < n/\∃W:Nat,W<=ae ps/\m=ae ps - W/\(∀j,j < W->(af ps j ah).fE x=aq) /\
    ([(0,.q0 x),(9,.seq 2 b (ps.map Bg)),(10,.q0 (ae ps:Int)),(11,.q0 ((i+1:Nat):Int))]:Env)=[(0,.q0 x),(9,.seq 2 b (ps.map Bg)),(10,.q0 (ae ps:Int)),(11,.q0 (W:Int))]:=fun _ h=>by
   refine ⟨ae ps - (i+1),aD,i+1,aD,rfl,fun j B=>?_,rfl⟩;rcases Xe j i with a | a
   .exact E j a
   .rw[show j=i by omega,r];exact h
  by_cases a:x < (ae p.l:Int)
  .by_cases s:(ae p.l:Int)<=120
   .refine Y4 w r a s ?_;exact ⟨aD,y (by unfold Pl.fE;rw[XB a,XB s];rfl)⟩
   by_cases g:140 < (ae p.l:Int)
   .refine Z5 w r a s g ?_;exact ⟨aD,y (by unfold Pl.fE;rw[XB g];simp)⟩
   have X:p.fE x=p.l.all fun c=>decide ((ae c.f.c:Int)<=40):=by unfold Pl.fE;rw[Xx s,Xx g];simp
   refine Z5 w r a s g ?_;refine ⟨aD,?_⟩;refine bE (fun k e G=>∃j:Nat,j<=ae p.l/\k=ae p.l - j/\(∀q,q < j->decide (((af p.l q ah).f.c.length:Int)<=40)=aq) /\
    e=[(0,.q0 x),(9,.seq 2 b (ps.map Bg)),(10,.q0 (ae ps:Int)),(11,.q0 (i:Int)),(33,.seq 3 ar (p.l.map cC)),(34,.q0 (ae p.l:Int)),(35,.q0 (j:Int))]) ⟨0,aD,rfl,fun j h=>aD,rfl⟩ ?_;rintro k _ G ⟨j,B,L,K,rfl⟩;by_cases z:(j:Int) < (ae p.l:Int)
   .have A:=ws j;have o:af p.l j ah∈p.l:=bS aD;by_cases t:(40:Int) < ((af p.l j ah).f.c.length:Int)
    .refine Y2 z t ?_;exact ⟨aD,y (by rw[X];exact Ye.2 ⟨_,o,by rw[Xx (by omega)];decide⟩)⟩
    .refine Y3 z t A ?_;refine ⟨aD,ae p.l - (j+1),aD,j+1,aD,rfl,fun q C=>?_,rfl⟩;rcases Xe q j with v | v
     .exact ZI (K q v)
     .rw[show q=j by omega];omega
   .refine Y2 z D ?_;exact I G (by rw[X];exact gW (d:=ah) (fun q C=>K q aD))
  by_cases g:140 < (ae p.l:Int)
  .refine Z4 w r a g ?_;exact ⟨aD,y (by unfold Pl.fE;rw[XB g];simp)⟩
  have X:p.fE x=p.l.all fun c=>decide ((ae c.f.c:Int)<=40):=by unfold Pl.fE;rw[Xx a,Xx g];simp
  refine Z4 w r a g ?_;refine ⟨aD,?_⟩;refine bE (fun k e G=>∃j:Nat,j<=ae p.l/\k=ae p.l - j/\(∀q,q < j->decide (((af p.l q ah).f.c.length:Int)<=40)=aq) /\
   e=[(0,.q0 x),(9,.seq 2 b (ps.map Bg)),(10,.q0 (ae ps:Int)),(11,.q0 (i:Int)),(33,.seq 3 ar (p.l.map cC)),(34,.q0 (ae p.l:Int)),(35,.q0 (j:Int))]) ⟨0,aD,rfl,fun j h=>aD,rfl⟩ ?_;rintro k _ G ⟨j,B,L,K,rfl⟩;by_cases z:(j:Int) < (ae p.l:Int)
  .have A:=ws j;have o:af p.l j ah∈p.l:=bS aD;by_cases t:(40:Int) < ((af p.l j ah).f.c.length:Int)
   .refine Y2 z t ?_;exact ⟨aD,y (by rw[X];exact Ye.2 ⟨_,o,by rw[Xx (by omega)];decide⟩)⟩
   .refine Y3 z t A ?_;refine ⟨aD,ae p.l - (j+1),aD,j+1,aD,rfl,fun q C=>?_,rfl⟩;rcases Xe q j with v | v
    .exact ZI (K q v)
    .rw[show q=j by omega];omega
  .refine Y2 z D ?_;exact I G (by rw[X];exact gW (d:=ah) (fun q C=>K q aD))
 .refine Y1 w ?_;exact aV (by rw[gW (d:=ah) (fun j B=>E j (by omega))]) rfl
def eZ (a:Au):Bool:=decide (ae a.aL<=20/\ae a.aM<=50/\ae a.init<=20) &&
 (a.aL.all (fun x=>x.inv.fE 8&&x.eb.fE 8)&&(a.aM.all (fun x=>x.guard.fE 8&&(decide (ae x.de<=20)&&x.de.all fun y=>decide (ae y.f.c<=20)))&&a.init.all (fun z=>z.set.fE 8)))
structure AuL (a:Au):Prop where
 aL:a.aL.length < 9223372036854775808
 aM:a.aM.length < 9223372036854775808
 init:a.init.length < 9223372036854775808
 BZ:∀x,x∈a.aL->x.inv.l.length < 9223372036854775808/\x.eb.l.length < 9223372036854775808
 Lb:∀x,x∈a.aM->x.guard.l.length < 9223372036854775808/\x.de.length < 9223372036854775808/\∀y,y∈x.de->y.f.c.length < 9223372036854775808
 BV:∀x,x∈a.init->x.set.l.length < 9223372036854775808
abbrev zp (x:Lc):Bool:=x.inv.fE 8&&x.eb.fE 8
abbrev Cw (y:As):Bool:=decide (ae y.f.c<=20)
abbrev sD (x:Jp):Bool:=x.guard.fE 8&&(decide (ae x.de<=20)&&x.de.all Cw)
abbrev zq (z:Zn):Bool:=z.set.fE 8
def pz (a:Au):eZ a=(decide (ae a.aL<=20/\ae a.aM<=50/\ae a.init<=20)&&(a.aL.all zp&&(a.aM.all sD&&a.init.all zq))):=rfl
def Nc (k:x∈a.aL) (h:zp x=ar):eZ a=ar:=by
 have:a.aL.all zp=ar:=by rw[Ye];exact ⟨x,k,by rw[h];decide⟩
 rw[pz,this];simp
def Nb (k:x∈a.aM) (h:sD x=ar):eZ a=ar:=by
 have:a.aM.all sD=ar:=by rw[Ye];exact ⟨x,k,by rw[h];decide⟩
 rw[pz,this];simp
def Na (k:x∈a.init) (h:zq x=ar):eZ a=ar:=by
 have:a.init.all zq=ar:=by rw[Ye];exact ⟨x,k,by rw[h];decide⟩
 rw[pz,this];simp
def FA (a:Au) (v:AuL a):a9 prog 14 [.agg (e9 a)] (.v0 (eZ a)):=by
 refine pw func14 ?_;have bad:∀{H:aE},eZ a=ar->Fin 0 (.v0 ar) H (.v0 (eZ a)) []:=fun h=>aV (by rw[h]) rfl;have E:∀{H:aE},¬(ae a.aL<=20/\ae a.aM<=50/\ae a.init<=20)->Fin 0 (.v0 ar) H (.v0 (eZ a)) []:=fun h=>bad (by rw[pz,Xx h];rfl);have l0:=v.aL;have j0:=v.aM;have i0:=v.init;by_cases B:20 < (ae a.aL:Int)
 .refine Z1 B ?_;exact E aD
 by_cases F:50 < (ae a.aM:Int)
 .refine Z2 B F ?_;exact E aD
 by_cases O:20 < (ae a.init:Int)
 .refine Z3 B F O ?_;exact E aD
 have L:ae a.aL<=20/\ae a.aM<=50/\ae a.init<=20:=aD;refine Z3 B F O ?_;refine bE (fun n e H=>∃i:Nat,i<=ae a.aL/\n=ae a.aL - i/\(∀j,j < i->zp (af a.aL j ah)=aq) /\
  e=[(1,.fp (e9 a) 0),(28,.seq 4 ar (a.aL.map kP)),(29,.q0 (ae a.aL:Int)),(30,.q0 (i:Int))]) ⟨0,aD,rfl,fun j h=>aD,rfl⟩ ?_;rintro n _ H ⟨i,C,D,l,rfl⟩;by_cases z:(i:Int) < (ae a.aL:Int)
 .have K:=ws i;have o:af a.aL i ah∈a.aL:=bS aD;have ⟨A,fy⟩:=v.BZ _ o;have s:∀{H:aE},zp (af a.aL i ah)=ar->Fin 0 (.v0 ar) H (.v0 (eZ a)) []:=fun h=>bad (Nc o h);have g:zp (af a.aL i ah)=aq->∀j,j < i+1->zp (af a.aL j ah)=aq:=jK (p:=zp) l;generalize W:af a.aL i ah=x at *;have wp:=Fw 8 [x.inv,x.eb] aq aK (fun p r=>by
   simp only[X3,Yb,ZB] at r;rcases r with rfl | rfl
   .exact A
   .exact fy);have w:[x.inv,x.eb].all (Pl.fE 8)=(x.inv.fE 8&&(x.eb.fE 8&&aq)):=rfl;rw[w,X4] at wp;refine Z2 z W ?_;refine ⟨aD,rfl,aG wp rfl rfl ?_⟩;cases m:x.inv.fE 8&&x.eb.fE 8 with
  | false =>
   refine Z0 ?_;exact s m
  | true =>
   refine Z1 K ?_;exact ⟨ae a.aL - (i+1),aD,i+1,aD,rfl,g m,rfl⟩
 have b:i=ae a.aL:=aD;have hL:∀j,j < ae a.aL->zp (af a.aL j ah)=aq:=by rw[<-b];exact l
 clear l C D;refine Y1 z ?_;refine bE (fun n e H=>∃i:Nat,i<=ae a.aM/\n=ae a.aM - i/\(∀j,j < i->sD (af a.aM j ah)=aq) /\
  e=[(1,.fp (e9 a) 0),(43,.seq 6 ar (a.aM.map fQ)),(44,.q0 (ae a.aM:Int)),(45,.q0 (i:Int))]) ⟨0,aD,rfl,fun j h=>aD,rfl⟩ ?_;clear z b i;rintro n2 _ H ⟨i,C,D,l,rfl⟩;by_cases z:(i:Int) < (ae a.aM:Int)
 .have K:=ws i;have o:af a.aM i ah∈a.aM:=bS aD;have ⟨V,fa,A⟩:=v.Lb _ o;have s:∀{H:aE},sD (af a.aM i ah)=ar->Fin 0 (.v0 ar) H (.v0 (eZ a)) []:=fun h=>bad (Nb o h);have g:sD (af a.aM i ah)=aq->∀j,j < i+1->sD (af a.aM j ah)=aq:=jK (p:=sD) l;generalize W:af a.aM i ah=x at *;have wp:=Fw 8 [x.guard] aq aK (fun p r=>by simp only[X3,Yb,ZB] at r;rw[r];exact V);have w:[x.guard].all (Pl.fE 8)=(x.guard.fE 8&&aq):=rfl;rw[w,X4] at wp;refine Z2 z W ?_;refine ⟨aD,rfl,aG wp rfl rfl ?_⟩;cases m:x.guard.fE 8 with
  | false =>
   refine Z0 ?_;exact s (by unfold sD;rw[m];rfl)
  | true =>
   by_cases M:20 < (ae x.de:Int)
   .refine Z1 M ?_;exact s (by unfold sD;rw[Xx (show ¬ae x.de<=20 by omega)];simp)
   refine Z1 M ?_;have R:sD x=x.de.all Cw:=by unfold sD;rw[m,XB (show ae x.de<=20 by omega)];rfl
   refine bE (fun k e G=>∃j:Nat,j<=ae x.de/\k=ae x.de - j/\(∀q,q < j->Cw (af x.de q ah)=aq) /\
    e=[(1,.fp (e9 a) 0),(43,.seq 6 ar (a.aM.map fQ)),(44,.q0 (ae a.aM:Int)),(45,.q0 (i:Int)),(61,.seq 4 ar (x.de.map mr)),(62,.q0 (ae x.de:Int)),(63,.q0 (j:Int))]) ⟨0,aD,rfl,fun j h=>aD,rfl⟩ ?_;rintro k _ G ⟨j,hj,hk,X,rfl⟩;by_cases t:(j:Int) < (ae x.de:Int)
   .have U:=ws j;have I:af x.de j ah∈x.de:=bS aD;have J:Cw (af x.de j ah)=aq->∀q,q < j+1->Cw (af x.de q ah)=aq:=jK (p:=Cw) X;generalize T:af x.de j ah=y at *;by_cases N:20 < (ae y.f.c:Int)
    .refine Y3 t T N ?_;exact ⟨aD,s (by rw[R];exact Ye.2 ⟨y,I,by unfold Cw;rw[Xx (show ¬ae y.f.c<=20 by omega)];decide⟩)⟩
    .refine Y4 t T N U ?_;exact ⟨aD,ae x.de - (j+1),aD,j+1,aD,rfl,fun q S=>ZI (J (XB aD) q S),rfl⟩
   .refine Y2 t K ?_;exact ⟨ae a.aM - (i+1),aD,i+1,aD,rfl,g (by rw[R];exact gW (p:=Cw) (d:=ah) (fun q S=>X q aD)),rfl⟩
 have b:i=ae a.aM:=aD;have hJ:∀j,j < ae a.aM->sD (af a.aM j ah)=aq:=by rw[<-b];exact l
 clear l C D;refine Y1 z ?_;refine bE (fun n e H=>∃i:Nat,i<=ae a.init/\n=ae a.init - i/\(∀j,j < i->zq (af a.init j ah)=aq) /\
  e=[(75,.seq 3 ar (a.init.map jx)),(76,.q0 (ae a.init:Int)),(77,.q0 (i:Int))]) ⟨0,aD,rfl,fun j h=>aD,rfl⟩ ?_;clear z b i;rintro n3 _ H ⟨i,C,D,l,rfl⟩;by_cases z:(i:Int) < (ae a.init:Int)
 .have K:=ws i;have o:af a.init i ah∈a.init:=bS aD;have A:=v.BV _ o;have s:∀{H:aE},zq (af a.init i ah)=ar->Fin 0 (.v0 ar) H (.v0 (eZ a)) []:=fun h=>bad (Na o h);have g:zq (af a.init i ah)=aq->∀j,j < i+1->zq (af a.init j ah)=aq:=jK (p:=zq) l;generalize W:af a.init i ah=x at *;have wp:=Fw 8 [x.set] aq aK (fun p r=>by simp only[X3,Yb,ZB] at r;rw[r];exact A);have w:[x.set].all (Pl.fE 8)=(x.set.fE 8&&aq):=rfl;rw[w,X4] at wp;refine Z2 z W ?_;refine ⟨aD,rfl,aG wp rfl rfl ?_⟩;cases m:x.set.fE 8 with
  | false =>
   refine Z0 ?_;exact s m
  | true =>
   refine Z1 K ?_;exact ⟨ae a.init - (i+1),aD,i+1,aD,rfl,g m,rfl⟩
 have b:i=ae a.init:=aD;have hI:∀j,j < ae a.init->zq (af a.init j ah)=aq:=by rw[<-b];exact l
 refine Y1 z ?_;exact aV (by rw[pz,XB L,gW (p:=zp) hL,gW (p:=sD) hJ,gW (p:=zq) hI];rfl) rfl
section
variable {H G:aE} {d:Int} {vl vi vj vp:AV} {L:List Lc} {Z:List Zn} {M:JmP}
end
section
variable {H:aE} {a b:Au} {m k:Nat} {l:List Int} {fl:Bool} {vl vi vj vp:AV}
def nh {n:Nat} {l:List Cd} (h:jw n l=aq):kT l:=⟨by have:=(lP.1 h).1.2.2;omega,fun c x=>by have:=tQ h c x;have:=(lP.1 h).1;omega⟩
end
section
variable {H H2:aE} {a b:Au} {m k:Nat} {l:List Int} {fl:Bool} {vl vi vj vp va:AV}
def Gf {n:Nat} {l:List As} (h:∀y,y∈l->pO n y=aq) (z:n<=8):∀y,y∈l->ae y.f.c < 1000000:=fun y x=>by
 have:=h y x;unfold pO at this;split at this
 .rw[WZ] at this;have:=(yG.1 this.1).1;omega
 .have:=(ZI this).2.1;omega
def AP (n:Nat):(aA n (⟨0,⟨[],0⟩,0⟩:As)).map mr=(aA n AO).map mr:=rfl
end
section
variable {H:aE} {a b:Au} {m k:Nat} {l:List Int} {fl:Bool}
end
def Mt {p:Pl} (h:p.fE 8=aq):ae p.l<=140/\(ae p.l<=8\/120 < ae p.l)/\∀c,c∈p.l->ae c.f.c<=40:=by unfold Pl.fE at h;simp only[WZ,Yd,abM,Bool.and_eq_false_iff,YI,W6,Xm] at h;have ⟨⟨y,z⟩,k⟩:=h;refine ⟨aD,aD,fun c x=>dp (k c x)⟩
def Bh {p:Pl} (h:p.fE 8=aq):kT p.l:=by have ⟨y,z,k⟩:=Mt h;exact ⟨aD,fun c x=>dp (k c x)⟩
def Cu (h:eZ a=aq):(ae a.aL<=20/\ae a.aM<=50/\ae a.init<=20)/\(∀x,x∈a.aL->x.inv.fE 8=aq/\x.eb.fE 8=aq) /\
  (∀x,x∈a.aM->x.guard.fE 8=aq/\ae x.de<=20/\∀y,y∈x.de->ae y.f.c<=20)/\(∀z,z∈a.init->z.set.fE 8=aq):=by unfold eZ at h;simp only[WZ,Xm,W6] at h;exact h
def yp {a:Au} (h:eZ a=aq):AuS a:=by have ⟨e,w,z,b⟩:=Cu h;exact ⟨aD,aD,aD,fun x k=>⟨Bh (w x k).1,Bh (w x k).2⟩,fun x k=>⟨Bh (z x k).1,dp ((z x k).2.1),fun y c=>dp ((z x k).2.2 y c)⟩,fun x k=>Bh (b x k)⟩
def rj (h:eZ a=aq) (y:VA0 a m):uB a 60:=by
 have ⟨i,w,c,e⟩:=Cu h;have key:∀p:Pl,p.fE 8=aq->jw m p.l=aq->ae p.l<=60:=fun p g f=>by have:=(Mt g).2.1;have:=(lP.1 f).1;omega
 exact ⟨fun x k=>⟨key _ (w x k).1 (y.loc x k).1.1,key _ (w x k).2 (y.loc x k).2.1.1⟩,fun x k=>key _ (c x k).1 (y.jmp x k).2.1.1,fun z b=>key _ (e z b) (y.xz z b).2.1⟩
def VA0.Oh (h:VA0 a m):qT a m:=by
 have b:=h.m4;have c:=h.AQ;have e:=h.Mm;have f:=h.i12;refine ⟨h.bt,aD,aD,fun x k=>⟨nh (h.loc x k).1.1,nh (h.loc x k).2.1.1⟩,aD,⟨⟨aD,fun x k=>?_⟩,aD,fun x k=>?_⟩,aD,fun x k=>?_⟩
 .have ⟨_,⟨y,_⟩,z,w⟩:=h.jmp x k;exact ⟨aD,Gf w aD,nh y⟩
 .have ⟨g,_⟩:=h.jmp x k;exact ⟨⟨g.1,aD⟩,g.2.2.1,aD⟩
 .have ⟨y,z,w⟩:=h.xz x k;exact ⟨nh z,y.1,aD⟩
def JE {a b:Au} {m k:Nat} (y:VA0 a m) (z:VA0 b k) (j:uB a 60) (n:uB b 60) (l:List Int) (f:m+k<=4):AuS (da a b m k l):=by have ⟨w,g,i⟩:=EV (l:=l) y z j n f;have p:(da a b m k l).aL.length=ae a.aL*ae b.aL:=mD a b m k;have q:(da a b m k l).init.length=ae a.init*ae b.init:=tk a b m k;have r:(da a b m k l).aM.length=ae (bQ a b l):=W4 ..;have s:ae a.aL*ae b.aL<=12*12:=ZD y.AQ z.AQ;have t:ae a.init*ae b.init<=12*12:=ZD y.i12 z.i12;have v:=Jf y z l;refine ⟨aD,aD,aD,fun x h=>⟨nh (w x h).1.1,nh (w x h).2.1.1⟩,fun x h=>?_,fun x h=>nh (i x h).2.1⟩;have ⟨_,⟨c,_⟩,o,e⟩:=g x h;exact ⟨nh c,aD,Gf e aD⟩
def FI:Au:=⟨0,[],[],[]⟩
noncomputable def m7 (a b:Au) (l:List Int):Au × List (Int × Int) × Int :=
 if eF a=aq/\eF b=aq then
  if sF l=aq then
   if fZ a b (az a.bt) (az b.bt) l=aq/\eF (da a b (az a.bt) (az b.bt) l)=aq then (da a b (az a.bt) (az b.bt) l,(bQ a b l).map iK,0) else (FI,[],3)
  else (FI,[],6)
 else (FI,[],1)
def IK (a b:Au) (l:List Int) (fl:Bool) (x:Au × List (Int × Int) × Int):AV := .bI [.agg (eU a b l fl),.agg (e9 x.1),.seq 2 ar (x.2.1.map eu),.c (.int .i64 x.2.2)]
def IL (h:o=(FI,[],e)) :
  Fin 0 (.bI [.agg (eU a b l fl),.agg [.q0 0,.nil,.nil,.nil],.nil,.q0 e]) H (IK a b l fl o) []:=by rw[h];exact (mO (m:=0) (WY _) aK rfl).trans (sC (xZ (.cons (bg.refl _) (.cons (pN (.cons (bg.refl _) (.cons (dX 4) (.cons (dX 6) (.cons (dX 3) .nil))))) (.cons (dX 2) (.cons (bg.refl _) .nil))))))
def Ka (a b:Au) (l:List Int) (fl:Bool) (F:eZ a=aq) (G:eZ b=aq) (hl:ae l<=40) :
  a9 prog 16 [.agg (e9 a),.agg (e9 b),.seq 1 fl (jN l)] (IK a b l fl (m7 a b l)):=by
 have T:=yp F;have sb:=yp G;refine pw func16 ?_;refine Z ?_;refine cX (mG a T) ?_;have y:∀{H:aE},¬(eF a=aq/\eF b=aq)->Fin 0 (.bI [.agg (eU a b l fl),.agg [.q0 0,.nil,.nil,.nil],.nil,.q0 1]) H (IK a b l fl (m7 a b l)) []:=fun h=>IL (by unfold m7;rw[WX h]);cases D:eF a with
 | false =>
  refine Z ?_;exact y (fun h=>by rw[D] at h;exact absurd h.1 aS)
 | true =>
  refine Z ?_;refine cX (mG b sb) ?_;cases E:eF b with
  | false =>
   refine Z ?_;exact y (fun h=>by rw[E] at h;exact absurd h.2 aS)
  | true =>
   refine Z ?_;have A:=nZ D;have B:=nZ E;have R:=rj F A;have S:=rj G B;have g:m7 a b l=if sF l=aq then
     if fZ a b (az a.bt) (az b.bt) l=aq/\eF (da a b (az a.bt) (az b.bt) l)=aq then (da a b (az a.bt) (az b.bt) l,(bQ a b l).map iK,0) else (FI,[],3)
    else (FI,[],6):=by unfold m7;rw[W0 ⟨D,E⟩]
   generalize az a.bt=m at *;generalize az b.bt=k at *;have z:∀{H:aE},sF l=ar->Fin 0 (.bI [.agg (eU a b l fl),.agg [.q0 0,.nil,.nil,.nil],.nil,.q0 6]) H (IK a b l fl (m7 a b l)) []:=fun h=>IL (by rw[g,h];rfl);refine bE (fun n e H=>H=[ak (⟨9,0,[[.q0 0,.nil,.nil,.nil,.q0 0,.nil,.nil,.nil,.nil]]⟩:bC),ak ⟨4,0,[[.q0 0,.nil,.nil,.nil]]⟩,ak ⟨9,0,[eU a b l fl]⟩]/\∃i:Nat,i<=ae l/\n=ae l - i/\(∀j,j < i->tj l j=aq) /\
    e=[(6,.ptr 0 0 0 0),(7,.ptr 1 0 0 0),(10,.ptr 2 0 0 0),(11,.q0 (if i=0 then 0 else af l (i - 1) 0)),(31,.seq 1 fl (jN l)),(32,.q0 (ae l:Int)),(33,.q0 (i:Int))]) (n:=ae l) ⟨rfl,0,aD,rfl,fun j h=>aD,rfl⟩ ?_;rintro n _ H ⟨rfl,i,V,hn,K,rfl⟩;by_cases q:(i:Int) < (ae l:Int)
   .have U:=ws i;have w:(ah:Int)=0:=rfl;have M:tj l i=decide (1<=af l i 0/\af l i 0<=20/\(i=0\/af l (i - 1) 0 < af l i 0)):=rfl;have r:i≠0->1<=af l (i - 1) 0:=fun v=>(ZI (K (i - 1) aD)).1;have x:tj l i=ar↔(af l i 0<=(if i=0 then 0 else af l (i - 1) 0)\/20 < af l i 0):=by
     rw[M,YI];by_cases v:i=0
     .rw[W0 v];omega
     .rw[WX v];have:=r v;omega
    have p:(if i+1=0 then (0:Int) else af l (i+1 - 1) 0)=af l i 0:=by rw[WX aD,aaK]
    generalize (if i=0 then (0:Int) else af l (i - 1) 0)=last at *;have step:tj l i=aq->∀j,j < i+1->tj l j=aq:=fun h j O=>by
     rcases Xe j i with s | s
     .exact K j s
     .rw[show j=i by omega];exact h
    by_cases s:af l i 0<=last
    .simp only[go_sem,↓reduceIte,WY,q,w,s,Bq];exact ⟨aD,z (Gn aD (x.2 (Or.inl s)))⟩
    by_cases I:20 < af l i 0
    .simp only[go_sem,↓reduceIte,WY,q,w,s,I,Bq];exact ⟨aD,z (Gn aD (x.2 (Or.inr I)))⟩
    have C:tj l i=aq:=by
     cases N:tj l i with
     | true=>rfl
     | false=>rcases x.1 N with L | L<;>contradiction
    refine Z ?_;exact ⟨aD,ae l - (i+1),aD,i+1,aD,rfl,step C,by rw[p]⟩
   have W:sF l=aq:=Nj (fun j O=>K j aD);have f:m7 a b l=if fZ a b m k l=aq/\eF (da a b m k l)=aq then (da a b m k l,(bQ a b l).map iK,0) else (FI,[],3):=by rw[g,W0 W]
   clear g K;refine Y1 q ?_;have t:=Kd a b m k l fl A.Oh B.Oh aD (bv:=eF (da a b m k l)) (fun X=>mG _ (JE A B R S l (by unfold fZ at X;simp only[WZ,Xm] at X;exact X.1.1)));have J:(if fZ a b m k l=aq/\eF (da a b m k l)=aq then jd (da a b m k l) ((bQ a b l).map iK) else tK) = .bI [.agg (e9 (m7 a b l).1),.seq 2 ar ((m7 a b l).2.1.map eu),.c (.int .i64 (m7 a b l).2.2)]:=by rw[f];split<;>rfl
   rw[J] at t;generalize m7 a b l=o at *;clear f J;refine cX t ?_;simp only[go_sem,↓reduceIte,WY,Bq];refine mO (m:=0) (WY _) aK rfl
def C5 (a b:Au) (l:List Int) (fl:Bool) (h:eZ a=aq) (k:eZ b=aq) (y:ae l<=40) :
  a9 prog 7 [.agg (e9 a),.agg (e9 b),.seq 1 fl (jN l)] (.bI [.agg (e9 (m7 a b l).1),.c (.int .i64 (m7 a b l).2.2)]):=by have x:=Ka a b l fl h k y;generalize m7 a b l=o at *;refine pw func7 ?_;refine Z ?_;refine cX x ?_;simp only[go_sem,↓reduceIte,WY,IK,Bq];exact mO (m:=0) (WY _) aK rfl
def tF (x a:Int) (e:Bool):Cd:=⟨⟨[x],a⟩,e⟩
def dt:Au:=⟨1,[⟨⟨1,[tF (-1) 10 ar]⟩,⟨1,[tF 1 (-1) ar,tF (-1) 2 ar]⟩⟩,⟨⟨1,[tF 1 0 ar]⟩,⟨1,[tF 1 1 aq]⟩⟩],
 [⟨0,1,0,⟨1,[tF 1 (-8) ar]⟩,[AO]⟩,⟨1,0,0,⟨1,[tF (-1) 2 ar]⟩,[AO]⟩],[⟨0,⟨1,[tF 1 (-5) aq]⟩⟩]⟩
inductive TR (k:Nat):List (List AV)->List (List AV)->Prop
 | nil:TR k [] []
 | cons {x y:List AV} {xs ys:List (List AV)}:iU x y->(y.length=k/\y.all bh=true)->TR k xs ys->TR k (x::xs) (y::ys)
def iU.get (h:iU x y):ae x=ae y/\∀(j:Nat) a b,x[j]?=ak a->y[j]?=ak b->bg a b:=by
 induction h with
 | nil=>exact ⟨rfl,fun j a b h=>by simp at h⟩
 | cons c _ w =>
  refine ⟨by simp[w.1],fun j a b k z=>?_⟩
  match j with
  | 0=>simp at k z;subst k z;exact c
  | j+1=>simp at k z;exact w.2 j a b k z
def TR.l {k:Nat} {xs ys:List (List AV)} (h:TR k xs ys):gY xs ys/\∀y,y∈ys->ae y=k:=by
 induction h with
 | nil=>exact ⟨⟨rfl,fun i x y h=>by simp at h⟩,fun y h=>by simp at h⟩
 | cons b c _ a =>
  refine ⟨⟨by simp[a.1.1],fun i x y w z=>?_⟩,fun y z=>?_⟩
  .match i with
   | 0=>simp at w z;subst w z;exact ⟨b.get.1,c.2,b.get.2⟩
   | i+1=>simp at w z;exact a.1.2 i x y w z
  .rcases X3.1 z with rfl | z
   .exact c.1
   .exact a.2 y z
def LO {k:Nat} {xs ys:List (List AV)} (h:TR k xs ys):bg (.seq k aq xs) (.seq k ar ys):=fun I β v x =>
 xY h.l.1 h.l.2 I β v (x.Kg (.full k xs))
def J9:a9 prog 15 [] (.agg (e9 dt)):=by
 refine pc func15 tE ?_;refine uz ?_;refine Y ?_;refine ⟨rfl,rfl,rfl,rfl,rfl,rfl,aS,rfl,aS,rfl,rfl,rfl,?_⟩;refine (sC ?_).trans (mO (m:=0) (WY _) aK rfl)
 repeat' first
  | exact bg.refl _
  | exact dX _
  | apply pN
  | apply LO
  | exact TR.nil
  | exact iU.nil
  | exact ⟨rfl,rfl⟩
  | apply TR.cons
  | apply iU.cons
def Su (f:Nat->Rat):bR 1 f=f 0:=by
 show (0:Rat)+f 0=f 0
 grind
def ow (x a:Int) (e:Bool) (u:Nat->Rat):(tF x a e).f.val 1 u=(a:Rat)+(x:Rat)*u 0:=by unfold Fm.val;rw[Su];rfl
def Iu:eF dt=aq:=by
 refine VA0.eF (m:=1) ⟨rfl,aS,aS,aS,aS,aS,fun x k=>?_,fun x k=>?_,fun x k=>?_⟩
 .have w:(((1:Int)):Rat)=1:=by rfl
  have h:(((-1:Int)):Rat) = -1:=by rfl
  have e:(((2:Int)):Rat)=2:=by rfl
  simp only[dt,X3,Yb,ZB] at k;rcases k with rfl | rfl
  .refine ⟨⟨aS,rfl⟩,⟨aS,rfl⟩,pB.2 ⟨⟨fun _=>1,fun c a=>?_⟩,fun v hv=>?_⟩⟩
   .simp only[X3,Yb,ZB] at a;rcases a with rfl | rfl
    .show (0:Rat)<=Fm.val _ _ _;rw[ow,w,h];grind
    .show (0:Rat)<=Fm.val _ _ _;rw[ow,e,h];grind
   .have:v=0:=aD;subst this;refine ⟨⟨1,fun u z=>?_⟩,-2,fun u z=>?_⟩
    .have:(0:Rat)<=Fm.val _ 1 u:=z (tF 1 (-1) ar) aK;rw[ow,w,h] at this;grind
    .have:(0:Rat)<=Fm.val _ 1 u:=z (tF (-1) 2 ar) aK;rw[ow,e,h] at this;grind
  .refine ⟨⟨aS,rfl⟩,⟨aS,rfl⟩,pB.2 ⟨⟨fun _ => -1,fun c a=>?_⟩,fun v hv=>?_⟩⟩
   .simp only[X3,Yb,ZB] at a;rw[a];show Fm.val _ _ _=(0:Rat);rw[ow,w];grind
   .have:v=0:=aD;subst this;refine ⟨⟨-1,fun u z=>?_⟩,1,fun u z=>?_⟩
    .have:Fm.val _ 1 u=(0:Rat):=z (tF 1 1 aq) aK;rw[ow,w] at this;grind
    .have:Fm.val _ 1 u=(0:Rat):=z (tF 1 1 aq) aK;rw[ow,w] at this;grind
 .simp only[dt,X3,Yb,ZB] at k;rcases k with rfl | rfl
  .exact ⟨aS,⟨aS,rfl⟩,rfl,fun y b=>by simp only[X3,Yb,ZB] at b;rw[b];rfl⟩
  .exact ⟨aS,⟨aS,rfl⟩,rfl,fun y b=>by simp only[X3,Yb,ZB] at b;rw[b];rfl⟩
 .simp only[dt,X3,Yb,ZB] at k;rw[k];exact ⟨aS,aS,rfl⟩
def MZ:m7 dt dt []=(da dt dt 1 1 [],(bQ dt dt []).map iK,0):=by have v:=Iu;have A:VA0 dt 1:=nZ v;have f:eZ dt=aq:=aS;have s:=rj f A;have h:fZ dt dt 1 1 []=aq:=aS;have hv:=OW A A s s h;unfold m7;rw[W0 ⟨v,v⟩,W0 aS];show (if fZ dt dt 1 1 []=aq/\eF (da dt dt 1 1 [])=aq then _ else _)=_;rw[W0 ⟨h,by rw[hv];decide⟩];rfl
def oT:a9 prog 6 [] (.v0 aq):=by
 refine pw func6 ?_;have f:eZ dt=aq:=aS;have k:=C5 dt dt [] ar f f aS;rw[MZ] at k;have x:(da dt dt 1 1 []).bt=2:=rfl;have a:(da dt dt 1 1 []).aL.length=4:=aS;have b:(da dt dt 1 1 []).aM.length=8:=aS;have c:(da dt dt 1 1 []).init.length=1:=aS;generalize da dt dt 1 1 []=R at *;have h:a9 prog 7 [.agg (e9 dt),.agg (e9 dt),.nil] (.bI [.agg (e9 R),.q0 0]) :=
  bK.Bz k (.cons (bg.refl _) (.cons (bg.refl _) (.cons (dX 1) .nil)));refine Y ?_;refine cY J9 ?_;refine cX J9 ?_;generalize dt=T at *;refine Y ?_;refine cX h ?_;have y:((ae R.aL:Int)=4)=True:=XO aD;have z:((ae R.aM:Int)=8)=True:=XO aD;have w:((ae R.init:Int)=1)=True:=XO aD;refine Z4 x y z w ?_;exact aV rfl rfl
def LY (a b:Au) (l:List Int) (fl:Bool) (k:AuL a) (x:AuL b) (y:ae l < 9223372036854775808) :
  a9 prog 5 [.agg (e9 a),.agg (e9 b),.seq 1 fl (jN l)] (.v0 (eZ a&&(eZ b&&decide (ae l<=40)))):=by
 refine pw func5 ?_;refine Y ?_;refine cX (FA a k) ?_;cases eZ a with
 | false =>
  refine Z0 ?_;exact aV rfl rfl
 | true =>
  refine Y ?_;refine cX (FA b x) ?_;cases eZ b with
  | false =>
   refine Z0 ?_;exact aV rfl rfl
  | true =>
   have e:decide ((ae l:Int)<=40)=decide (ae l<=40):=by congr 1;exact propext ⟨fun h=>aD,fun h=>aD⟩
   refine Z0 ?_;exact aV (by rw[<-e]) rfl
end
section
variable {H:Type} {enc:TypeId × Value->H} {w:World} {sp:Nat->Bool} {held:Bool}
def fi {α:Type} (cs:List α) (o k n:Nat):(cs.drop o).take k++(cs.drop (o+k)).take n=(cs.drop o).take (k+n):=by rw[<-Ya,List.take_add]
def tI:prog.cellsOf 3=1:=by kernel_rfl
def T7:prog.cellsOf 4=1:=by kernel_rfl
def Ro:prog.cellsOf 27=1:=by kernel_rfl
def KK:prog.cellsOf 73=2:=by kernel_rfl
def Oq:prog.cellsOf 80=3:=by kernel_rfl
def Rr:prog.cellsOf 56=1:=by kernel_rfl
def D8:prog.cellsOf 58=2:=by kernel_rfl
def Ol:prog.cellsOf 60=4:=by kernel_rfl
def Rk:prog.cellsOf 22=1:=by kernel_rfl
def Oo:prog.cellsOf 75=4:=by kernel_rfl
def Rs:prog.cellsOf 62=1:=by kernel_rfl
def Om:prog.cellsOf 64=6:=by kernel_rfl
def Rl:prog.cellsOf 23=1:=by kernel_rfl
def On:prog.cellsOf 70=3:=by kernel_rfl
def Rm:prog.cellsOf 24=1:=by kernel_rfl
def Rn:prog.cellsOf 26=4:=by kernel_rfl
def ua:dI prog w enc sp held 3 (fun n:Int=>[.q0 n]) I64:=JI (by kernel_rfl)
def UR:dI prog w enc sp held 4 (fun b:Bool=>[.v0 b]) (fun _=>True):=Ig (by kernel_rfl)
abbrev QI (l:List Int):Prop:=ae l<=maxLen/\∀x,x∈l->I64 x
abbrev QF (f:Fm):Prop:=QI f.c/\I64 f.a
abbrev QC (c:Cd):Prop:=QF c.f
abbrev QP (p:Pl):Prop:=I64 p.n/\(ae p.l<=maxLen/\∀c,c∈p.l->QC c)
abbrev QL (x:Lc):Prop:=QP x.inv/\QP x.eb
abbrev QA (x:As):Prop:=I64 x.kind/\QF x.f/\I64 x.low
abbrev QJ (x:Jp):Prop:=I64 x.cQ/\I64 x.to/\I64 x.label/\QP x.guard/\(ae x.de<=maxLen/\∀y,y∈x.de->QA y)
abbrev QZ (z:Zn):Prop:=I64 z.loc/\QP z.set
abbrev QU (a:Au):Prop:=I64 a.bt/\(ae a.aL<=maxLen/\∀x,x∈a.aL->QL x)/\(ae a.aM<=maxLen/\∀x,x∈a.aM->QJ x)/\(ae a.init<=maxLen/\∀x,x∈a.init->QZ x)
instance:Inhabited Cd:=⟨⟨ah,ar⟩⟩
def OZ:dI prog w enc sp held 27 (fun l:List Int=>[.seq 1 ar (l.map (fun n:Int=>[AV.q0 n]))]) (fun l=>ae l<=maxLen/\∀x,x∈l->I64 x) :=
 jY (e:=3) (by kernel_rfl) tI aS (fun x=>⟨rfl,rfl⟩) ua
def O1:dI prog w enc sp held 73 (fun x:Fm=>fC x) QF:=by intro fuel k x h;have ⟨a,b⟩:=fS Go.Proofs.Tryz.underlying73 h;rw[KK] at a;have ⟨c,n,y⟩:=b 0 _ rfl;change DataW.trod enc prog w 0 sp held c 27 ((k.drop 0).take (prog.cellsOf 27))=ak n at y;rw[Ro] at y;have ⟨l,f,i⟩:=OZ _ _ _ y;have ⟨e,o,z⟩:=b 1 _ rfl;change DataW.trod enc prog w 0 sp held e 3 ((k.drop 1).take (prog.cellsOf 3))=ak o at z;rw[tI] at z;have ⟨m,g,j⟩:=ua _ _ _ z;have R:=(fh i j);rw[fi k 0,Yx,Xq (by rw[a];decide)] at R;exact ⟨⟨l,m⟩,⟨f,g⟩,R⟩
def R7:dI prog w enc sp held 80 (fun x:Cd=>cC x) QC:=by intro fuel k x h;have ⟨a,b⟩:=fS Go.Proofs.Tryz.underlying80 h;rw[Oq] at a;have ⟨c,m,y⟩:=b 0 _ rfl;change DataW.trod enc prog w 0 sp held c 73 ((k.drop 0).take (prog.cellsOf 73))=ak m at y;rw[KK] at y;have ⟨j,f,g⟩:=O1 _ _ _ y;have ⟨e,n,z⟩:=b 1 _ rfl;change DataW.trod enc prog w 0 sp held e 4 ((k.drop 2).take (prog.cellsOf 4))=ak n at z;rw[T7] at z;have ⟨l,o,i⟩:=UR _ _ _ z;have R:=(fh g i);rw[fi k 0,Yx,Xq (by rw[a];decide)] at R;exact ⟨⟨j,l⟩,f,R⟩
def R1:dI prog w enc sp held 56 (fun l:List Cd=>[.seq 3 ar (l.map cC)]) (fun l=>ae l<=maxLen/\∀x,x∈l->QC x) :=
 jY (e:=80) (by kernel_rfl) Oq aS (fun x=>⟨rfl,rfl⟩) R7
def Ie:dI prog w enc sp held 58 (fun x:Pl=>Bg x) QP:=by intro fuel k x h;have ⟨a,b⟩:=fS Go.Proofs.Tryz.underlying58 h;rw[D8] at a;have ⟨c,n,y⟩:=b 0 _ rfl;change DataW.trod enc prog w 0 sp held c 3 ((k.drop 0).take (prog.cellsOf 3))=ak n at y;rw[tI] at y;have ⟨l,f,i⟩:=ua _ _ _ y;have ⟨e,o,z⟩:=b 1 _ rfl;change DataW.trod enc prog w 0 sp held e 56 ((k.drop 1).take (prog.cellsOf 56))=ak o at z;rw[Rr] at z;have ⟨m,g,j⟩:=R1 _ _ _ z;have R:=(fh i j);rw[fi k 0,Yx,Xq (by rw[a];decide)] at R;exact ⟨⟨l,m⟩,⟨f,g⟩,R⟩
def R2:dI prog w enc sp held 60 (fun x:Lc=>kP x) QL:=by intro fuel k x h;have ⟨a,b⟩:=fS Go.Proofs.Tryz.underlying60 h;rw[Ol] at a;have ⟨c,n,y⟩:=b 0 _ rfl;change DataW.trod enc prog w 0 sp held c 58 ((k.drop 0).take (prog.cellsOf 58))=ak n at y;rw[D8] at y;have ⟨l,f,i⟩:=Ie _ _ _ y;have ⟨e,o,z⟩:=b 1 _ rfl;change DataW.trod enc prog w 0 sp held e 58 ((k.drop 2).take (prog.cellsOf 58))=ak o at z;rw[D8] at z;have ⟨m,g,j⟩:=Ie _ _ _ z;have R:=(fh i j);rw[fi k 0,Yx,Xq (by rw[a];decide)] at R;exact ⟨⟨l,m⟩,⟨f,g⟩,R⟩
def RV:dI prog w enc sp held 22 (fun l:List Lc=>[.seq 4 ar (l.map kP)]) (fun l=>ae l<=maxLen/\∀x,x∈l->QL x) :=
 jY (e:=60) (by kernel_rfl) Ol aS (fun x=>⟨rfl,rfl⟩) R2
def R6:dI prog w enc sp held 75 (fun x:As=>mr x) QA:=by intro fuel k x h;have ⟨c,b⟩:=fS Go.Proofs.Tryz.underlying75 h;rw[Oo] at c;have ⟨e,s,y⟩:=b 0 _ rfl;change DataW.trod enc prog w 0 sp held e 3 ((k.drop 0).take (prog.cellsOf 3))=ak s at y;rw[tI] at y;have ⟨p,i,m⟩:=ua _ _ _ y;have ⟨f,t,z⟩:=b 1 _ rfl;change DataW.trod enc prog w 0 sp held f 73 ((k.drop 1).take (prog.cellsOf 73))=ak t at z;rw[KK] at z;have ⟨q,j,n⟩:=O1 _ _ _ z;have ⟨g,v,a⟩:=b 2 _ rfl;change DataW.trod enc prog w 0 sp held g 3 ((k.drop 3).take (prog.cellsOf 3))=ak v at a;rw[tI] at a;have ⟨r,l,o⟩:=ua _ _ _ a;have R:=(fh (fh m n) o);rw[fi k 0,fi k 0,Yx,Xq (by rw[c];decide)] at R;exact ⟨⟨p,q,r⟩,⟨i,j,l⟩,R⟩
def R3:dI prog w enc sp held 62 (fun l:List As=>[.seq 4 ar (l.map mr)]) (fun l=>ae l<=maxLen/\∀x,x∈l->QA x) :=
 jY (e:=75) (by kernel_rfl) Oo aS (fun x=>⟨rfl,rfl⟩) R6
def R4:dI prog w enc sp held 64 (fun x:Jp=>fQ x) QJ:=by intro fuel k x h;have ⟨f,y⟩:=fS Go.Proofs.Tryz.underlying64 h;rw[Om] at f;have ⟨g,E,z⟩:=y 0 _ rfl;change DataW.trod enc prog w 0 sp held g 3 ((k.drop 0).take (prog.cellsOf 3))=ak E at z;rw[tI] at z;have ⟨W,n,s⟩:=ua _ _ _ z;have ⟨i,F,a⟩:=y 1 _ rfl;change DataW.trod enc prog w 0 sp held i 3 ((k.drop 1).take (prog.cellsOf 3))=ak F at a;rw[tI] at a;have ⟨A,o,t⟩:=ua _ _ _ a;have ⟨j,G,b⟩:=y 2 _ rfl;change DataW.trod enc prog w 0 sp held j 3 ((k.drop 2).take (prog.cellsOf 3))=ak G at b;rw[tI] at b;have ⟨B,p,v⟩:=ua _ _ _ b;have ⟨l,I,c⟩:=y 3 _ rfl;change DataW.trod enc prog w 0 sp held l 58 ((k.drop 3).take (prog.cellsOf 58))=ak I at c;rw[D8] at c;have ⟨C,q,K⟩:=Ie _ _ _ c;have ⟨m,J,e⟩:=y 4 _ rfl;change DataW.trod enc prog w 0 sp held m 62 ((k.drop 5).take (prog.cellsOf 62))=ak J at e;rw[Rs] at e;have ⟨D,r,X⟩:=R3 _ _ _ e;have R:=(fh (fh (fh (fh s t) v) K) X);rw[fi k 0,fi k 0,fi k 0,fi k 0,Yx,Xq (by rw[f];decide)] at R;exact ⟨⟨W,A,B,C,D⟩,⟨n,o,p,q,r⟩,R⟩
def RX:dI prog w enc sp held 23 (fun l:List Jp=>[.seq 6 ar (l.map fQ)]) (fun l=>ae l<=maxLen/\∀x,x∈l->QJ x) :=
 jY (e:=64) (by kernel_rfl) Om aS (fun x=>⟨rfl,rfl⟩) R4
def R5:dI prog w enc sp held 70 (fun x:Zn=>jx x) QZ:=by intro fuel k x h;have ⟨a,b⟩:=fS Go.Proofs.Tryz.underlying70 h;rw[On] at a;have ⟨c,n,y⟩:=b 0 _ rfl;change DataW.trod enc prog w 0 sp held c 3 ((k.drop 0).take (prog.cellsOf 3))=ak n at y;rw[tI] at y;have ⟨l,f,i⟩:=ua _ _ _ y;have ⟨e,o,z⟩:=b 1 _ rfl;change DataW.trod enc prog w 0 sp held e 58 ((k.drop 1).take (prog.cellsOf 58))=ak o at z;rw[D8] at z;have ⟨m,g,j⟩:=Ie _ _ _ z;have R:=(fh i j);rw[fi k 0,Yx,Xq (by rw[a];decide)] at R;exact ⟨⟨l,m⟩,⟨f,g⟩,R⟩
def RY:dI prog w enc sp held 24 (fun l:List Zn=>[.seq 3 ar (l.map jx)]) (fun l=>ae l<=maxLen/\∀x,x∈l->QZ x) :=
 jY (e:=70) (by kernel_rfl) On aS (fun x=>⟨rfl,rfl⟩) R5
def OY:dI prog w enc sp held 26 (fun x:Au=>e9 x) QU:=by intro fuel k x h;have ⟨e,y⟩:=fS Go.Proofs.Tryz.underlying26 h;rw[Rn] at e;have ⟨f,W,z⟩:=y 0 _ rfl;change DataW.trod enc prog w 0 sp held f 3 ((k.drop 0).take (prog.cellsOf 3))=ak W at z;rw[tI] at z;have ⟨t,l,p⟩:=ua _ _ _ z;have ⟨g,A,a⟩:=y 1 _ rfl;change DataW.trod enc prog w 0 sp held g 22 ((k.drop 1).take (prog.cellsOf 22))=ak A at a;rw[Rk] at a;have ⟨v,m,q⟩:=RV _ _ _ a;have ⟨i,B,b⟩:=y 2 _ rfl;change DataW.trod enc prog w 0 sp held i 23 ((k.drop 2).take (prog.cellsOf 23))=ak B at b;rw[Rl] at b;have ⟨K,n,r⟩:=RX _ _ _ b;have ⟨j,C,c⟩:=y 3 _ rfl;change DataW.trod enc prog w 0 sp held j 24 ((k.drop 3).take (prog.cellsOf 24))=ak C at c;rw[Rm] at c;have ⟨X,o,s⟩:=RY _ _ _ c;have R:=(fh (fh (fh p q) r) s);rw[fi k 0,fi k 0,fi k 0,Yx,Xq (by rw[e];decide)] at R;exact ⟨⟨t,v,K,X⟩,⟨l,m,n,o⟩,R⟩
def QU.Qq (h:QU a):AuL a:=by
 have n:maxLen < 9223372036854775808:=aS;have ⟨_,⟨j,e⟩,⟨l,f⟩,m,g⟩:=h;refine ⟨aD,aD,aD,fun x k=>?_,fun x k=>?_,fun x k=>?_⟩
 .have ⟨⟨_,z,_⟩,_,b,_⟩:=e x k;exact ⟨aD,aD⟩
 .have ⟨_,_,_,⟨_,z,_⟩,b,c⟩:=f x k;exact ⟨aD,aD,fun y i=>dp ((c y i).2.1.1.1)⟩
 .have ⟨_,_,z,_⟩:=g x k;omega
end
end Go.Fx
namespace Go.Proofs.YtkpkkhepecgeiaaGreat
open List renaming length->ae,getD->af,replicate->aA,eraseIdx->aB,range->aC
open Inhabited renaming default->ah
open Option renaming some->ak,none->an
open Bool renaming true->aq,false->ar
open Go.IntKind renaming wrap->au
open Int renaming natAbs->ay,toNat->az
open Go.ChangeShapes Go.WideShapes Go.ChangeAt Go.RowKit
open Go.Fx
def PD:ownKnob Tryz.prog.godebug=an:=by kernel_rfl
def BS {I y:Imm} {a:Bet} {k:aE} {w w':World} (x:Ext I eW [] w y a k w'):∀b,b < w.heap.size->w'.heap[b]?=w.heap[b]?:=fun b z =>
 (x.frame b z (by rintro ⟨id,c,B,h,_⟩;simp at h)).1
def KQ {I y:Imm} {a:Bet} {k:aE} {w w':World} (x:Ext I eW [] w y a k w') (may:MemPlace->Prop):w.keptBut w' may:=by refine ⟨x.os,x.output,fun i h=>?_⟩;rw[BS x i h];obtain ⟨o,z⟩:∃o,w.heap[i]?=ak o:=⟨w.heap[i],by simp[h]⟩;rw[z];cases o<;>simp
def wb {H:Type} {enc:TypeId × Value->H} {P:Program} {w w':World} {base:Nat} {c:Nat->Bool} {k:Bool}:∀{f:List TypeId} {vs:List Value} {a:List (DataW H)} {z:List MemPlace},
  DataW.TrodAll enc P w base c k f vs a z->(∀p,p∈z->w.sameAt w' p)->DataW.TrodAll enc P w' base c k f vs a z
 | [],[],[],_,h,_=>h
 | _::_,_::_,_::_,_,⟨p,q,⟨n,g⟩,i,e⟩,b=>⟨p,q,⟨n,DataW.trod_carry _ _ _ _ g (fun x y=>b x (by rw[e];exact List.mem_append_left _ y))⟩,wb i (fun x y=>b x (by rw[e];exact List.mem_append_right _ y)),e⟩
def KR {I y:Imm} {z:Bet} {k:aE} {w w':World} (x:Ext I eW [] w y z k w') {p:MemPlace} (h:p.block < w.heap.size):w.sameAt w' p:=by
 cases p with
 | cell b o=>show w'.cell? _=w.cell? _;unfold World.cell?;rw[BS x b h]
 | map b=>exact BS x b h
def yJ {I:Imm} {β:Bet} {xs:List AV} {c:Array Value} (h:bJ I β xs (Value.agg c).cells.toList):Rel I β (.agg xs) (.agg c):=by
 have h:=Rel.agg h.1 h.2;have e:(Value.agg c).cells.toList.toArray=c:=by simp[Value.cells]
 rw[e] at h;exact h
def Fp {H:Type} {enc:TypeId × Value->H} {P:Program} {w:World} {base:Nat} {spare:Nat->Bool} {k:Bool} {t I i J L:TypeId} {args:Array Value} {E:List (DataW H)} {G:List MemPlace} (h:DataW.TrodAll enc P w base spare k [t,I,i,J,L] args.toList E G) :
  ∃v s e K X d j y l m p n c o r,args=#[v,s,e,K,X]/\E=[d,j,y,l,m]/\G=p++n++c++o++r/\DataW.Trod enc P w base spare k t v d p/\DataW.Trod enc P w base spare k I s j n/\DataW.Trod enc P w base spare k i e y c/\DataW.Trod enc P w base spare k J K l o/\DataW.Trod enc P w base spare k L X m r:=by obtain ⟨v,vs,d,N,p,q,A,rfl,rfl,S,f⟩:=trodAll_cons h;obtain ⟨s,U,j,F,n,q',rfl,rfl,rfl,B,z⟩:=trodAll_cons f;obtain ⟨e,M,y,W,c,T,rfl,rfl,rfl,g,x⟩:=trodAll_cons z;obtain ⟨K,V,l,O,o,q3,rfl,rfl,rfl,C,a⟩:=trodAll_cons x;obtain ⟨X,a0,m,R,r,q4,rfl,rfl,rfl,D,b⟩:=trodAll_cons a;obtain ⟨rfl,rfl,rfl⟩:=trodAll_nil b;exact ⟨v,s,e,K,X,d,j,y,l,m,p,n,c,o,r,by cases args;simp_all,rfl,by simp,S,B,g,C,D⟩
end Go.Proofs.YtkpkkhepecgeiaaGreat
namespace Go.Fx
open Go.Proofs.Tryz
open List renaming length->ae,getD->af,replicate->aA,eraseIdx->aB,range->aC
open Inhabited renaming default->ah
open Option renaming some->ak,none->an
open Bool renaming true->aq,false->ar
open Go.IntKind renaming wrap->au
open Int renaming natAbs->ay,toNat->az
section
variable {P:Program}
def n5 (x:Int × Int):Bool:=decide (1<=x.2/\x.2<=M60/\x.1<=M60 /\ -M60<=x.1)&&decide (Int.gcd x.1 x.2=1)
def oh (x:Int × Int):Q:=Q.ratio x.1 x.2
def zK (h:-M60<=n/\n<=M60):Dg 2 n:=by show ay n < 4294967296 ^ 2;have:(4294967296 ^ 2:Nat)=18446744073709551616:=aS;simp only[M60] at h;omega
def GQ:n5 x=aq↔(1<=x.2/\x.2<=M60/\x.1<=M60 /\ -M60<=x.1)/\Int.gcd x.1 x.2=1:=by unfold n5;rw[WZ,Xm,Xm]
def Jk (h:n5 x=aq):QV (oh x)/\QOk 2 (oh x):=by have ⟨⟨w,k,y,z⟩,_⟩:=GQ.1 h;exact ⟨(qD aD).1,vk aD (zK ⟨z,y⟩) (zK ⟨by simp only[M60];omega,k⟩)⟩
def Iy (x:Int × Int):a9 prog 66 [.agg (eu x)] (.v0 (n5 x)):=by
 refine pw func66 ?_;have y:∀{H:aE},¬(1<=x.2/\x.2<=M60/\x.1<=M60 /\ -M60<=x.1)->Fin 0 (.v0 ar) H (.v0 (n5 x)) []:=fun h=>aV (by unfold n5;rw[Xx h];rfl) rfl;simp only[M60] at y;by_cases k:x.2 < 1
 .refine Z1 k ?_;exact y aD
 by_cases z:1152921504606846976 < x.2
 .refine Z2 k z ?_;exact y aD
 by_cases w:1152921504606846976 < x.1
 .refine Z3 k z w ?_;exact y aD
 by_cases a:x.1 < -1152921504606846976
 .refine Z4 k z w a ?_;exact y aD
 have g:(1<=x.2/\x.2<=M60/\x.1<=M60 /\ -M60<=x.1):=by simp only[M60];omega
 refine Z4 k z w a ?_;refine aG (EJ x.1 aD) rfl (bf _) ?_;refine Z ?_;refine aG (EJ x.2 aD) rfl (bf _) ?_;refine Z ?_;refine aG (Ms x.1 x.2 ((zK ⟨g.2.2.2,g.2.2.1⟩).mono aS) ((zK ⟨by simp only[M60];omega,g.2.1⟩).mono aS)) (by simp[bf]) (bf _) ?_;refine Z ?_;have b:Int.gcd x.1 x.2<=ay x.2:=Nat.le_of_dvd aD (Nat.gcd_dvd_right _ _);have hi:=PQ (Int.gcd x.1 x.2:Int) 1152921504606846976 aS;rw[W0 (by omega)] at hi;refine aG hi (by simp only[Yu,Zv,bf];rfl) rfl ?_;have e:((Int.gcd x.1 x.2:Int)=1)=(Int.gcd x.1 x.2=1):=propext aD;refine Z1 e ?_;exact aV (by unfold n5;rw[XB g];rfl) rfl
def L3 (x:Int × Int) (h:n5 x=aq):a9 prog 70 [.agg (eu x)] (qA (oh x)):=by have ⟨⟨w,k,y,z⟩,_⟩:=GQ.1 h;simp only[M60] at k y z;refine pw func70 ?_;refine Z ?_;refine aG (EJ x.1 aD) rfl (bf _) ?_;refine Z ?_;refine aG (EJ x.2 aD) rfl (bf _) ?_;refine Z ?_;refine aG (yH x.1 x.2 aD ((zK ⟨z,y⟩).mono aS) ((zK ⟨by simp only[M60];omega,k⟩).mono aS)) (by simp[bf]) (aZ _) ?_;refine Z ?_;exact kh rfl
def Nz (l:List Q):(l.map qC).all (fun x=>x.all b8)=aq:=by rw[Zw,W6];exact fun q _=>pK q
def C7 (l:List (Int × Int)) (D:ae l < 1000000000) (b:Bool) (hv:∀x,x∈l->n5 x=aq):a9 prog 47 [.seq 2 b (l.map eu)] (.seq 4 ar ((l.map oh).map qC)):=by
 refine pw func47 ?_;refine Z ?_;refine bE (fun k e H=>∃(i:Nat) (v:AV),i<=ae l/\k=ae l - i/\Acc 0 H 4 v ((l.take i).map fun x=>qC (oh x)) /\
  e=[(3,v),(6,.seq 2 b (l.map eu)),(7,.q0 (ae l:Int)),(8,.q0 (i:Int))]) ⟨0,.nil,aD,rfl,.nil,rfl⟩ ?_;rintro k _ H ⟨i,v,B,C,h,rfl⟩;have cv:=h.cell;by_cases o:(i:Int) < (ae l:Int)
 .have n:=ws i;refine Z ?_;have p:n5 (af l i ah)=aq:=hv _ (bS aD);generalize w:af l i ah=c at *;refine ⟨aD,aG (L3 c p) rfl (aZ _) ?_⟩;obtain ⟨f,y⟩:∃f,f=H++[ak (⟨2,0,[eu c]⟩:bC)]:=⟨_,rfl⟩;have z:=h.aQ (y ▸ aT.app _ _ []) aK;have ⟨q,r,j,m,s,t,K,X,W,A⟩:=z.app (XE _) cE (qC (oh c));rw[y] at j;refine Y2 j n ?_;refine ⟨rfl,ae l - (i+1),aD,i+1,q,aD,rfl,?_,rfl⟩;rw[By (g:=fun x=>qC (oh x)) (d:=ah) aD,w];exact m
 .have a:i=ae l:=aD;subst a;refine Z ?_;rw[XP] at h;have e:(l.map fun x=>qC (oh x))=(l.map oh).map qC:=by rw[aaJ];rfl
  rw[e] at h;exact h.fin (Nz _)
def LV (l:List (Int × Int)) (g:ae l < 1000000000) (b:Bool):a9 prog 65 [.seq 2 b (l.map eu),.fn 66 [] []] (.v0 (l.all n5)):=by
 refine pw func65 ?_;refine Z ?_;refine bE (fun k e H=>∃i:Nat,i<=ae l/\k=ae l - i/\(∀j,j < i->n5 (af l j ah)=aq) /\
  e=[(1,.fn 66 [] []),(7,.seq 2 b (l.map eu)),(8,.q0 (ae l:Int)),(9,.q0 (i:Int))]) ⟨0,aD,rfl,fun j h=>aD,rfl⟩ ?_;rintro k _ H ⟨i,c,f,y,rfl⟩;by_cases w:(i:Int) < (ae l:Int)
 .have a:=ws i;refine Z ?_;refine ⟨aD,aG (Iy (af l i ah)) rfl rfl ?_⟩;cases x:n5 (af l i ah) with
  | true =>
   refine Z ?_;exact ⟨ae l - (i+1),aD,i+1,aD,rfl,fun j z=>by
    rcases Xe j i with h | h
    .exact y j h
    .rw[show j=i by omega];exact x,rfl⟩
  | false =>
   refine Z ?_;exact aV (by rw[Ye.2 ⟨_,bS (d:=ah) (show i < ae l by omega),by rw[x];decide⟩]) rfl
 .refine Z ?_;have:l.all n5=aq:=gW (d:=ah) (fun j z=>y j aD);exact aV (by rw[this]) rfl
def J5 (n:Int) (l:List (Int × Int)):Bool:=decide (0<=n/\n<=8/\(ae l:Int)=n)&&l.all n5
def Fu (n:Int) (l:List (Int × Int)) (x:ae l < 1000000000) (b:Bool):a9 prog 45 [.q0 n,.seq 2 b (l.map eu)] (.v0 (J5 n l)):=by
 refine pw func45 ?_;unfold J5;refine Z ?_;refine cX (MD n) ?_;by_cases h:0<=n/\n<=8
 .by_cases y:(ae l:Int)=n
  .rw[XB (show 0<=n/\n<=8/\(ae l:Int)=n by omega),Yh];refine Z ?_;refine cX (LV l x b) ?_;refine Z ?_;exact aV rfl rfl
  .rw[Xx (show ¬(0<=n/\n<=8/\(ae l:Int)=n) by omega),Yw];refine Z ?_;exact aV rfl rfl
 .have k:=Xh h;rw[Xx (show ¬(0<=n/\n<=8/\(ae l:Int)=n) by omega),Yw];refine Z ?_;exact aV rfl rfl
def mm (r:bV) (xs:List Q):Nat->Q
 | 0=>r.add
 | i+1=>if (af r.dh i ah).top=0 then mm r xs i else (mm r xs i).add ((af r.dh i ah).mul (af xs i ah))
def NA (c:0 < j) (f:0 < k) (h:QOk j a) (x:QOk k b):QOk (j+k+1) (a.add b):=by
 unfold Q.add;have ⟨y,g⟩:=h.lo c;have ⟨z,i⟩:=x.lo f;split
 .exact ⟨Yn 0,((h.top.mono aD).add (x.top.mono aD):Dg (j+k+1) _),m8 _⟩
 .have w:a.lo*b.lo≠0:=dp (abC g i);have e:k+j=j+k:=aD;exact vk w ((h.top.mul z).add (e ▸ x.top.mul y)) ((y.mul z).mono aD)
def om (x:Q):Prop:=QV x/\QOk 1000 x
def Cc {r:bV} {xs:List Q} (y:om r.add) (f:∀x,x∈r.dh->om x) (g:∀x,x∈xs->om x) (j:ae r.dh<=ae xs):∀i,i<=ae r.dh ->
  QV (mm r xs i)/\QOk (1000+i*2001) (mm r xs i)/\(mm r xs i).val=r.add.val+bR i fun k=>(af r.dh k ah).val*(af xs k ah).val
 | 0,_=>⟨y.1,y.2,by show _=_+0;rw[Rat.add_zero];rfl⟩
 | i+1,h=>by
  have ⟨w,a,b⟩:=Cc y f g j i aD;have c:=f _ (bS (d:=ah) (show i < ae r.dh by omega));have x:=g _ (bS (d:=ah) (show i < ae xs by omega));have m:=EE c.1 x.1;have l:=ED aS aS c.2 x.2;have e:mm r xs (i+1)=if (af r.dh i ah).top=0 then mm r xs i else (mm r xs i).add ((af r.dh i ah).mul (af xs i ah)):=rfl;show _/\_/\_=_+(bR i _+_);rw[e];split
  .rename_i z;refine ⟨w,a.mono aD,?_⟩;rw[ju c.1.low] at z;rw[b];simp only[z];grind
  .have s:=zG w m.1;refine ⟨s.1,(NA aD aD a l).mono aD,?_⟩;rw[s.2,b,m.2];grind
def IA (r:bV) (xs:List Q) (f:Bool) (m:om r.add) (g:∀x,x∈r.dh->om x) (j:∀x,x∈xs->om x) (q:ae r.dh<=ae xs) (K:ae r.dh<=8) :
  a9 prog 95 [.agg (bT r),.seq 4 f (xs.map qC)] (qA (mm r xs (ae r.dh))):=by
 have key:=Cc m g j q;refine pw func95 ?_;simp only[bT,XU,XH];refine Z ?_;refine yf 2 (fun n e H=>∃i:Nat,i<=ae r.dh/\n=ae r.dh - i/\H=[ak ⟨4,0,[[.q0 0,.nil,.q0 0,.nil]]⟩,ak ⟨4,0,[qC (mm r xs i)]⟩] /\
  e=[(1,.seq 4 f (xs.map qC)),(4,.ptr 0 0 0 0),(5,.ptr 1 0 0 0),(11,.seq 4 r.fl (r.dh.map qC)),(12,.q0 (ae r.dh:Int)),(13,.q0 (i:Int))]) (by rintro n e H ⟨i,_,_,rfl,_⟩;rfl) ⟨0,aD,rfl,rfl,rfl⟩ ?_;rintro n _ _ ⟨i,p,X,rfl,rfl⟩;by_cases s:(i:Int) < (ae r.dh:Int)
 .have l:=ws i;have c:=g _ (bS (d:=ah) (show i < ae r.dh by omega));have x:=j _ (bS (d:=ah) (show i < ae xs by omega));have ⟨W,t,_⟩:=key i p;have e:mm r xs (i+1)=if (af r.dh i ah).top=0 then mm r xs i else (mm r xs i).add ((af r.dh i ah).mul (af xs i ah)):=rfl;generalize mm r xs i=v at *;generalize o:af r.dh i ah=y at *;generalize b:af xs i ah=z at *;refine Z ?_;refine ⟨aD,aG (fJ y) (by simp[aZ]) rfl ?_⟩;by_cases w:y.top=0
  .have k:(y.top.sign=0)=True:=XO (by rw[w];rfl);refine Z2 k l ?_;exact ⟨ae r.dh - (i+1),aD,aS,i+1,aD,rfl,by rw[e,W0 w],rfl⟩
  .have k:(y.top.sign=0)=False:=Xh (fun h=>w (XM.1 h));refine Z2 k b ?_;refine ⟨aD,aG (EL y z (c.2.mono aS) (x.2.mono aS)) (by simp[aZ]) (aZ _) ?_⟩;refine Z ?_;refine aG (EK v (y.mul z) (t.mono aD) ((ED aS aS c.2 x.2).mono aS)) (by simp[aZ]) (aZ _) ?_;refine Z ?_;exact ⟨ae r.dh - (i+1),aD,aS,i+1,aD,rfl,by rw[e,WX w],rfl⟩
 .have a:i=ae r.dh:=aD;subst a;refine Z ?_;exact kh rfl
open Classical in
noncomputable def hR (r:bV) (n:Nat) (u:Nat->Rat):Bool:=decide (r.gP n u)
open Classical in
noncomputable def mR (n:Nat) (aI:List bV) (u:Nat->Rat):Bool:=decide (nr n aI u)
def sO (xs:List Q):Nat->Rat:=fun i=>(af xs i ah).val
open Classical in
def OL {n:Nat} {aI:List bV} {u:Nat->Rat}:(!aI.any fun r => !hR r n u)=mR n aI u:=by unfold mR hR;rw[ZT,Xm,Yd,List.any_eq_false];simp only[Yd,YI,aaR];exact abe
structure Hh (r:bV) (n:Nat):Prop where
 a:om r.add
 c:∀x,x∈r.dh->om x
 len:r.dh.length=n
def Iz (r:bV) (xs:List Q) (f:Bool) {n:Nat} (k:Hh r n) (i:∀x,x∈xs->om x) (H:ae xs=n) (t:n<=8) :
  a9 prog 69 [.agg (bT r),.seq 4 f (xs.map qC)] (.v0 (hR r n (sO xs))):=by
 have hv:=IA r xs f k.a k.c i (by have:=k.len;omega) (by have:=k.len;omega);have ⟨j,_,q⟩:=Cc k.a k.c i (by have:=k.len;omega) (ae r.dh) (WY _);have w:(mm r xs (ae r.dh)).val=r.val n (sO xs):=by rw[q,k.len];rfl
 generalize mm r xs (ae r.dh)=v at *;have p:=ju j.low;have m:=np j.low;have l:hR r n (sO xs)=decide (v.top.sign=0\/(0 < v.top.sign/\r.eq=ar)):=by
  unfold hR bV.gP;rw[<-w];refine decide_eq_decide.2 ?_;cases r.eq with
  | true =>
   rw[W0 rfl,<-p];constructor
   .intro h;rw[h];exact .inl rfl
   .rintro (h | h)
    .exact XM.1 h
    .exact absurd h.2 aS
  | false =>
   have e:(0<=v.val)=¬v.top < 0:=by rw[m];exact propext aai.symm
   rw[WX aS,e,Int.sign_pos_iff,XM];constructor
   .intro h;rcases Int.lt_trichotomy v.top 0 with g | g | g
    .exact absurd g h
    .exact .inl g
    .exact .inr ⟨g,rfl⟩
   .rintro (h | h)<;>omega
 have z:=jt r;rw[l];refine pw func69 ?_;have o:bT r = .seq 4 r.fl (r.dh.map qC)::(qC r.add++[.v0 r.eq]):=rfl;rw[o] at hv z ⊢;simp only[XU,XH] at hv z ⊢;refine Z ?_;refine aG hv (by simp only[Yu,Zv,z];rfl) (aZ _) ?_;refine Z ?_;refine aG (fJ v) (by simp[aZ]) rfl ?_;by_cases b:v.top.sign=0
 .have y:=XO b;refine Z ?_;exact aV aK rfl
 .have y:=Xh b;by_cases s:0 < v.top.sign
  .refine Z ?_;exact aV aK rfl
  .refine Z ?_;exact aV aK rfl
def El {α:Type} (p:α->Bool) (l:List α):Int:=if l.any p=aq then (l.findIdx p:Int) else -1
def Em {α:Type} {p:α->Bool} {l:List α}:(0<=El p l)=(l.any p=aq):=by
 unfold El;split
 .exact propext ⟨fun _=>by assumption,fun _=>aD⟩
 .rename_i h;exact propext ⟨fun g=>by omega,fun g=>absurd g h⟩
abbrev RL (k:Nat):bL := .seq (.ki [0,1] [d 4 (.mv (i64 0))])
 (.seq (.seq (.ki [0,1,7,8] [d 6 (.mv (.t 0)),d 7 (.len (.t 6)),d 8 (.mv (i64 0))])
 (.block 0 (.loop [0,1,7,8] (.seq (.ki [0,1,7,8,9] [d 9 (.bin .lss (.t 8) (.t 7))])
 (.seq (.cond (.t 9) .skip (.exit 0))
 (.seq (.block 1 (.seq (.ki [0,1,5,7,8] [d 10 (.mv (.t 8)),d 5 (.mv (.t 10))])
 (.seq (.ki [0,1,5,7,8,16] [d 11 (.mv (.t 1)),d 12 (.mv (.t 0)),d 13 (.mv (.t 5)),d 14 (.vX (.t 12) (.t 13) k),d 15 (.ld (.t 14) aq k),d 16 (.jz (.t 11) [.t 15])])
 (.cond (.t 16) (.seq (.ki [4] [d 17 (.mv (.t 5)),d 4 (.mv (.t 17))])
 .ret) .skip))))
 (.ki [0,1,7,8] [d 18 (.bin .add (.t 8) (i64 1)),d 8 (.mv (.t 18))])))))))
 (.seq (.ki [4] [d 4 (.mv (i64 (-1)))])
 .ret))
def Et {α:Type} [Inhabited α] {g:α->List AV} {k:Nat} {fn:FuncId} {caps:List AV} {p:α->Bool} (l:List α) (b:Bool) (E:ae l < 1000000000) (W:∀x,ae (g x)=k) (K:caps.all bP=aq) (X:∀x,x∈l->bP (.agg (g x))=aq)
  (A:∀x,x∈l->a9 prog fn (.agg (g x)::caps) (.v0 (p x))):WP prog 19 (RL k) (pQ [.t 4] 0 (.q0 (El p l)) []) (jl [.seq k b (l.map g),.fn fn [] caps]) []:=by
 refine Z ?_;refine bE (fun n e H=>∃i:Nat,i<=ae l/\n=ae l - i/\(∀j,j < i->p (af l j ah)=ar) /\
  e=[(0,.seq k b (l.map g)),(1,.fn fn [] caps),(7,.q0 (ae l:Int)),(8,.q0 (i:Int))]) ⟨0,aD,rfl,fun j h=>aD,rfl⟩ ?_;rintro n _ H ⟨i,D,F,f,rfl⟩;by_cases o:(i:Int) < (ae l:Int)
 .have C:=ws i;have q:af l i ah∈l:=bS aD;have s:=A _ q;have r:=X _ q;have hK:=W (af l i ah);have v:(g (af l i ah)).take k=g (af l i ah):=Xq (Nat.le_of_eq hK);have w:i < ae l:=aD;have hv:af l i ah=l[i]:=by simp[af,w]
  generalize z:af l i ah=c at *;refine Z3 o z v ?_;refine ⟨aD,aD,aG s (by rw[Yu,r,K];rfl) rfl ?_⟩;cases y:p c with
  | true =>
   refine Z ?_;refine aV ?_ rfl;unfold El;rw[W0 (aa1.2 ⟨c,q,y⟩)];have:l.findIdx p=i:=(List.findIdx_eq w).2 ⟨by rw[<-hv];exact y,fun j a=>by have h:=f j a;have m:j < ae l:=aD;simpa[af,m] using h⟩;rw[this]
  | false =>
   refine Z ?_;exact ⟨ae l - (i+1),aD,i+1,aD,rfl,fun j a=>by
    rcases Xe j i with h | h
    .exact f j h
    .rw[show j=i by omega,z];exact y,rfl⟩
 .refine Z ?_;refine aV ?_ rfl;unfold El;have:l.any p=ar:=by rw[List.any_eq_false];intro x B;obtain ⟨j,a,rfl⟩:=Yz.1 B;have:=f j aD;simpa[af,a] using this
  rw[this];rfl
def Hr {l:List AV} (h:l.all b8=aq):l.all bP=aq/\l.all fP=aq:=by
 rw[W6] at h;rw[W6,W6];refine ⟨fun x k=>?_,fun x k=>BO (h x k)⟩;have:=h x k;have g:=BO this;cases x with
 | agg=>cases this
 | bI=>cases this
 | fn f u v=>simp[b8] at this;rw[this.1,this.2];rfl
 | _=>exact g
def LX {fn:FuncId} {caps:List AV} {p:bV->Bool} (l:List bV) (b:Bool) (z:ae l < 1000000000) (y:caps.all b8=aq)
  (w:∀x,x∈l->a9 prog fn (.agg (bT x)::caps) (.v0 (p x))):a9 prog 67 [.seq 6 b (l.map bT),.fn fn [] caps] (.v0 (l.any p)):=by
 have h:=pw func94 (Et (g:=bT) (k:=6) l b z (fun x=>rfl) (Hr y).1 (fun x _=>jt x) w) (by kernel_rfl);refine pw func67 ?_;refine Z ?_;refine aG h ?_ rfl ?_
 .show (aq&&((aq&&caps.all fP)&&aq))=aq;rw[(Hr y).2];rfl
 .refine Z ?_;exact aV (by simp only[Em,Bool.decide_eq_true]) rfl
structure Sta where
 loc:Int
 pt:List (Int × Int)
abbrev wa (s:Sta):List AV:=[.q0 s.loc,.seq 2 ar (s.pt.map eu)]
noncomputable def mC (cs:List Cd) (s:Sta):Bool:=mR (ae s.pt) (cs.map Cd.dj) (sO (s.pt.map oh))
def Fz (r:bV) (xs:List Q) (f:Bool) {n:Nat} (a:Hh r n) (b:∀x,x∈xs->om x) (z:ae xs=n) (y:n<=8) :
  a9 prog 68 [.agg (bT r),.fp [.seq 4 f (xs.map qC)] 0] (.v0 (!hR r n (sO xs))):=by have h:=Iz r xs f a b z y;have k:=jt r;refine pw func68 ?_;have w:bT r = .seq 4 r.fl (r.dh.map qC)::(qC r.add++[.v0 r.eq]):=rfl;rw[w] at h k ⊢;simp only[XU,XH] at h k ⊢;refine Z ?_;refine aG h (by simp only[Yu,Zv,k];rfl) rfl ?_;refine Z ?_;exact aV rfl rfl
def F8 (aI:List bV) (xs:List Q) (b f:Bool) {n:Nat} (z:∀r,r∈aI->Hh r n) (w:∀x,x∈xs->om x) (y:ae xs=n) (k:n<=8) (a:ae aI < 1000000000) :
  a9 prog 46 [.seq 6 b (aI.map bT),.seq 4 f (xs.map qC)] (.v0 (mR n aI (sO xs))):=by have h:=LX (fn:=68) (caps:=[.fp [.seq 4 f (xs.map qC)] 0]) (p:=fun r => !hR r n (sO xs)) aI b a rfl (fun r h=>Fz r xs f (z r h) w y k);refine pw func46 ?_;refine Z ?_;refine aG h rfl rfl ?_;refine Z ?_;exact aV (by rw[OL]) rfl
def NB (h:n5 x=aq):om (oh x):=⟨(Jk h).1,(Jk h).2.mono aS⟩
def GH (h:-M60<=n/\n<=M60):om (wq n):=⟨IE n,Yn 0,(zK h).mono aS,m8 _⟩
def ND {n:Nat} {cs:List Cd} (h:gL n cs):∀r,r∈cs.map Cd.dj->Hh r n:=fun r z=>by obtain ⟨c,k,rfl⟩:=Xf.1 z;exact ⟨GH (h.a c k),fun x w=>by obtain ⟨y,b,rfl⟩:=Xf.1 w;exact GH (h.c c k y b),by simp[Cd.dj,Fm.dj,h.len c k]⟩
def Er {n:Nat} {cs:List Cd} {s:Sta} (h:gL n cs) (z:∀x,x∈s.pt->n5 x=aq) (k:ae s.pt=n) :
  a9 prog 46 [.seq 6 ar (cs.map fun c=>bT c.dj),.seq 4 ar ((s.pt.map oh).map qC)] (.v0 (mC cs s)):=by have:=F8 (cs.map Cd.dj) (s.pt.map oh) ar ar (ND h) (fun x w=>by obtain ⟨y,a,rfl⟩:=Xf.1 w;exact NB (z y a)) (by rw[W4];exact k) h.n8 (by have:=h.cl;rw[W4];omega);rw[aaJ] at this;unfold mC;rw[k];exact this
def wg (a:Au) (s:Sta):Bool:=decide (0<=s.loc/\s.loc < ae a.aL)&&J5 a.bt s.pt
def zB (a:Au) (s:Sta) (h:ae s.pt < 1000000000):a9 prog 28 [.agg (e9 a),.agg (wa s)] (.v0 (wg a s)):=by
 refine pw func28 ?_;unfold wg;by_cases k:0<=s.loc
 .by_cases x:s.loc < (ae a.aL:Int)
  .refine Z ?_;refine cX (Fu a.bt s.pt h ar) ?_;refine Z ?_;exact aV aK rfl
  .refine Z ?_;exact aV aK rfl
 .refine Z ?_;exact aV aK rfl
noncomputable def sx (a:Au) (s:Sta):Bool:=mC (af a.aL (az s.loc) ah).inv.l s
structure StF (a:Au) (s:Sta) (m:Nat):Prop where
 v:VA0 a m
 l0:0<=s.loc
 l1:s.loc.toNat < a.aL.length
 n:s.pt.length=m
 p:∀x,x∈s.pt->n5 x=true
def StF.of (h:eF a=aq) (g:wg a s=aq):StF a s (az a.bt):=by unfold wg J5 at g;simp only[WZ,Xm,W6] at g;exact ⟨nZ h,aD,aD,aD,g.2.2⟩
def zC (a:Au) (s:Sta) (h:StF a s m):a9 prog 29 [.agg (e9 a),.agg (wa s)] (.v0 (sx a s)):=by have hm:=h.v.loc _ (bS (d:=ah) h.l1);have z:=h.l1;have k:s.loc=(az s.loc:Int):=Int.toNat_of_nonneg h.l0 |>.symm;have ⟨m4,w⟩:m<=4/\ae s.pt=m:=⟨h.v.m4,h.n⟩;unfold sx;have H:=Er (gL.of hm.1.1) h.p h.n;have R:=vK (af a.aL (az s.loc) ah).inv.n (af a.aL (az s.loc) ah).inv.l (by have:=(gL.of hm.1.1).cl;omega) (Gu hm.1.1);have N:=C7 s.pt aD ar h.p;refine pw func29 ?_;generalize y:af a.aL (az s.loc) ah=x at *;generalize az s.loc=i at *;refine Z2 k y ?_;refine ⟨aD,aG R rfl rfl ?_⟩;refine Z0 ?_;refine aG N rfl rfl ?_;refine Z0 ?_;refine aG H rfl rfl ?_;refine Z0 ?_;exact aV rfl rfl
noncomputable def BG (s:Sta) (z:Zn):Bool:=decide (z.loc=s.loc)&&mC z.set.l s
def Fy (s:Sta) (z:Zn) {n:Nat} (h:gL n z.set.l) (w:∀x,x∈s.pt->n5 x=aq) (b:ae s.pt=n) :
  a9 prog 49 [.agg (jx z),.fp (wa s) 0] (.v0 (BG s z)):=by
 have H:=Er h w b;have e:=h.n8;have R:=vK z.set.n z.set.l (by have:=h.cl;omega) (fun c a=>h.QE a);have N:=C7 s.pt aD ar w;unfold BG;refine pw func49 ?_;by_cases y:z.loc=s.loc
 .have k:=XO y;refine Z1 k ?_;refine aG R rfl rfl ?_;refine Z0 ?_;refine aG N rfl rfl ?_;refine Z0 ?_;refine aG H rfl rfl ?_;refine Z0 ?_;exact aV rfl rfl
 .have k:=Xh y;refine Z1 k ?_;exact aV rfl rfl
def NU {fn:FuncId} {caps:List AV} {p:Zn->Bool} (l:List Zn) (b:Bool) (z:ae l < 1000000000) (y:caps.all b8=aq)
  (w:∀x,x∈l->a9 prog fn (.agg (jx x)::caps) (.v0 (p x))):a9 prog 48 [.seq 3 b (l.map jx),.fn fn [] caps] (.v0 (l.any p)):=by
 have h:=pw func71 (Et (g:=jx) (k:=3) l b z (fun x=>rfl) (Hr y).1 (fun x _=>rfl) w) (by kernel_rfl);refine pw func48 ?_;refine Z ?_;refine aG h ?_ rfl ?_
 .show (aq&&((aq&&caps.all fP)&&aq))=aq;rw[(Hr y).2];rfl
 .refine Z ?_;exact aV (by simp only[Em,Bool.decide_eq_true]) rfl
noncomputable def AM (a:Au) (s:Sta):Bool:=sx a s&&a.init.any (BG s)
def F7 (a:Au) (s:Sta) (h:StF a s m):a9 prog 30 [.agg (e9 a),.agg (wa s)] (.v0 (AM a s)):=by
 have hi:=NU (fn:=49) (caps:=[.fp (wa s) 0]) (p:=BG s) a.init ar (by have:=h.v.i12;omega) rfl (fun z k=>Fy s z (gL.of (h.v.xz z k).2.1) h.p h.n);unfold AM;refine pw func30 ?_;refine Z0 ?_;refine cX (zC a s h) ?_;cases sx a s with
 | false =>
  refine Z0 ?_;exact aV rfl rfl
 | true =>
  refine Z0 ?_;refine aG hi rfl rfl ?_;refine Z0 ?_;exact aV rfl rfl
def C4 (a:Au) (s:Sta) (x:AuS a) (y:ae s.pt < 1000000000):a9 prog 12 [.agg (e9 a),.agg (wa s)] (if eF a=aq/\wg a s=aq then .bI [.v0 (sx a s),.q0 0] else .bI [.v0 ar,.q0 1]):=by
 refine pw func12 ?_;refine Z0 ?_;refine cX (mG a x) ?_;cases h:eF a with
 | false =>
  refine Z0 ?_;exact aV (by simp) rfl
 | true =>
  refine Z0 ?_;refine cX (zB a s y) ?_;cases k:wg a s with
  | false =>
   refine Z0 ?_;exact aV (by simp) rfl
  | true =>
   refine Z0 ?_;refine cX (zC a s (StF.of h k)) ?_;refine Z0 ?_;exact aV (by simp) rfl
def ya (a:Au) (s:Sta) (x:AuS a) (y:ae s.pt < 1000000000):a9 prog 13 [.agg (e9 a),.agg (wa s)] (if eF a=aq/\wg a s=aq then .bI [.v0 (AM a s),.q0 0] else .bI [.v0 ar,.q0 1]):=by
 refine pw func13 ?_;refine Z0 ?_;refine cX (mG a x) ?_;cases h:eF a with
 | false =>
  refine Z0 ?_;exact aV (by simp) rfl
 | true =>
  refine Z0 ?_;refine cX (zB a s y) ?_;cases k:wg a s with
  | false =>
   refine Z0 ?_;exact aV (by simp) rfl
  | true =>
   refine Z0 ?_;refine cX (F7 a s (StF.of h k)) ?_;refine Z0 ?_;exact aV (by simp) rfl
end
end Go.Fx
