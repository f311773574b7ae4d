/- ProductMakes returns true whatever its arguments are: part 9 of 14. No condition. -/
import Derived.Test.YtkpkkhepecgeiaaGreatAh
import Derived.Test.YtkpkkhepecgeiaaGreatAe
set_option linter.all false
set_option maxRecDepth 8000
set_option maxHeartbeats 9000000
set_option autoImplicit true
set_option relaxedAutoImplicit true
namespace Go.Fx
open Go.Proofs.Tryz
open List renaming length->ae,getD->af,replicate->aA,eraseIdx->aB,range->aC
open Inhabited renaming default->ah
open Option renaming some->ak,none->an
open Bool renaming true->aq,false->ar
open Go.IntKind renaming wrap->au
open Int renaming natAbs->ay,toNat->az
section
variable {P:Program}
def Tab.dG (T:Tab) (i k:Nat):Tab:={T.rD i with out:=aB T.out k,aM:=aB (af T.cells i []) (k+1),cells:=(aB T.cells i).map fun r=>aB r (k+1)}
def mP (cs:List (List Q)) (k c:Nat):List (List Q):=(cs.take c).map (fun r=>aB r (k+1))++cs.drop c
def KX:ae (mP cs k c)=ae cs:=by simp[mP];omega
def RV (h:c < ae cs):af (mP cs k c) c []=af cs c []:=by unfold mP;simp only[af];rw[aiC bW];simp[aiQ (alp h)]
def QE (h:c < ae cs):mP cs k (c+1)=(mP cs k c).set c (aB (af cs c []) (k+1)):=by
 unfold mP;have e:af cs c []=cs[c]:=by simp[af,h]
 have x:cs.take (c+1)=cs.take c++[cs[c]]:=by simp[h]
 rw[ajy _ _ (by simp;omega),e,x,aii,aio,show c - ae ((cs.take c).map fun r=>aB r (k+1))=0 by simp;omega];have y:=ail h;rw[y,akt];rfl
def RU:mP cs k (ae cs)=cs.map fun r=>aB r (k+1):=by simp[mP]
def QG:mP cs k 0=cs:=by simp[mP]
def Xd (h:ck H t D T) (hw:fQ T) (ho:bK H0 H t D0 D) (hx:jN H0 H t D x (.ptr t 0 0 0)) (hk:k < ae T.out) (hi:i < ae T.cells) :
  WP prog K pN (iZ [.t 2,.t 3] (AM H0 t D0 (T.dG i k) an)) [(1,.ptr x 0 0 0),(17,.q0 (k:Int)),(18,.q0 (i:Int))] H:=by
 refine uz ?_;have o9:=hw.wl;have o8:=hw.ml;have m7:=hw.bl;have F:=hw.row;have p0:=hx.lt;have n5:=aP h.bF;have O:x≠t:=fun E=>hx.out (.inl E);have ⟨A,p,R,c9,m6⟩:=h.aT.live (fun h0=>by have B:=akS ae h0;simp only[ah3,aiV] at B;omega);have ⟨z,cver,J,g0,m8⟩:=h.cells.live (fun h0=>by have B:=akS ae h0;simp only[ah3,aiV] at B;have:=h.cl;omega);have ⟨X,db,a7,g1,k2⟩:=h.out.live (fun h0=>by have B:=akS ae h0;simp only[ah3,aiV] at B;omega);have ⟨W,f,L,g2,k4⟩:=(h.rws i hi).kP ((h.live.1 i hi).2 (by rw[F i hi];omega));have b2:=h.cl;rw[ah3] at R J a7 L;rw[F i hi] at L;have ib:fJ t D A := .inr ⟨.b,by simp only[bD.v,R];simp[aG]⟩;have ic:fJ t D z := .inr ⟨.c,by simp only[bD.v,J];simp[aG]⟩;have io:fJ t D X := .inr ⟨.o,by simp only[bD.v,a7];simp[aG]⟩;have ir:fJ t D W := .inr ⟨.r i,by simp only[bD.v,L];simp[aG]⟩;have tb:A≠t:=fun E=>h.top .b (by simp only[bD.v,R];simp[aG,E]);have tc:z≠t:=fun E=>h.top .c (by simp only[bD.v,J];simp[aG,E]);have to:X≠t:=fun E=>h.top .o (by simp only[bD.v,a7];simp[aG,E]);have tr:W≠t:=fun E=>h.top (.r i) (by simp only[bD.v,L];simp[aG,E]);have bc:A≠z:=fun E=>h.sep .b .c aO A (by simp only[bD.v,R];simp[aG]) (by simp only[bD.v,J];simp[aG,E]);have xb:A≠x:=fun E=>hx.out (E ▸ ib);have xc:z≠x:=fun E=>hx.out (E ▸ ic);have xo:X≠x:=fun E=>hx.out (E ▸ io);have xr:W≠x:=fun E=>hx.out (E ▸ ir);have n7:(A=x)=False:=aie xb;have n8:(z=x)=False:=aie xc;have n9:(X=x)=False:=aie xo;have o0:(W=x)=False:=aie xr;have ei:=ws i;have ek:=ws k;have l9:au .i64 ((k:Int)+2)=((k+1+1:Nat):Int):=by rw[wrap_i64 (by omega) (by omega)];omega
 have hT:∀K,bk H t 0 K=K ⟨6,0,[[.q0 (T.n:Int),D.rv,.sl 1 A p 0 (ae T.aT),.sl 1 X db 0 (ae T.out),.sl 1 z cver 0 (ae D.aV),D.vg]]⟩:=aK (by rw[h.bF,J,R,a7]);have hX:=hx.gM;have n0:(D.aV.map fun v=>[v])[i]?=ak [af D.aV i .ba]:=by simp[af,show i < ae D.aV by rw[b2];exact hi]
 have ⟨p3,r1,r2⟩:=h.cells.cZ.read n0;rw[J] at r1;rw[L] at r2;obtain ⟨GA,c7⟩:∃GA,GA=H.set t (ak (⟨6,0,[[.q0 (T.n:Int),D.rv,.sl 1 A p 0 (ae T.aT),.sl 1 X db 0 (ae T.out),.sl 1 z cver 0 (ae D.aV),.sl 4 W f 0 (ae T.out+1)]]⟩:bz)):=⟨_,rfl⟩;have ga:∀id,id≠t->∀w,aI GA id w=aI H id w:=fun id U w=>by rw[c7,aS (ait U)]
 have g5:aI GA t 0=ak ⟨6,0,[[.q0 (T.n:Int),D.rv,.sl 1 A p 0 (ae T.aT),.sl 1 X db 0 (ae T.out),.sl 1 z cver 0 (ae D.aV),.sl 4 W f 0 (ae T.out+1)]]⟩:=by rw[c7,bn n5]
 have g4:ae GA=ae H:=by rw[c7,ah8]
 have l0:aI GA x 0=ak ⟨1,0,[[.ptr t 0 0 0]]⟩:=by rw[ga x O];exact hx.ob
 have m5:∀K,bk GA x 0 K=K ⟨1,0,[[.ptr t 0 0 0]]⟩:=aK (by rw[ga x O];exact hx.ob);have m4:∀K,bk GA t 0 K=K ⟨6,0,[[.q0 (T.n:Int),D.rv,.sl 1 A p 0 (ae T.aT),.sl 1 X db 0 (ae T.out),.sl 1 z cver 0 (ae D.aV),.sl 4 W f 0 (ae T.out+1)]]⟩:=aK g5;simp only[go_sem,↓reduceIte,ahZ,aia,hX,hT,r1,r2,<-c7,m5,m4,ei];have f4:aI GA A p=ak ⟨1,p,(T.aT.map cN)++c9⟩:=by rw[ga A tb];exact m6
 refine qt (Bx (n:=ae T.aT) (i:=i) f4 bW aO aD) (tf f4) ?_;obtain ⟨V,a3⟩:∃V,V=GA.set A (ak (⟨1,p,aB (T.aT.map cN) i++[.q0 0]::c9⟩:bz)):=⟨_,rfl⟩;have d0:aI V t 0=ak ⟨6,0,[[.q0 (T.n:Int),D.rv,.sl 1 A p 0 (ae T.aT),.sl 1 X db 0 (ae T.out),.sl 1 z cver 0 (ae D.aV),.sl 4 W f 0 (ae T.out+1)]]⟩:=by rw[a3,aS tb];exact g5
 have j2:∀K,bk V t 0 K=K ⟨6,0,[[.q0 (T.n:Int),D.rv,.sl 1 A p 0 (ae T.aT),.sl 1 X db 0 (ae T.out),.sl 1 z cver 0 (ae D.aV),.sl 4 W f 0 (ae T.out+1)]]⟩:=aK d0;have h3:ae V=ae H:=by rw[a3,ah8,g4]
 obtain ⟨S,b4⟩:∃S,S=V.set t (ak (⟨6,0,[[.q0 (T.n:Int),D.rv,.sl 1 A p 0 (ae T.aT - 1),.sl 1 X db 0 (ae T.out),.sl 1 z cver 0 (ae D.aV),.sl 4 W f 0 (ae T.out+1)]]⟩:bz)):=⟨_,rfl⟩;have h4:aI S t 0=ak ⟨6,0,[[.q0 (T.n:Int),D.rv,.sl 1 A p 0 (ae T.aT - 1),.sl 1 X db 0 (ae T.out),.sl 1 z cver 0 (ae D.aV),.sl 4 W f 0 (ae T.out+1)]]⟩:=by rw[b4,bn (aP d0)]
 have e5:ae S=ae H:=by rw[b4,ah8,h3]
 have c3:∀id,id≠t->id≠A->∀w,aI S id w=aI GA id w:=fun id U B w=>by rw[b4,aS (ait U),a3,aS (ait B)]
 have l1:aI S A p=ak ⟨1,p,aB (T.aT.map cN) i++[.q0 0]::c9⟩:=by rw[b4,aS (ait tb),a3,bn (aP f4)]
 have o2:aL GA S [t,A]:=⟨by rw[e5,g4];exact ahZ _,fun id _ B w=>by simp at B;exact c3 id B.1 B.2 w⟩;have g7:List.drop (ae GA) V=[]:=aih aD;have g8:List.drop (ae V) S=[]:=aih aD;have g9:(ae S=ae GA)=True:=aiq aD;have g6:aI S x 0=ak ⟨1,0,[[.ptr t 0 0 0]]⟩:=by rw[c3 x O (ait xb)];exact l0
 have j3:∀K,bk S x 0 K=K ⟨1,0,[[.ptr t 0 0 0]]⟩:=aK g6;have f1:∀K,bk S t 0 K=K ⟨6,0,[[.q0 (T.n:Int),D.rv,.sl 1 A p 0 (ae T.aT - 1),.sl 1 X db 0 (ae T.out),.sl 1 z cver 0 (ae D.aV),.sl 4 W f 0 (ae T.out+1)]]⟩:=aK h4;rw[<-a3];simp only[go_sem,↓reduceIte,Nat.reduceLeDiff,aia,ig,akg,aly,ajz,aiS,ajE,ake,ak7,aG,j2,<-b4,g7,g8,g9,n7,j3,f1,ei];have f5:aI S z cver=ak ⟨1,cver,(D.aV.map fun v=>[v])++g0⟩:=by rw[c3 z tc (ait bc),ga z tc];exact m8
 refine qt (Hh (n:=ae D.aV) (i:=i) f5 bW aO aD) (tf f5) ?_;obtain ⟨a0,a4⟩:∃a0,a0=S.set z (ak (⟨1,cver,aB (D.aV.map fun v=>[v]) i++[.nil]::g0⟩:bz)):=⟨_,rfl⟩;have d1:aI a0 t 0=ak ⟨6,0,[[.q0 (T.n:Int),D.rv,.sl 1 A p 0 (ae T.aT - 1),.sl 1 X db 0 (ae T.out),.sl 1 z cver 0 (ae D.aV),.sl 4 W f 0 (ae T.out+1)]]⟩:=by rw[a4,aS tc];exact h4
 have j4:∀K,bk a0 t 0 K=K ⟨6,0,[[.q0 (T.n:Int),D.rv,.sl 1 A p 0 (ae T.aT - 1),.sl 1 X db 0 (ae T.out),.sl 1 z cver 0 (ae D.aV),.sl 4 W f 0 (ae T.out+1)]]⟩:=aK d1;have h9:ae a0=ae H:=by rw[a4,ah8,e5]
 obtain ⟨I,b5⟩:∃I,I=a0.set t (ak (⟨6,0,[[.q0 (T.n:Int),D.rv,.sl 1 A p 0 (ae T.aT - 1),.sl 1 X db 0 (ae T.out),.sl 1 z cver 0 (ae D.aV - 1),.sl 4 W f 0 (ae T.out+1)]]⟩:bz)):=⟨_,rfl⟩;have e6:aI I t 0=ak ⟨6,0,[[.q0 (T.n:Int),D.rv,.sl 1 A p 0 (ae T.aT - 1),.sl 1 X db 0 (ae T.out),.sl 1 z cver 0 (ae D.aV - 1),.sl 4 W f 0 (ae T.out+1)]]⟩:=by rw[b5,bn (aP d1)]
 have c4:ae I=ae H:=by rw[b5,ah8,h9]
 have c5:∀id,id≠t->id≠z->∀w,aI I id w=aI S id w:=fun id U B w=>by rw[b5,aS (ait U),a4,aS (ait B)]
 have l2:aI I z cver=ak ⟨1,cver,aB (D.aV.map fun v=>[v]) i++[.nil]::g0⟩:=by rw[b5,aS (ait tc),a4,bn (aP f5)]
 have o3:aL S I [t,z]:=⟨by rw[c4,e5];exact ahZ _,fun id _ B w=>by simp at B;exact c5 id B.1 B.2 w⟩;have h6:List.drop (ae S) a0=[]:=aih aD;have h7:List.drop (ae a0) I=[]:=aih aD;have h8:(ae I=ae S)=True:=aiq aD;have h5:aI I x 0=ak ⟨1,0,[[.ptr t 0 0 0]]⟩:=by rw[c5 x O (ait xc)];exact g6
 have j5:∀K,bk I x 0 K=K ⟨1,0,[[.ptr t 0 0 0]]⟩:=aK h5;have f2:∀K,bk I t 0 K=K ⟨6,0,[[.q0 (T.n:Int),D.rv,.sl 1 A p 0 (ae T.aT - 1),.sl 1 X db 0 (ae T.out),.sl 1 z cver 0 (ae D.aV - 1),.sl 4 W f 0 (ae T.out+1)]]⟩:=aK e6;rw[<-a4];simp only[go_sem,↓reduceIte,Nat.reduceLeDiff,aia,ig,akg,aly,ajz,aiS,ajE,ake,ak7,aG,j4,<-b5,h6,h7,h8,n8,j5,f2,ek];have l3:aI I A p=ak ⟨1,p,aB (T.aT.map cN) i++[.q0 0]::c9⟩:=by rw[c5 A tb bc];exact l1
 have Jd:aL H I [t,A,z]:=⟨by rw[c4];exact ahZ _,fun id _ B w=>by simp at B;rw[c5 id B.1 B.2.2,c3 id B.1 B.2.1,ga id B.1]⟩;have c0:=h.rD hi m7 R (by rw[J,b2]) (by rw[e6,L,b2,a7]) l3 l2 Jd;obtain ⟨DC,a8⟩:∃DC:bD,DC={D with vb := .sl 1 A p 0 (ae T.aT - 1),vc := .sl 1 z cver 0 (ae T.cells - 1),vg:=af D.aV i .ba,aV:=aB D.aV i}:=⟨_,rfl⟩;rw[<-a8] at c0;have e2:bK H I t D DC:=by
  refine bK.put Jd (by rintro id C;simp at C;rcases C with rfl | rfl | rfl;exact .inl (.inl rfl);exact .inl ib;exact .inl ic) ?_;rintro id (rfl | ⟨q,hq⟩)
  .exact .inl (.inl rfl)
  .left;right;rw[a8] at hq;cases q with
   | b=>exact ⟨.b,by simp only[bD.v,R] at hq ⊢;simpa[aG] using hq⟩
   | o=>exact ⟨.o,hq⟩
   | c=>exact ⟨.c,by simp only[bD.v,J] at hq ⊢;simpa[aG] using hq⟩
   | g=>exact ⟨.r i,hq⟩
   | r j =>
    simp only[bD.v,getD_erase] at hq;split at hq
    .exact ⟨.r j,hq⟩
    .exact ⟨.r (j+1),hq⟩
 have c2:DC.vo = .sl 1 X db 0 (ae T.out):=by rw[a8];exact a7
 have b3:DC.vg = .sl 4 W f 0 (ae T.out+1):=by rw[a8];exact L
 have n6:X≠W:=fun E=>c0.sep .o .g aO X (by simp only[bD.v,c2];simp[aG]) (by simp only[bD.v,b3];simp[aG,E]);have f7:aI I X db=ak ⟨1,db,(T.out.map cN)++g1⟩:=by
  have:X∉[t,A,z]:=by simp only[aiz,ajr,akD,alJ];exact ⟨to,fun E=>h.sep .o .b aO X (by simp only[bD.v,a7];simp[aG]) (by simp only[bD.v,R];simp[aG,E]),fun E=>h.sep .o .c aO X (by simp only[bD.v,a7];simp[aG]) (by simp only[bD.v,J];simp[aG,E])⟩
  rw[Jd.2 X (aP k2) this];exact k2
 refine qt (Bx (n:=ae T.out) (i:=k) f7 bW aO aD) (tf f7) ?_;obtain ⟨a1,a5⟩:∃a1,a1=I.set X (ak (⟨1,db,aB (T.out.map cN) k++[.q0 0]::g1⟩:bz)):=⟨_,rfl⟩;have d2:aI a1 t 0=ak ⟨6,0,[[.q0 (T.n:Int),D.rv,.sl 1 A p 0 (ae T.aT - 1),.sl 1 X db 0 (ae T.out),.sl 1 z cver 0 (ae D.aV - 1),.sl 4 W f 0 (ae T.out+1)]]⟩:=by rw[a5,aS to];exact e6
 have j6:∀K,bk a1 t 0 K=K ⟨6,0,[[.q0 (T.n:Int),D.rv,.sl 1 A p 0 (ae T.aT - 1),.sl 1 X db 0 (ae T.out),.sl 1 z cver 0 (ae D.aV - 1),.sl 4 W f 0 (ae T.out+1)]]⟩:=aK d2;have i5:ae a1=ae H:=by rw[a5,ah8,c4]
 obtain ⟨N,b6⟩:∃N,N=a1.set t (ak (⟨6,0,[[.q0 (T.n:Int),D.rv,.sl 1 A p 0 (ae T.aT - 1),.sl 1 X db 0 (ae T.out - 1),.sl 1 z cver 0 (ae D.aV - 1),.sl 4 W f 0 (ae T.out+1)]]⟩:bz)):=⟨_,rfl⟩;have e9:aI N t 0=ak ⟨6,0,[[.q0 (T.n:Int),D.rv,.sl 1 A p 0 (ae T.aT - 1),.sl 1 X db 0 (ae T.out - 1),.sl 1 z cver 0 (ae D.aV - 1),.sl 4 W f 0 (ae T.out+1)]]⟩:=by rw[b6,bn (aP d2)]
 have e7:ae N=ae H:=by rw[b6,ah8,i5]
 have e8:∀id,id≠t->id≠X->∀w,aI N id w=aI I id w:=fun id U B w=>by rw[b6,aS (ait U),a5,aS (ait B)]
 have l4:aI N X db=ak ⟨1,db,aB (T.out.map cN) k++[.q0 0]::g1⟩:=by rw[b6,aS (ait to),a5,bn (aP f7)]
 have i4:aL I N [t,X]:=⟨by rw[e7,c4];exact ahZ _,fun id _ B w=>by simp at B;exact e8 id B.1 B.2 w⟩;have i1:List.drop (ae I) a1=[]:=aih aD;have i2:List.drop (ae a1) N=[]:=aih aD;have i3:(ae N=ae I)=True:=aiq aD;have i0:aI N x 0=ak ⟨1,0,[[.ptr t 0 0 0]]⟩:=by rw[e8 x O (ait xo)];exact h5
 have j7:∀K,bk N x 0 K=K ⟨1,0,[[.ptr t 0 0 0]]⟩:=aK i0;have f3:∀K,bk N t 0 K=K ⟨6,0,[[.q0 (T.n:Int),D.rv,.sl 1 A p 0 (ae T.aT - 1),.sl 1 X db 0 (ae T.out - 1),.sl 1 z cver 0 (ae D.aV - 1),.sl 4 W f 0 (ae T.out+1)]]⟩:=aK e9;rw[<-a5];simp only[go_sem,↓reduceIte,Nat.reduceLeDiff,aia,ig,akg,aly,ajz,aiS,ajE,ake,ak7,aG,j6,<-b6,i1,i2,i3,n9,j7,f3,ek,l9];have f8:aI N W f=ak ⟨4,f,((af T.cells i []).map qC)++g2⟩:=by
  have:W∉[t,A,z]:=by simp only[aiz,ajr,akD,alJ];exact ⟨tr,fun E=>h.sep (.r i) .b aO W (by simp only[bD.v,L];simp[aG]) (by simp only[bD.v,R];simp[aG,E]),fun E=>h.sep (.r i) .c aO W (by simp only[bD.v,L];simp[aG]) (by simp only[bD.v,J];simp[aG,E])⟩
  rw[e8 W tr (ait n6),Jd.2 W (aP k4) this];exact k4
 have k8:=c0.NK (a:=X) (ver:=db) (n:=ae T.out - 1) (l:=aB T.out k) (.inl (by simp only[bD.v,c2];simp[aG])) (by rw[aiP hk]) (by rw[e9,a8,L,b2];rfl) ⟨_,by rw[<-qH];exact l4⟩ i4;have e4:bK I N t DC {DC with vo := .sl 1 X db 0 (ae T.out - 1)}:=bK.put i4 (by rintro id C;simp at C;rcases C with rfl | rfl;exact .inl (.inl rfl);exact .inl (.inr ⟨.o,by simp only[bD.v,c2];simp[aG]⟩))
  (rh (s0 := .o) (a:=X) (fun s hs=>by cases s<;>first | rfl | exact absurd rfl hs) (fun id C=>by simpa[bD.v,aG] using C) (.inl (.inr ⟨.o,by simp only[bD.v,c2];simp[aG]⟩)));refine qt (KY (n:=ae T.out+1) (i:=(k+1)) f8 (by rw[ah3,F i hi];omega) (by rw[ah3,F i hi]) aD) (tf f8) ?_;obtain ⟨a2,a6⟩:∃a2,a2=N.set W (ak (⟨4,f,aB ((af T.cells i []).map qC) (k+1)++[.q0 0,.nil,.q0 0,.nil]::g2⟩:bz)):=⟨_,rfl⟩;have d6:aI a2 t 0=ak ⟨6,0,[[.q0 (T.n:Int),D.rv,.sl 1 A p 0 (ae T.aT - 1),.sl 1 X db 0 (ae T.out - 1),.sl 1 z cver 0 (ae D.aV - 1),.sl 4 W f 0 (ae T.out+1)]]⟩:=by rw[a6,aS tr];exact e9
 have d7:∀K,bk a2 t 0 K=K ⟨6,0,[[.q0 (T.n:Int),D.rv,.sl 1 A p 0 (ae T.aT - 1),.sl 1 X db 0 (ae T.out - 1),.sl 1 z cver 0 (ae D.aV - 1),.sl 4 W f 0 (ae T.out+1)]]⟩:=aK d6;have i7:ae a2=ae H:=by rw[a6,ah8,e7]
 obtain ⟨GE,b1⟩:∃GE,GE=a2.set t (ak (⟨6,0,[[.q0 (T.n:Int),D.rv,.sl 1 A p 0 (ae T.aT - 1),.sl 1 X db 0 (ae T.out - 1),.sl 1 z cver 0 (ae D.aV - 1),.sl 4 W f 0 (ae T.out+1 - 1)]]⟩:bz)):=⟨_,rfl⟩;have i9:aI GE t 0=ak ⟨6,0,[[.q0 (T.n:Int),D.rv,.sl 1 A p 0 (ae T.aT - 1),.sl 1 X db 0 (ae T.out - 1),.sl 1 z cver 0 (ae D.aV - 1),.sl 4 W f 0 (ae T.out+1 - 1)]]⟩:=by rw[b1,bn (aP d6)]
 have l7:ae GE=ae H:=by rw[b1,ah8,i7]
 have i8:∀id,id≠t->id≠W->∀w,aI GE id w=aI N id w:=fun id U B w=>by rw[b1,aS (ait U),a6,aS (ait B)]
 have l6:aI GE W f=ak ⟨4,f,aB ((af T.cells i []).map qC) (k+1)++[.q0 0,.nil,.q0 0,.nil]::g2⟩:=by rw[b1,aS (ait tr),a6,bn (aP f8)]
 have i6:aL N GE [t,W]:=⟨by rw[l7,e7];exact ahZ _,fun id _ B w=>by simp at B;exact i8 id B.1 B.2 w⟩;have d3:List.drop (ae N) a2=[]:=aih aD;have d4:List.drop (ae a2) GE=[]:=aih aD;have d5:(ae GE=ae N)=True:=aiq aD;have l5:aI GE x 0=ak ⟨1,0,[[.ptr t 0 0 0]]⟩:=by rw[i8 x O (ait xr)];exact i0
 have d8:∀K,bk GE x 0 K=K ⟨1,0,[[.ptr t 0 0 0]]⟩:=aK l5;have b7:∀K,bk GE t 0 K=K ⟨6,0,[[.q0 (T.n:Int),D.rv,.sl 1 A p 0 (ae T.aT - 1),.sl 1 X db 0 (ae T.out - 1),.sl 1 z cver 0 (ae D.aV - 1),.sl 4 W f 0 (ae T.out+1 - 1)]]⟩:=aK i9;rw[<-a6];simp only[go_sem,↓reduceIte,ahZ,aia,ig,akg,aly,ajz,aiS,ajE,ake,ak7,aG,d7,<-b1,d3,d4,d5,o0,d8,b7];have o1:({DC with vo := .sl 1 X db 0 (ae T.out - 1)}:bD).vg = .sl 4 W f 0 (ae T.out+1):=b3;have c1:=k8.PK (a:=W) (ver:=f) (n:=ae T.out+1 - 1) (l:=aB (af T.cells i []) (k+1)) (.inl (by simp only[bD.v,b3];simp[aG])) (by rw[aiP (by rw[F i hi];omega),F i hi]) (by rw[i9,a8,b2];rfl) ⟨_,by rw[<-qH];exact l6⟩ i6;have b0:bK N GE t {DC with vo := .sl 1 X db 0 (ae T.out - 1)} {DC with vo := .sl 1 X db 0 (ae T.out - 1),vg := .sl 4 W f 0 (ae T.out+1 - 1)}:=bK.put i6 (by rintro id C;simp at C;rcases C with rfl | rfl;exact .inl (.inl rfl);exact .inl (.inr ⟨.g,by simp only[bD.v,b3];simp[aG]⟩))
  (rh (s0 := .g) (a:=W) (fun s hs=>by cases s<;>first | rfl | exact absurd rfl hs) (fun id C=>by simpa[bD.v,aG] using C) (.inl (.inr ⟨.g,by simp only[bD.v,b3];simp[aG]⟩)));have d9:ae (aB T.cells i)=ae T.cells - 1:=aiP hi;obtain ⟨DE,f0⟩:∃DE:bD,DE={DC with vo := .sl 1 X db 0 (ae T.out - 1),vg := .sl 4 W f 0 (ae T.out+1 - 1)}:=⟨_,rfl⟩;rw[<-f0] at c1 b0;have g3:DE.vc = .sl 1 z cver 0 (ae T.cells - 1):=by rw[f0,a8]
 have k3:=((ho.trans e2).trans e4).trans b0;have k5:=((hx.gS e2).gS e4).gS b0;have n2:ae D.aV - 1=ae T.cells - 1:=by rw[b2]
 rw[n2];clear b1 d3 d4 d5 d8 b7 d7;refine aZ (fun m e Hc=>∃c G,c<=ae T.cells - 1/\m=ae T.cells - 1 - c/\ck Hc t G {T.dG i k with cells:=mP (aB T.cells i) k c}/\bK H0 Hc t D0 G/\jN H0 Hc t G x (.ptr t 0 0 0)/\G.vc = .sl 1 z cver 0 (ae T.cells - 1) /\
  e=[(1,.ptr x 0 0 0),(17,.q0 (k:Int)),(305,.q0 ((ae T.cells - 1:Nat):Int)),(306,.q0 (c:Int))]) (n:=ae T.cells - 1)
  ⟨0,DE,aiL _,rfl,by rw[QG];exact c1,k3,k5,g3,rfl⟩ ?_;clear c1 k3 k5 g3 b0 f0;rintro m _ Hc ⟨c,G,hc,rfl,M,oc,bx,a9,rfl⟩;have o6:=bx.gM;have o5:∀K,bk Hc t 0 K=K ⟨6,0,[[.q0 (T.n:Int),G.rv,G.vb,G.vo,.sl 1 z cver 0 (ae T.cells - 1),G.vg]]⟩:=aK (by rw[<-a9];exact M.bF);have n1:ae G.aV=ae T.cells - 1:=by rw[M.cl];show ae (mP _ _ _)=_;rw[KX,d9]
 by_cases o7:(c:Int) < ((ae T.cells - 1:Nat):Int)
 .have j8:c < ae T.cells - 1:=by omega
  have e3:=ws c;have e0:af (mP (aB T.cells i) k c) c []=af (aB T.cells i) c []:=RV aD;have b9:ae (af (aB T.cells i) c [])=ae T.out+1:=by
   rw[getD_erase];split
   .exact F c aD
   .exact F (c+1) aD
  have f6:c < ae (mP (aB T.cells i) k c):=by rw[KX];omega
  have ⟨a,ver,b8,k9,c8⟩:=(M.rws c f6).kP ((M.live.1 c f6).2 (by show 2<=ae (af (mP _ _ _) c []);rw[e0,b9];omega));simp only[e0] at b8 c8;rw[ah3,b9] at b8;have n3:=QE (cs:=aB T.cells i) (k:=k) (c:=c) aD;generalize af (aB T.cells i) c []=row at *;have ia:fJ t G a := .inr ⟨.r c,by simp only[bD.v,b8];simp[aG]⟩;have f9:a∈aG (G.v (.r c)):=by simp only[bD.v,b8];simp[aG]
  have k6:z∈aG (G.v .c):=by simp only[bD.v,a9];simp[aG]
  have O8:a≠t:=fun E=>M.top (.r c) (E ▸ f9);have ax:a≠x:=fun E=>bx.out (E ▸ ia);have act:a≠z:=fun E=>M.sep (.r c) .c aO a f9 (E ▸ k6);have l8:(a=x)=False:=aie ax;have j0:(a=t)=False:=aie O8;have j9:(G.aV.map fun v=>[v])[c]?=ak [af G.aV c .ba]:=by simp[af,show c < ae G.aV by omega]
  have ⟨p5,s1,s2⟩:=M.cells.cZ.read j9;rw[a9] at s1;rw[b8] at s2;obtain ⟨G1,c6⟩:∃G1,G1=Hc.set a (ak (⟨4,ver,aB (row.map qC) (k+1)++[.q0 0,.nil,.q0 0,.nil]::k9⟩:bz)):=⟨_,rfl⟩;have o4:ae G1=ae Hc:=by rw[c6,ah8]
  have j1:∀id,id≠a->∀w,aI G1 id w=aI Hc id w:=fun id U w=>by rw[c6,aS (ait U)]
  have m0:aI G1 a ver=ak ⟨4,ver,aB (row.map qC) (k+1)++[.q0 0,.nil,.q0 0,.nil]::k9⟩:=by rw[c6,bn (aP c8)]
  have k0:SlL Hc 1 z cver (G.aV.map fun v=>[v]):=by
   rcases M.cells with ⟨U,_⟩ | ⟨id,ver,U,B⟩
   .rw[a9] at U;simp at U
   .rw[a9] at U;simp at U;obtain ⟨rfl,rfl,_⟩:=U;exact B
  have k1:SlL G1 1 z cver (G.aV.map fun v=>[v]):=by obtain ⟨tl,hq⟩:=k0;exact ⟨tl,by rw[j1 z (ait act)];exact hq⟩
  have ⟨p6,u1,_,_,uw⟩:=k1.rw (i:=c) (n:=ae T.cells - 1) bW bW (by intro y hy;obtain ⟨b,_,rfl⟩:=aiw.1 hy;rfl);have ⟨G2,w1,w2,w3,w4⟩:=uw (.sl 4 a ver 0 (ae T.out+1 - 1)) rfl rfl;have m1:List.drop (ae Hc) G1=[]:=aih aD;have m2:List.drop (ae G1) G2=[]:=aih aD;have m3:(ae G2=ae Hc)=True:=aiq aD;have kk:aL Hc G2 [a,z]:=⟨aD,fun id _ B w=>by simp at B;rw[w4 id B.2,j1 id B.1]⟩;have n4:SlL G2 4 a ver ((aB row (k+1)).map qC):=⟨_,by rw[w4 a act,<-qH];exact m0⟩;have k7:=M.SZ (r:=c) (a:=a) (ver:=ver) (n:=ae T.out+1 - 1) (l:=aB row (k+1)) (ca:=z) (cver:=cver) f6 (.inl f9) (by rw[aiP (by omega),b9]) (by rw[n1];exact a9) n4 w2 kk;have e1:bK Hc G2 t G {G with aV:=G.aV.set c (.sl 4 a ver 0 (ae T.out+1 - 1))}:=bK.put kk (by rintro id C;simp at C;rcases C with rfl | rfl;exact .inl ia;exact .inl (.inr ⟨.c,k6⟩))
   (rh (s0 := .r c) (a:=a) (fun s hs=>by
    cases s with
    | r j=>(have:j≠c:=by simpa using hs);(simp only[bD.v];exact dN this)
    | _=>rfl) (fun id C=>by simp only[bD.v] at C;rw[eu (by omega)] at C;simpa[aG] using C) (.inl ia));refine Z ?_;refine qt (KY (n:=ae T.out+1) (i:=k+1) c8 (by rw[ah3,b9];omega) (by rw[ah3,b9]) aD) (tf c8) ?_;rw[<-c6];simp only[go_sem,↓reduceIte,ig,akg,aly,ajz,aiS,ajE,ake,ak7,aG,u1,w1,m1,m2,m3,l8,j0,e3];exact ⟨ae T.cells - 1 - (c+1),aD,c+1,_,j8,rfl,by rw[n3];exact k7,oc.trans e1,bx.gS e1,a9,rfl⟩
 .have m9:c=ae T.cells - 1:=aD;subst m9;refine Z ?_;refine ⟨G,oc,rfl,?_⟩;have e:T.dG i k={T.dG i k with cells:=mP (aB T.cells i) k (ae T.cells - 1)}:=by rw[<-d9,RU];rfl
  rw[e];exact M
def Tab.bZ (T:Tab):Int:=T.n+ae T.aU
def Tab.jv (T:Tab) (i:Nat) (v:Int):Bool:=T.du v && !decide ((af (af T.cells i []) (az (da T.out v+1)) ah).top=0)
def Tab.mI (T:Tab) (i:Nat):Int:=fW T.out (T.jv i)
def OQ {i:Nat} (h:ck H t D T) (a:fQ T) (m:aI H x 0=ak ⟨1,0,[[.ptr t 0 0 0]]⟩) (q:aI H b 0=ak ⟨1,0,[[.q0 (i:Int)]]⟩) (e:i < ae T.cells) (v:Int) :
  bR prog 162 [.q0 v,.ptr x 0 0 0,.ptr b 0 0 0] H (.v0 (T.jv i v)) H:=by
 refine cw func162 ?_;have p:=aK h.bF;have o:=aK q;have f:=aK m;have r:=a.wl;refine Z1 f ?_;refine gk (wm h a.nl a.rl) ?_;cases hv:T.du v with
 | true =>
  have c:(D.aV.map fun v=>[v])[i]?=ak [af D.aV i .ba]:=by simp[af,show i < ae D.aV by rw[h.cl];exact e]
  have ⟨C,s,K⟩:=h.cells.cZ.read c;have ⟨A,B⟩:=tN T.out v;have l:=a.row i e;obtain ⟨j,g⟩:∃j:Nat,da T.out v+1=(j:Int):=⟨az (da T.out v+1),aD⟩;have n:au .i64 (da T.out v+1)=(j:Int):=by rw[wrap_i64 aD aD];exact g
  have ⟨E,X,W⟩:=(h.rws i e).read (i:=j) (iW aD);have w:T.jv i v = !decide ((af (af T.cells i []) j ah).top=0):=by unfold Tab.jv;rw[g,ah9,hv];simp
  generalize m:af (af T.cells i []) j ah=y at *;refine Z5 f p o s K ?_;refine gk (vV h.out.cZ aD) ?_;refine Z3 n X W ?_;refine aH (j9 y) (by simp[bE]) rfl ?_;by_cases z:y.top=0
  .have k:(y.top.sign=0)=True:=by rw[qM];exact aiq z
   refine Z1 k ?_;rw[w,z];exact dJ (Wk1.refl _)
  .have k:(y.top.sign=0)=False:=by rw[qM];exact aie z
   refine Z1 k ?_;have:T.jv i v=aq:=by rw[w];simp[z]
   rw[this];exact dJ (Wk1.refl _)
 | false =>
  refine Z ?_;have:T.jv i v=ar:=by unfold Tab.jv;rw[hv];simp
  rw[this];exact dJ (Wk1.refl _)
def Tab.fE (T:Tab):Tab:=if da T.aT T.bZ < 0 then T else T.dt (az (da T.aT T.bZ)) (az (T.mI (az (da T.aT T.bZ))))
structure Mx (T:Tab):Prop where
 w:fQ T
 w':fQ T.fE
 col:0<=da T.aT T.bZ->0<=T.mI (da T.aT T.bZ).toNat/\((T.cells.getD (da T.aT T.bZ).toNat []).getD ((T.mI (da T.aT T.bZ).toNat).toNat+1) default).top≠0
 ko:0<=da T.fE.out T.bZ
 io:0<=da T.fE.aT (-1)
def Tab.back (T:Tab):Tab:=T.fE.dG (az (da T.fE.aT (-1))) (az (da T.fE.out T.bZ))
def Xc (o:Mx T) (h:ck H t D T) (ho:bK g H t W D) (M:jN g H t D x (.ptr t 0 0 0)) :
  WP prog K pM (iZ [.t 2,.t 3] (AM g t W T.back an)) [(1,.ptr x 0 0 0),(7,.q0 T.bZ),(12,v1),(194,v2)] H:=by
 refine uz ?_;have p:=o.w;have a5:=p.wl;have a4:=p.ml;have a1:=p.bl;have hT:∀K,bk H t 0 K=K ⟨6,0,[[.q0 (T.n:Int),D.rv,D.vb,D.vo,D.vc,D.vg]]⟩:=aK h.bF;have hX:=M.gM;have rest:∀(G:aF) (z:bD) (v3 v4:AV),ck G t z T.fE->bK g G t W z->jN g G t z x (.ptr t 0 0 0)->∀e:Env,lk 1 e = .ptr x 0 0 0->lk 7 e = .q0 T.bZ ->
   WP prog K pj (iZ [.t 2,.t 3] (AM g t W T.back an)) e G:=by
  intro G z v3 v4 X og O e a2 a3;refine uz ?_;have V:∀K,bk G t 0 K=K ⟨6,0,[[.q0 (T.fE.n:Int),z.rv,z.vb,z.vo,z.vc,z.vg]]⟩:=aK X.bF;have a0:=O.gM;have a:=o.w';have L:=a.bl;refine Z ?_;refine dS (vV X.out.cZ (cn a.wl)) ?_;refine Z ?_;refine dS (vV X.aT.cZ (cn a.ml)) ?_;refine Z ?_;have g1:=(tN T.fE.out T.bZ).2;have g2:=(tN T.fE.aT (-1)).2;have U:=o.ko;have g4:=o.io;obtain ⟨k,c⟩:∃k:Nat,da T.fE.out T.bZ=(k:Int):=⟨az (da T.fE.out T.bZ),aD⟩;obtain ⟨i,l⟩:∃i:Nat,da T.fE.aT (-1)=(i:Int):=⟨az (da T.fE.aT (-1)),aD⟩;have b:T.back=T.fE.dG i k:=by unfold Tab.back;rw[c,l,ah9,ah9]
  rw[b,c,l];exact Xd X a og O aD aD
 refine Z ?_;refine dS (vV h.aT.cZ aD) ?_;have s:aL H (H++[ak (⟨1,0,[[.q0 (da T.aT T.bZ)]]⟩:bz)]) []:=aL.app _ _ _;have f:=h.aQ s aO;have q:=M.aQ s aO;have I:=ho.trans (bK.aQ s);have A:∀K,bk (H++[ak (⟨1,0,[[.q0 (da T.aT T.bZ)]]⟩:bz)]) t 0 K=K ⟨6,0,[[.q0 (T.n:Int),D.rv,D.vb,D.vo,D.vc,D.vg]]⟩:=aK f.bF;have B:=q.gM;by_cases C:0<=da T.aT T.bZ
 .have ⟨J,r⟩:=o.col C;have g2:=(tN T.aT T.bZ).2;obtain ⟨i,l⟩:∃i:Nat,da T.aT T.bZ=(i:Int):=⟨az (da T.aT T.bZ),aD⟩;have y:T.fE=T.dt i (az (T.mI i)):=by unfold Tab.fE;rw[ah0 aD,l,ah9]
  have m:i < ae T.cells:=aD;rw[l] at C J r A B f q I s ⊢;rw[ah9] at J r;have U:=(Db T.out (T.jv i)).2;have j:fW T.out (T.jv i)=T.mI i:=rfl;obtain ⟨k,c⟩:∃k:Nat,T.mI i=(k:Int):=⟨az (T.mI i),aD⟩;rw[c,ah9] at r;have E:(0<=(i:Int))=True:=aiq aD;refine Z ?_;refine dS (Fu f.out.cZ aD (fun v _=>OQ f p q.ob ct m v)) ?_;rw[j,c];refine Z ?_;refine cQ (zY f p (i:=i) (k:=k) m aD r) ?_;rintro _ S ⟨rfl,R,t5,N⟩;refine Z ?_;have F:=rest S R .ba .ba (by rw[y,c,ah9];exact t5) (I.trans N) (q.gS N) [(1,.ptr x 0 0 0),(7,.q0 T.bZ)] rfl rfl;exact F
 .have y:T.fE=T:=by unfold Tab.fE;rw[ah1 aD]
  have E:(0<=da T.aT T.bZ)=False:=aie C;refine Z ?_;have F:=rest _ D .ba .ba (by rw[y];exact f) I q [(1,.ptr x 0 0 0),(7,.q0 T.bZ),(15,.ptr (ae H) 0 0 0),(224,.v0 ar)] rfl rfl;exact F
def pH.same (h:pH n T x r):x.n=T.n/\x.aU=T.aU/\fQ x:=by
 induction h with
 | stop y _=>exact ⟨rfl,rfl,y⟩
 | go y k _ z =>
  unfold Tab.mq at k;split at k
  .simp at k
  .split at k
   .simp at k
   .cases k;exact z
def Tab.HV (T:Tab):List Q:=(T.mult T.aM).map fun x=>x.div (af T.aM 0 ah)
inductive CJ (T:Tab):Tab->Option (List Q)->Prop
 | bad:0 < (T.aM.getD 0 default).top->CJ T T (some T.HV)
 | Fp:¬0 < (T.aM.getD 0 default).top->Mx T->CJ T T.back none
def PV {x:Int}:(0 < x.sign)=(0 < x):=propext amV
def Xb (hw:fQ T1) (hi:w < ae T1.cells) (h0:T1.out≠[]) (hp:(af (af T1.cells w []) (ae T1.out - 1+1) ah).top≠0)
  (hd:pH n (T1.dt w (ae T1.out - 1)) z r) (hf:CJ z T' res) (h:ck H t D T1) (ho:bK H0 H t D0 D) (hx:jN H0 H t D x (.ptr t 0 0 0)) :
  WP prog K pL (iZ [.t 2,.t 3] (AM H0 t D0 T' res)) [(1,.ptr x 0 0 0),(4,.q0 (w:Int)),(7,.q0 T1.bZ)] H:=by
 refine uz ?_;have jz:0 < ae T1.out:=akb.2 h0;have b1:=hw.wl;have hT:∀K,bk H t 0 K=K ⟨6,0,[[.q0 (T1.n:Int),D.rv,D.vb,D.vo,D.vc,D.vg]]⟩:=aK h.bF;have hX:=hx.gM;have a3:∀K,gH D.vo K=K (.q0 (ae T1.out:Int)):=fun K=>by rw[h.out.cZ.fN,ah3]
 have e1:au .i64 ((ae T1.out:Int) - 1)=((ae T1.out - 1:Nat):Int):=by rw[wrap_i64 aD aD];omega
 refine Z ?_;refine cQ (zY h hw (i:=w) (k:=ae T1.out - 1) hi aD hp) ?_;rintro _ H2 ⟨rfl,D2,t2,o2⟩;have x2:=hx.gS o2;have a6:=x2.gM;refine Z ?_;refine cQ (C4 hd t2) ?_;rintro _ a ⟨rfl,o,t3,o3⟩;have x3:=x2.gS o3;have a7:=x3.gM;have ⟨sn,sr,g⟩:=hd.same;have R:T1.bZ=z.bZ:=by unfold Tab.bZ;rw[sn,sr];rfl
 rw[R];have a4:∀K,bk a t 0 K=K ⟨6,0,[[.q0 (z.n:Int),o.rv,o.vb,o.vo,o.vc,o.vg]]⟩:=aK t3.bF;have a9:=g.gl;have a2:=g.wl;have G:=g.nl;have I:=g.rl;have ⟨p,p1,p2⟩:=(t3.aM.cZ aD).read (i:=0) (iW aD);have b2:∀(t:IntKind) (K:AV->Prop),mZ 4 o.vg (.c (.int t 0)) K=K p:=p1;have p8:=g.mU _ (ec (show 0 < ae z.aM by omega));have A:=(ho.trans o2).trans o3;generalize W:af z.aM 0 ah=c at *;refine Z ?_;refine aH (j9 c) (by simp[bE]) rfl ?_;have T:aL a (a++[ak ⟨4,0,[qC c]⟩]) []:=aL.app _ _ _;have J:=t3.aQ T aO;have xc:=x3.aQ T aO;have a5:∀K,bk (a++[ak ⟨4,0,[qC c]⟩]) t 0 K=K ⟨6,0,[[.q0 (z.n:Int),o.rv,o.vb,o.vo,o.vc,o.vg]]⟩:=aK J.bF;have a8:=xc.gM;cases hf with
 | bad v =>
  rw[W] at v;have C:(0 < c.top.sign)=True:=by rw[PV];exact aiq v
  have O:c.top≠0:=aD;refine Z ?_;refine jJ (cR.Zv (Kx J G I aD (J.aM.cZ aD) aD)) ?_;have a1:ae (z.mult z.aM)=ae z.aU:=wM _ _ _;have V:∀y,y∈z.mult z.aM->QOk 100000 y:=Jv g.mU aD _ (ahZ _);have E:z.HV=(z.mult z.aM).map fun y=>y.div c:=by unfold Tab.HV;rw[W]
  rw[E];generalize z.mult z.aM=l at *;obtain ⟨B,q⟩:∃B,B=a++[ak (⟨4,0,[qC c]⟩:bz),ak ⟨4,0,l.map qC⟩]:=⟨_,rfl⟩;have k4:aL a B []:=by rw[q];exact aL.app _ _ _
  have s:aI B (ae a) 0=ak ⟨4,0,[qC c]⟩:=by rw[q];exact ct
  have b:aI B (ae a+1) 0=ak ⟨4,0,(mS (fun y=>y.div c) l 0).map qC⟩:=by rw[q,Jk];simp[aI]
  simp only[go_sem,↓reduceIte,aia,aiF,aiV,aje,aiy];rw[<-q];have b0:ae l < 1000000:=aD;refine aZ (fun m e L=>∃j,j<=ae l/\m=ae l - j/\aL a L []/\aI L (ae a) 0=ak ⟨4,0,[qC c]⟩/\aI L (ae a+1) 0=ak ⟨4,0,(mS (fun y=>y.div c) l j).map qC⟩ /\
   e=[(12,.ptr (ae a) 0 0 0),(13,.sl 4 (ae a+1) 0 0 (ae l)),(202,.q0 (ae l:Int)),(203,.q0 (j:Int))]) (n:=ae l)
   ⟨0,aiL _,rfl,k4,s,b,rfl⟩ ?_;clear q k4 s b;rintro m' _ Hl ⟨j,hj,rfl,U,s,b,rfl⟩;have M:∀K,bk Hl (ae a) 0 K=K ⟨4,0,[qC c]⟩:=aK s;have ml:=Lu (f:=fun y=>y.div c) (l:=l) (j:=j);by_cases F:(j:Int) < (ae l:Int)
  .have X:j < ae l:=aD;have e3:au .i64 ((j:Int)+1)=((j+1:Nat):Int):=by rw[wrap_i64 aD aD];rfl
   have ⟨p5,u1,u2,_,uw⟩:=SlL.NV b (i:=j) (n:=ae l) (by rw[ah3,ml];exact X) (by rw[ah3,ml]) jC;rw[show af (List.map qC (mS (fun y=>y.div c) l j)) j []=qC (af l j ah) by have:=Lt (f:=fun y=>y.div c) X;simp only[af] at this ⊢;rw[ajp];rw[ah6 aD] at this ⊢;simp only[ai9,ai3] at this ⊢;rw[this]] at u2;have a0:=V _ (ec X);have S:=Jj (f:=fun y=>y.div c) X;have ⟨Hn,w1,w2,w3,w4⟩:=uw (qA ((af l j ah).div c)) rfl (sX _);generalize hy:af l j ah=y at *;refine Z4 F u1 u2 M ?_;refine aH (Cq y c (a0.mono aR) (p8.mono aR) O) (by simp[bE]) (bE _) ?_;refine Y3 u1 w1 e3 ?_;exact ⟨ae l - (j+1),aD,j+1,X,rfl,⟨by rw[w3];exact U.1,fun id h1 h2 w=>by rw[w4 id aD];exact U.2 id h1 h2 w⟩,by rw[w4 _ aD];exact s,by rw[S,ajF];exact w2,rfl⟩
  .have N:j=ae l:=aD;subst N;rw[Ls] at b;refine Y1 F ?_;exact ⟨o,A.trans (bK.aQ U),ae a+1,aO,aiJ A.len (Nat.le_succ _),b⟩
 | Fp v hq =>
  rw[W] at v;have C:(0 < c.top.sign)=False:=by rw[PV];exact aie v
  refine Z ?_;exact Xc hq J (A.trans (bK.aQ T)) xc
def tx {H:aF} {k:Nat} {v:AV} {xs:List (List AV)} (h:SlV H k v xs) (W:Dt v) (A:ae xs < 4000000000) (y:List AV) (t:(∀x,x∈xs->x.all (bp (ae H))=aq)/\y.all (bp (ae H))=aq) :
  ∃a ver H',(∀K,bX k v [y] H K=K (.sl k a ver 0 (ae xs+1)) H')/\SlL H' k a ver (xs++[y])/\uL (ae H) (aG v)=[a]/\aL H H' (aG v)/\(a∈aG v\/a=ae H)/\(H'.drop (ae H)).all (cg (ae H))=aq/\(∀id,id∈aG v->id=a):=by
 have c:∀(e:List (List AV)),(∀x,x∈e->x.all (bp (ae H))=aq)->((H++[ak (⟨k,0,e⟩:bz)]).drop (ae H)).all (cg (ae H))=aq:=by intro e p;rw[akV];simp only[ais,ajd,aiM,cg,ah4];intro x q;exact ah4.1 (p x q)
 have b:∀x,x∈xs++[y]->x.all (bp (ae H))=aq:=by
  intro x p;rcases aiE.1 p with m | m
  .exact t.1 x m
  .simp at m;rw[m];exact t.2
 cases h with
 | nil =>
  refine ⟨ae H,0,H++[ak ⟨k,0,[y]⟩],fun K=>?_,⟨[],bu ct⟩,rfl,aL.app _ _ _,.inr rfl,c _ b,by simp[aG]⟩;rw[vD];simp
 | seq =>
  rename_i f;have X:=W;subst X;refine ⟨ae H,0,H++[ak ⟨k,0,xs++[y]⟩],fun K=>?_,⟨[],bu ct⟩,rfl,aL.app _ _ _,.inr rfl,c _ b,by simp[aG]⟩;have:il k H (.seq k aq xs) [y]=ak (.sl k (ae H) 0 0 (ae xs+1),H++[ak ⟨k,0,xs++[y]⟩]):=by show (if k=k/\ae xs+1<=4294967296 then _ else an)=_;rw[ah1 ⟨rfl,aD⟩];rfl
  simp only[bX,this];rfl
 | sl n =>
  rename_i id ver l;have i:=aP n;have g:∀o,((H.set id o).drop (ae H)).all (cg (ae H))=aq:=fun o=>by rw[aih aO];rfl
  have s:∀o,aL H (H.set id o) [id]:=fun o=>⟨aO,fun j _ r w=>by simp at r;exact aS (ait r)⟩;cases l with
  | nil =>
   rw[aiu] at n;refine ⟨id,ver+1,H.set id (ak ⟨k,ver+1,xs++[y]⟩),fun K=>?_,⟨[],by rw[bn i];simp⟩,rfl,s _,.inl (by simp[aG]),g _,by simp[aG]⟩;rw[oM n aO];refine propext ⟨fun h=>?_,fun h=>⟨rfl,bW,?_⟩⟩
   .simpa using h.2.2
   .simpa using h
  | cons z l =>
   refine ⟨id,ver,H.set id (ak ⟨k,ver,xs++[y]++l⟩),fun K=>?_,⟨l,by rw[bn i]⟩,rfl,s _,.inl (by simp[aG]),g _,by simp[aG]⟩;have:il k H (.sl k id ver 0 (ae xs)) [y]=ak (.sl k id ver 0 (ae xs+1),H.set id (ak ⟨k,ver,xs++[y]++l⟩)):=by rw[Kf,n];simp only[aix];rw[ah0 aO,ah1 ⟨trivial,aO,trivial⟩];congr 3;simp
   simp only[bX,this];rfl
def ck.Uw (h:ck H t D T) (x:aL H H' (aG D.vg)):ck H' t D {T with aM:=[]}:=by have cK:=fun s w y k=>h.sep s .g w y k;refine ⟨?_,h.aU.aQ x (fun y k=>by rw[h.lI] at k;simp at k),h.lI,h.aT.aQ x (cK .b aO),h.out.aQ x (cK .o aO),h.cells.aQ x (cK .c aO),h.cl,fun i a=>(h.rws i a).aQ x (cK (.r i) aO),⟨fun z=>absurd rfl z,fun y k=>aiB (h.aM.2 y k) x.1⟩,⟨h.live.1,h.live.2.1,fun z=>by simp at z⟩,h.top,h.sep⟩;rw[x.2 t (aP h.bF) (h.top .g)];exact h.bF
def ck.XD (h:ck H t D T) (C:¬fJ t D a) (J:n=ae l) (i:lf t D .c ca) (K:a≠ca) (hm:m=ae T.cells+1)
  (M:aI H' t 0=ak ⟨6,0,[[.q0 (T.n:Int),D.rv,D.vb,D.vo,.sl 1 ca cver 0 m,D.vg]]⟩) (L:SlL H' 4 a ver (l.map qC)) (N:SlL H' 1 ca cver ((D.aV.map fun v=>[v])++[[.sl 4 a ver 0 n]])) (W:aL H H' [t,ca]) :
  ck H' t {D with vc := .sl 1 ca cver 0 m,aV:=D.aV++[.sl 4 a ver 0 n]} {T with cells:=T.cells++[l]}:=by
 have p:=h.cl;have cK:∀s,s ≠ .c->∀w,w∈aG (D.v s)->w∉[t,ca]:=fun s E w k hm=>by
  simp at hm;rcases hm with rfl | rfl
  .exact h.top s k
  .exact i.ne h E k
 have B:∀j,af (D.aV++[AV.sl 4 a ver 0 n]) j .ba=if j < ae D.aV then af D.aV j .ba else if j=ae D.aV then .sl 4 a ver 0 n else .ba:=by
  intro j;simp only[af];rcases aj0 j (ae D.aV) with y | y | y
  .rw[aic y,ah1 y]
  .subst y;simp
  .rw[aiO bW,ah0 aD,ah0 aD];rfl
 have I:∀j,af (T.cells++[l]) j []=if j < ae T.cells then af T.cells j [] else if j=ae T.cells then l else []:=by
  intro j;simp only[af];rcases aj0 j (ae T.cells) with y | y | y
  .rw[aic y,ah1 y]
  .subst y;simp
  .rw[aiO bW,ah0 aD,ah0 aD];rfl
 have e:∀s w,w∈aG (({D with vc := .sl 1 ca cver 0 m,aV:=D.aV++[.sl 4 a ver 0 n]}:bD).v s)->(s = .c/\w=ca)\/(s = .r (ae D.aV)/\w=a)\/(s ≠ .c/\w∈aG (D.v s)):=by
  intro s w k;cases s with
  | c=>left;exact ⟨rfl,by simpa[bD.v,aG] using k⟩
  | r j =>
   right;simp only[bD.v,B] at k;split at k
   .exact .inr ⟨aO,by simpa[bD.v] using k⟩
   .split at k
    .rename_i y;left;exact ⟨by rw[y],by simpa[aG] using k⟩
    .simp[aG] at k
  | b=>exact .inr (.inr ⟨aO,k⟩)
  | o=>exact .inr (.inr ⟨aO,k⟩)
  | g=>exact .inr (.inr ⟨aO,k⟩)
 refine ⟨M,h.aU.aQ W (fun w k=>by rw[h.lI] at k;simp at k),h.lI,h.aT.aQ W (cK .b aO),h.out.aQ W (cK .o aO),.inr ⟨ca,cver,?_,?_⟩,by simp[p],fun j y=>?_,h.aM.aQ W (cK .g aO),⟨fun j y=>?_,h.live.2⟩,fun s hm=>?_,fun s G q w k X=>?_⟩
 .simp[hm,p]
 .rw[aii];exact N
 .simp only[ain,aiF,aiV] at y;show SlV H' 4 (af (D.aV++[AV.sl 4 a ver 0 n]) j .ba) ((af (T.cells++[l]) j []).map qC);rw[B,I,p];by_cases x:j < ae T.cells
  .rw[ah1 x,ah1 x];exact (h.rws j x).aQ W (cK (.r j) aO)
  .rw[ah0 x,ah0 x,ah1 aD,ah1 aD];exact L.cZ (bu J)
 .simp only[ain,aiF,aiV] at y;show zO (af (D.aV++[AV.sl 4 a ver 0 n]) j .ba) (af (T.cells++[l]) j []);rw[B,I,p];by_cases x:j < ae T.cells
  .rw[ah1 x,ah1 x];exact h.live.1 j x
  .rw[ah0 x,ah0 x,ah1 aD,ah1 aD];exact vW
 .rcases e s t hm with ⟨rfl,z⟩ | ⟨rfl,z⟩ | ⟨_,z⟩
  .exact i.nt h z.symm
  .exact C (.inl z.symm)
  .exact h.top s z
 .rcases e s w k with ⟨rfl,z⟩ | ⟨rfl,z⟩ | ⟨F,z⟩<;>rcases e G w X with ⟨rfl,f⟩ | ⟨rfl,f⟩ | ⟨A,f⟩
  .exact q rfl
  .exact K (f ▸ z)
  .exact i.ne h A (z ▸ f)
  .exact K (z ▸ f)
  .exact q rfl
  .exact C (.inr ⟨G,z ▸ f⟩)
  .exact i.ne h F (f ▸ z)
  .exact C (.inr ⟨s,f ▸ z⟩)
  .exact h.sep s G q w z f
end
section
variable {P:Program} {N:Nat}
def cS.mono (h:cS P w g e H K) (y:∀v H',K v H'->K' v H'):cS P w g e H K':=by
 unfold cS at h ⊢;split at h
 .split at h
  .have ⟨Post,k,x⟩:=h;exact ⟨Post,k,fun v H' c=>y _ _ (x v H' c)⟩
  .have ⟨v,H',k,x⟩:=h;exact ⟨v,H',k,y _ _ x⟩
  .have ⟨v,k,x⟩:=h;exact ⟨v,k,y _ _ x⟩
  .have ⟨v,k,x⟩:=h;exact ⟨v,k,y _ _ x⟩
  .have ⟨v,a,f,z,k,x,b⟩:=h;exact ⟨v,a,f,z,k,x,y _ _ b⟩
 .split at h
  .exact y _ _ h
  .exact h
def RW.mono {y:Md}:∀{ops:List bU} {e:Env} {H:aF} {Q k:Env->aF->Prop},RW P y ops e H Q->(∀e H,Q e H->k e H)->RW P y ops e H k
 | [],e,H,Q,k,h,x=>x _ _ h
 | o::r,e,H,Q,k,h,x=>by
  unfold RW at h ⊢;split at h
  .exact h.mono fun v H' z=>RW.mono z x
  .exact RW.mono h x
  .exact h
def RWC.mono:∀{ops:List bU} {i:Nat} {e:Env} {H:aF} {acc:List (Nat × List Nat × List Nat)} {Q k:Env->aF->List (Nat × List Nat × List Nat)->Prop},RWC P i ops e H acc Q->(∀e H a,Q e H a->k e H a)->RWC P i ops e H acc k
 | [],i,e,H,acc,Q,k,h,x=>x _ _ _ h
 | o::r,i,e,H,acc,Q,k,h,x=>by
  unfold RWC at h ⊢;split at h
  .exact h.mono fun v H' y=>⟨y.1,RWC.mono y.2 x⟩
  .exact RWC.mono h x
  .exact h
def WP.mono:∀{c:cF} {Q y:cx} {e:Env} {H:aF},WP P N c Q e H->(∀x e H,Q x e H->y x e H)->WP P N c y e H
 | .skip,Q,y,e,H,h,k=>k _ _ _ h
 | .xG aY ops,Q,y,e,H,h,k=>RW.mono h fun e H h=>k _ _ _ h
 | .BL aY w ops,Q,y,e,H,h,k=>RW.mono h fun e H h=>k _ _ _ h
 | .xY aY w eQ ops,Q,y,e,H,h,k=>RWC.mono h fun e H a h=>⟨h.1,k _ _ _ h.2⟩
 | .Aa aY w eQ ops,Q,y,e,H,h,k=>RWC.mono h fun e H a h=>⟨h.1,k _ _ _ h.2⟩
 | .DM aY w ops r,Q,y,e,H,h,k=>RW.mono h fun e H h=>RW.mono h fun e H h=>k _ _ _ h
 | .seq a b,Q,y,e,H,h,k=>WP.mono (c:=a) h fun x e H h=>by
  cases x with
  | normal=>exact WP.mono (c:=b) h k
  | _=>exact k _ _ _ h
 | .cond c a b,Q,y,e,H,h,k=>by have ⟨t,m,n,o⟩:=h;exact ⟨t,m,fun f=>WP.mono (n f) k,fun f=>WP.mono (o f) k⟩
 | .block id a,Q,y,e,H,h,k=>WP.mono (c:=a) h fun x e H h=>by
  cases x with
  | exit i =>
   revert h
   show (if i=id then _ else _)->if i=id then _ else _
   by_cases z:i=id
   .rw[ah1 z,ah1 z];exact k _ _ _
   .rw[ah0 z,ah0 z];exact k _ _ _
  | _=>exact k _ _ _ h
 | .loop aY a,Q,y,e,H,h,k=>fun p=>(h p).mono k
 | .exit id,Q,y,e,H,h,k=>k _ _ _ h
 | .wk a,Q,y,e,H,h,k=>by obtain ⟨j,g,q,h⟩:=h;exact ⟨j,g,q,WP.mono (c:=a) h k⟩
 | .label l,Q,y,e,H,h,k=>k _ _ _ h
 | .ret,Q,y,e,H,h,k=>k _ _ _ h
 | .Ab _ _ _ _,Q,y,e,H,h,k=>h.elim
 | .Eu _ _ _ _,Q,y,e,H,h,k=>h.elim
 | .bad,Q,y,e,H,h,k=>h.elim
def WP.use {c:cF} {Q k:cx} {e y:Env} {H H':aF} (h:WP P N c Q y H') (w:e=y) (z:H=H') (a:∀x e H,Q x e H->k x e H):WP P N c k e H:=by subst w z;exact h.mono a
end
section
variable {P:Program}
def Tab.q8 (T:Tab):List Q:=(aA (ae T.out+2) ah).set (ae T.out+1) Q.one
def Tab.nU (T:Tab):Tab:={T with out:=T.out++[T.bZ],aM:=T.q8}
def Tab.sJ (T:Tab) (i:Nat):List Q:=af T.cells i []++[if T.du (af T.aT i 0)=aq then Q.one else ah]
def Tab.kK (T:Tab) (c:Nat):List (List Q):=(aC (ae T.cells)).map fun i=>if i < c then T.sJ i else af T.cells i []
def Tab.ext (T:Tab):Tab:={T.nU with cells:=T.kK (ae T.cells)++[T.aM++[ah]],aT:=T.aT++[-1]}
def iU {T:Tab} {c:Nat}:ae (T.kK c)=ae T.cells:=by simp[Tab.kK]
def K6 {T:Tab} {c i:Nat} (h:i < ae T.cells):af (T.kK c) i []=if i < c then T.sJ i else af T.cells i []:=by simp[Tab.kK,af,h]
def QS {T:Tab}:T.kK 0=T.cells:=by apply akH (by simp[Tab.kK]);intro i k h;simp[Tab.kK,af,h]
def QR {T:Tab} {c:Nat} (z:c < ae T.cells):T.kK (c+1)=(T.kK c).set c (T.sJ c):=by
 unfold Tab.kK;apply akH aO;intro i x y;simp only[amd,alY,ame];by_cases h:c=i
 .subst h;simp
 .rw[ah0 h];by_cases k:i < c
  .rw[ah1 aD,ah1 k]
  .rw[ah0 aD,ah0 k]
def SlV.fj {H:aF} {k:Nat} {v:AV} {xs:List (List AV)} (h:SlV H k v xs):Fx.bp (ae H) v=aq:=by
 cases h with
 | nil=>rfl
 | seq=>rfl
 | sl h=>simp[Fx.bp];exact aP h
def FN (n:Nat) (a:Q):(qC a).all (bp n)=aq:=by show (bp n (.q0 (zv a.top))&&(bp n (zd a.top)&&(bp n (.q0 (zv a.low))&&(bp n (zd a.low)&&aq))))=aq;rw[At,At];rfl
def Mv (a:Q):(qC a).all dM=aq:=by show (dM (.q0 (zv a.top))&&(dM (zd a.top)&&(dM (.q0 (zv a.low))&&(dM (zd a.low)&&aq))))=aq;rw[WH,WH];rfl
structure qX (H:aF) (t:Nat) (D:bD) (a ver:Nat) (l:List Q):Prop where
 sl:SlL H 4 a ver (l.map qC)
 out:¬fJ t D a
def qX.lt (h:qX H t D a ver l):a < ae H:=by obtain ⟨⟨_,h⟩,_⟩:=h;exact aP h
def qX.aQ (h:qX H t D a ver l) (k:aL H H' ids) (x:a∉ids):qX H' t D a ver l:=⟨h.sl.aQ k x,h.out⟩
def qX.gS (h:qX H t D a ver l) (o:bK H H' t D D'):qX H' t D' a ver l :=
 ⟨by obtain ⟨y,x⟩:=h.sl;exact ⟨y,by rw[o.aY a h.lt h.out];exact x⟩,fun k=>(o.new a k).elim h.out (fun z=>cn h.lt)⟩
def UH (hw:fQ T) (H:c < ae T.cells) (b5:T.sJ c=af T.cells c []++[q])
  (p:ck g t h {T.nU with cells:=T.kK c}) (oq:bK V g t D0 h) (U:jN V g t h x (.ptr t 0 0 0)) (S:qX g t h E gv (T.aM++[ah])) (c0:h.vb=vb) (hO:aI g b 0=ak ⟨4,0,[qC q]⟩) :
  WP prog K kO (fun ex e G=>ex = .normal/\∃D,ck G t D {T.nU with cells:=T.kK (c+1)}/\bK V G t D0 D/\jN V G t D x (.ptr t 0 0 0)/\qX G t D E gv (T.aM++[ah])/\D.vb=vb /\
    e=[(1,.ptr x 0 0 0),(4,.q0 (w:Int)),(7,.q0 T.bZ),(8,.sl 4 E gv 0 (ae T.aM+1)),(127,vb),(128,.q0 (ae T.cells:Int)),(129,.q0 (c:Int))])
   ((1,.ptr x 0 0 0)::(4,.q0 (w:Int))::(7,.q0 T.bZ)::(8,.sl 4 E gv 0 (ae T.aM+1))::(9,.q0 (c:Int))::(11,.ptr b 0 0 0)::(127,vb)::(128,.q0 (ae T.cells:Int))::(129,.q0 (c:Int))::er) g:=by
 refine uz ?_;have c5:=hw.wl;have b8:=QR H;have b3:∀K,bk g b 0 K=K ⟨4,0,[qC q]⟩:=aK hO;have ⟨k,cver,m,c1,b6⟩:=p.cells.live (fun h0=>by have F:=akS ae h0;simp only[ah3,aiV] at F;have:=p.cl;rw[iU] at this;omega);have W:=p.cl;rw[iU] at W;rw[ah3,W] at m;have B:k∈aG (h.v .c):=by simp only[bD.v,m];simp[aG]
 have hT:∀K,bk g t 0 K=K ⟨6,0,[[.q0 (T.n:Int),h.rv,h.vb,h.vo,.sl 1 k cver 0 (ae T.cells),h.vg]]⟩:=aK (by rw[<-m];exact p.bF);have hX:=U.gM;have A:c < ae (T.kK c):=by rw[iU];exact H
 have L:af (T.kK c) c []=af T.cells c []:=by rw[K6 H,ah0 (by omega)]
 have rws:=p.rws c A;have lv:=(p.live.1 c A).1;simp only[L] at rws;have b4:(h.aV.map fun v=>[v])[c]?=ak [af h.aV c .ba]:=by simp[af,show c < ae h.aV by omega]
 have ⟨p3,r1,r2⟩:=p.cells.cZ.read b4;rw[m] at r1;have J:=hw.row c H;have ⟨a,ver,G,a1,a2,a3,a4,R,a6,a7⟩:=tx rws lv (by rw[ah3,J];omega) (qC q) ⟨fun y hy=>by obtain ⟨b,_,rfl⟩:=aiw.1 hy;exact FN _ b,FN _ q⟩;rw[ah3] at a1;have a9:=rws.cell;generalize X:af h.aV c .ba=rv at *;have own:lf t h (.r c) a:=by
  rcases R with f | f
  .left;simp only[bD.v,X];exact f
  .right;intro b7;have:=p.lt b7;omega
 have act:a≠k:=by rintro rfl;exact own.ne p (s' := .c) aO B
 have a0:a≠t:=own.nt p;have ax:a≠x:=by
  rintro rfl;rcases R with f | f
  .exact U.out (.inr ⟨.r c,by simp only[bD.v,X];exact f⟩)
  .have:=U.lt;omega
 have ag:E≠a:=by
  rintro rfl;rcases R with f | f
  .exact S.out (.inr ⟨.r c,by simp only[bD.v,X];exact f⟩)
  .have:=S.lt;omega
 have c2:E≠k:=fun he=>S.out (.inr ⟨.c,he ▸ B⟩);have a8:(a=x)=False:=aie ax;have O8:(a=t)=False:=aie a0;have ka:aL g G [a]:=a4.mono (fun C z=>by simp;exact a7 C z);have I:SlL G 1 k cver (h.aV.map fun v=>[v]):=(show SlL g 1 k cver _ from ⟨c1,b6⟩).aQ ka (bu (ait act));have ⟨p6,u1,_,_,uw⟩:=I.rw (i:=c) (n:=ae T.cells) bW bW (by intro y hy;obtain ⟨b,_,rfl⟩:=aiw.1 hy;rfl);have ⟨O,w1,w2,w3,w4⟩:=uw (.sl 4 a ver 0 (ae (af T.cells c [])+1)) rfl rfl;have c3:True:=trivial;have b1:List.drop (ae G) O=[]:=aih aD;have kk:aL g O [a,k]:=⟨by rw[w3];exact ka.1,fun C f F w=>by simp at F;rw[w4 C F.2,ka.2 C f (by simpa using F.1)]⟩;have b9:SlL O 4 a ver (((af T.cells c [])++[q]).map qC):=by obtain ⟨tl,hq⟩:=a2;exact ⟨tl,by rw[w4 a act,hq];simp⟩
 have N:=p.SZ (r:=c) (a:=a) (ver:=ver) (n:=ae (af T.cells c [])+1) (l:=af T.cells c []++[q]) (ca:=k) (cver:=cver) A own aO (by rw[W];exact m) b9 w2 kk;have M:fJ t h a\/ae g<=a:=by
  rcases R with f | f
  .exact .inl (.inr ⟨.r c,by simp only[bD.v,X];exact f⟩)
  .right;omega
 have o:bK g O t h {h with aV:=h.aV.set c (.sl 4 a ver 0 (ae (af T.cells c [])+1))}:=bK.put kk (by rintro C z;simp at z;rcases z with rfl | rfl;exact M;exact .inl (.inr ⟨.c,B⟩))
  (rh (s0 := .r c) (a:=a) (fun s hs=>by
   cases s with
   | r j=>(have:j≠c:=by simpa using hs);(simp only[bD.v];exact dN this)
   | _=>rfl) (fun C z=>by simp only[bD.v] at z;rw[eu (by omega)] at z;simpa[aG] using z) M);have c4:((AV.agg (qC q)).cells.all dM&&(AV.agg (qC q)).cells.length==4)=aq:=by show ((qC q).all dM&&_)=aq;rw[Mv];rfl
 have b0:p6=p3:=by have:=(u1 .i64 (·=p3)).symm.trans (r1 .i64 (·=p3));simpa using this
 subst b0;have b2:((4==4&&aq)=aq)=True:=aR;simp only[go_sem,↓reduceIte,ahZ,aia,ig,alV,akg,aly,ajz,hT,hX,r1,r2,b3,a1,a3,a6,w1,b1,a8,O8,b2];refine ⟨_,?_,oq.trans o,U.gS o,S.gS o,c0⟩;rw[b8,b5];exact N
def MC:j4 k a (.sl k (ae H) 0 0 1) (H++[ak ⟨k,0,[y]⟩]) K=bX k a [y] (H++[ak ⟨k,0,[y]⟩]) K:=by
 have:dW k (H++[ak ⟨k,0,[y]⟩]) (.sl k (ae H) 0 0 1)=ak [y]:=by simp only[dW,ct,aix];simp
 simp only[j4,this,aix,bX]
def SlN.gr {H:aF} {k:Nat} {v:AV} {xs:List (List AV)} (h:SlN H k v xs):Dt v:=by rcases h with ⟨rfl,_⟩ | ⟨_,_,rfl,_⟩<;>exact trivial
def UG (hw:fQ T)
  (f1:fQ T.ext) (hi:w < ae T.ext.cells) (hp:(af (af T.ext.cells w []) (ae T.ext.out - 1+1) ah).top≠0) (hd:pH n (T.ext.dt w (ae T.ext.out - 1)) T3 r) (hf:CJ T3 T' res)
  (h:ck H t D T.nU) (ho:bK R H t D0 D) (J:jN R H t D x (.ptr t 0 0 0)) (U:qX H t D A F (T.aM++[ah])) (e4:A≠x) (e3:fJ t D0 A\/ae R<=A) :
  WP prog K ph (iZ [.t 2,.t 3] (AM R t D0 T' res)) [(1,.ptr x 0 0 0),(4,.q0 (w:Int)),(7,.q0 T.bZ),(8,.sl 4 A F 0 (ae T.aM+1))] H:=by
 refine uz ?_;have h0:=hw.wl;have g9:=hw.ml;have c1:=hw.bl;have e5:=hw.nl;have e6:=hw.rl;have hT:∀K,bk H t 0 K=K ⟨6,0,[[.q0 (T.n:Int),D.rv,D.vb,D.vo,D.vc,D.vg]]⟩:=aK h.bF;have hX:=J.gM;have d5:∀K,gH D.vb K=K (.q0 (ae T.cells:Int)):=fun K=>by rw[h.aT.cZ.fN,ah3];show K (.q0 (ae T.aT:Int))=_;rw[c1]
 refine Z ?_;refine aZ (fun m e B=>∃c i,c<=ae T.cells/\m=ae T.cells - c/\ck B t i {T.nU with cells:=T.kK c}/\bK R B t D0 i/\jN R B t i x (.ptr t 0 0 0)/\qX B t i A F (T.aM++[ah])/\i.vb=D.vb /\
  e=[(1,.ptr x 0 0 0),(4,.q0 (w:Int)),(7,.q0 T.bZ),(8,.sl 4 A F 0 (ae T.aM+1)),(127,D.vb),(128,.q0 (ae T.cells:Int)),(129,.q0 (c:Int))]) (n:=ae T.cells)
  ⟨0,D,aiL _,rfl,by rw[QS];exact h,ho,J,U,rfl,rfl⟩ ?_;clear h ho J U hT hX d5;rintro m _ B ⟨c,i,hc,rfl,h,ho,J,U,c6,rfl⟩;have h5:=J.lt;have e9:=aP h.bF;have c7:x≠t:=fun he=>J.out (.inl he);have g8:=U.lt;by_cases c2:(c:Int) < (ae T.cells:Int)
 .have d9:c < ae T.cells:=aD;have e1:=ws c;obtain ⟨p,p1,p2⟩:=h.aT.cZ.read (et (show c < ae T.aT by omega));rw[c6] at p1;have f6:∀(ag:Bool) (n:Nat) (K:AV->Prop),LdP ag n p B K=iX ag [.q0 (af T.aT c 0)] 0 n K:=p2;have c3:T.sJ c=af T.cells c []++[if T.du (af T.aT c 0)=aq then Q.one else ah]:=rfl;have go:∀(cq:Q) (er:Env),T.sJ c=af T.cells c []++[cq]->WP prog K kO (fun ex e G=>ex = .normal/\∃k,ck G t k {T.nU with cells:=T.kK (c+1)}/\bK R G t D0 k/\jN R G t k x (.ptr t 0 0 0)/\qX G t k A F (T.aM++[ah])/\k.vb=D.vb /\
    e=[(1,.ptr x 0 0 0),(4,.q0 (w:Int)),(7,.q0 T.bZ),(8,.sl 4 A F 0 (ae T.aM+1)),(127,D.vb),(128,.q0 (ae T.cells:Int)),(129,.q0 (c:Int))])
    ((1,.ptr x 0 0 0)::(4,.q0 (w:Int))::(7,.q0 T.bZ)::(8,.sl 4 A F 0 (ae T.aM+1))::(9,.q0 (c:Int))::(11,.ptr (ae B) 0 0 0)::(127,D.vb)::(128,.q0 (ae T.cells:Int))::(129,.q0 (c:Int))::er) (B++[ak ⟨4,0,[qC cq]⟩]):=fun cq er e2=>by have kq:=aL.app B [ak (⟨4,0,[qC cq]⟩:bz)] [];exact UH hw d9 e2 (h.aQ kq aO) (ho.trans (bK.aQ kq)) (J.aQ kq aO) (U.aQ kq aO) c6 ct
  have hz:(B++[ak (⟨4,0,[[.q0 0,.nil,.q0 0,.nil]]⟩:bz)])=B++[ak ⟨4,0,[qC ah]⟩]:=by rw[Ct]
  have k0:=aL.app B [ak (⟨4,0,[qC ah]⟩:bz)] [];have t0:=h.aQ k0 aO;have d7:=(J.aQ k0 aO).gM;generalize hv:af T.aT c 0=v at *;refine Z5 c2 p1 f6 hz d7 ?_;refine dS (wm t0 e5 e6) ?_;have e8:({T.nU with cells:=T.kK c}:Tab).du v=T.du v:=rfl;rw[e8];cases c5:T.du v with
  | true =>
   refine Z ?_;refine aH (ru 1 aR) rfl (bE _) ?_;refine Z ?_;have g0:=go Q.one [] (by rw[c3,c5,ah1 rfl]);rw[show qC Q.one=[.q0 (zv 1),zd 1,.q0 (zv 0),zd 0] from rfl] at g0;refine WP.use g0 rfl rfl ?_;rintro _ e G ⟨rfl,k,g1,g2,g3,g4,g5,rfl⟩;refine Z ?_;exact ⟨ae T.cells - (c+1),aD,c+1,k,aD,rfl,g1,g2,g3,g4,g5,rfl⟩
  | false =>
   refine Z ?_;refine WP.use (go ah [(137,.v0 ar)] (by rw[c3,c5,ah0 (by decide)])) rfl rfl ?_;rintro _ e G ⟨rfl,k,g1,g2,g3,g4,g5,rfl⟩;refine Z ?_;exact ⟨ae T.cells - (c+1),aD,c+1,k,aD,rfl,g1,g2,g3,g4,g5,rfl⟩
 .have e0:c=ae T.cells:=aD;subst e0;have hT:∀K,bk B t 0 K=K ⟨6,0,[[.q0 (T.n:Int),i.rv,i.vb,i.vo,i.vc,i.vg]]⟩:=aK h.bF;have hX:=J.gM;have gb:=h.aT.gr;have cb:=h.aT.cZ.cell;have ⟨a,ver,G,a1,a2,a3,a4,S,a6,a7⟩:=tx h.aT.cZ gb (by rw[ah3];show ae T.aT < _;omega) (cN (-1)) ⟨fun y hy=>by obtain ⟨b,_,rfl⟩:=aiw.1 hy;rfl,rfl⟩;have b7:∀K,bX 1 i.vb [[.q0 (-1)]] B K=K (.sl 1 a ver 0 (ae T.cells+1)) G:=fun K=>by have:=a1 K;rw[ah3] at this;rw[show ae T.cells=ae T.aT from c1.symm];exact this
  have own:lf t i .b a:=by
   rcases S with z | z
   .exact .inl z
   .right;intro N;have:=h.lt N;omega
  have E:a≠t:=own.nt h;have ax:a≠x:=by
   rintro rfl;rcases S with z | z
   .exact J.out (.inr ⟨.b,z⟩)
   .omega
  have V:A≠a:=by
   rintro rfl;rcases S with z | z
   .exact U.out (.inr ⟨.b,z⟩)
   .omega
  have a0:(a=x)=False:=aie ax;have ka:aL B G [a]:=a4.mono (fun q f=>by simp;exact a7 q f);have tG:aI G t 0=ak ⟨6,0,[[.q0 (T.n:Int),i.rv,i.vb,i.vo,i.vc,i.vg]]⟩:=by rw[ka.2 t e9 (by simpa using ait E)];exact h.bF
  have a9:∀K,bk G t 0 K=K ⟨6,0,[[.q0 (T.n:Int),i.rv,i.vb,i.vo,i.vc,i.vg]]⟩:=aK tG;obtain ⟨W,M⟩:∃W,W=G.set t (ak (⟨6,0,[[.q0 (T.n:Int),i.rv,.sl 1 a ver 0 (ae T.cells+1),i.vo,i.vc,i.vg]]⟩:bz)):=⟨_,rfl⟩;have d2:aI W t 0=ak ⟨6,0,[[.q0 (T.n:Int),i.rv,.sl 1 a ver 0 (ae T.cells+1),i.vo,i.vc,i.vg]]⟩:=by rw[M,bn (aP tG)]
  have c9:ae W=ae G:=by rw[M,ah8]
  have b6:∀q,q≠t->∀w,aI W q w=aI G q w:=fun q z w=>by rw[M,aS (ait z)]
  have b8:List.drop (ae G) W=[]:=aih aD;have kk:aL B W [t,a]:=⟨by rw[c9];exact ka.1,fun q z L w=>by simp at L;rw[b6 q L.1,ka.2 q z (by simpa using L.2)]⟩;have c4:SlL W 1 a ver ((T.aT++[-1]).map cN):=by obtain ⟨tl,hq⟩:=a2;exact ⟨tl,by rw[b6 a E,hq,aii];rfl⟩
  have X:=h.NJ (a:=a) (ver:=ver) (n:=ae T.cells+1) (l:=T.aT++[-1]) own bW d2 c4 kk;have O:fJ t i a\/ae B<=a:=by
   rcases S with z | z
   .exact .inl (.inr ⟨.b,z⟩)
   .right;omega
  have C:bK B W t i {i with vb := .sl 1 a ver 0 (ae T.cells+1)}:=bK.put kk (by rintro q f;simp at f;rcases f with rfl | rfl;exact .inl (.inl rfl);exact O)
   (rh (s0 := .b) (a:=a) (fun s U=>by cases s<;>first | rfl | exact absurd rfl U) (fun q f=>by simpa[bD.v,aG] using f) O);obtain ⟨k,b2⟩:∃k:bD,k={i with vb := .sl 1 a ver 0 (ae T.cells+1)}:=⟨_,rfl⟩;have d1:k.rv=i.rv:=by rw[b2]
  rw[<-b2] at X C;have x2:=J.gS C;have s2:=U.gS C;have o2:=ho.trans C;have d8:=x2.gM;simp only[go_sem,↓reduceIte,Nat.reduceLeDiff,aia,ig,akg,aly,ajz,c2,hT,hX,b7,a3,a6,a9,b8,a0,<-M];clear M b2 hT hX a1 b7 a2 a3 a4 S a6 a7 a9 tG d2 c9 b6 b8 kk c4 ka own O E ax a0 V h J U ho C gb cb d1;have h4:({T.nU with cells:=T.kK (ae T.cells),aT:=T.aT++[-1]}:Tab).cells.length=ae T.cells:=iU;have f9:=aP X.bF;have d6:∀K,bk W t 0 K=K ⟨6,0,[[.q0 (T.n:Int),k.rv,k.vb,k.vo,k.vc,k.vg]]⟩:=aK X.bF;have b9:=s2.lt;have f8:=x2.lt;have gc:=X.cells.gr;have cc:=X.cells.cZ.cell;have b4:=X.cl;rw[iU] at b4;obtain ⟨G3,b3⟩:∃G3,G3=W++[ak (⟨1,0,[[.sl 4 A F 0 (ae T.aM+1)]]⟩:bz)]:=⟨_,rfl⟩;have k3:aL W G3 []:=by rw[b3];exact aL.app _ _ _
  have l3:ae G3=ae W+1:=by rw[b3];simp
  have t3:=X.aQ k3 aO;have s3:=s2.aQ k3 aO;have x3:=x2.aQ k3 aO;have g7:=x3.gM;have ⟨a,ver,G4,a1,a2,a3,a4,S,a6,a7⟩:=tx t3.cells.cZ gc (by rw[ah3,b4];omega) [.sl 4 A F 0 (ae T.aM+1)] ⟨fun y hy=>by obtain ⟨b,hb,rfl⟩:=aiw.1 hy;obtain ⟨j,hj,rfl⟩:=ajD.1 hb;have b5:j < ae T.cells:=aD;have:=(t3.rws j (by rw[iU];exact b5)).fj;rw[show af k.aV j .ba=k.aV[j] by simp[af,hj]] at this;simp[this],by simp[bp];omega⟩;rw[ah3,b4] at a1;have own:lf t k .c a:=by
   rcases S with z | z
   .exact .inl z
   .right;intro N;have:=X.lt N;omega
  have E:a≠t:=own.nt X;have ax:a≠x:=by
   rintro rfl;rcases S with z | z
   .exact x2.out (.inr ⟨.c,z⟩)
   .omega
  have V:A≠a:=by
   rintro rfl;rcases S with z | z
   .exact s2.out (.inr ⟨.c,z⟩)
   .omega
  have d4:A≠t:=fun he=>s2.out (.inl he);have a0:(a=x)=False:=aie ax;have f5:(ae W=x)=False:=aie aD;have f4:(ae W=t)=False:=aie aD;have ka:aL G3 G4 [a]:=a4.mono (fun q f=>by simp;exact a7 q f);have tG:aI G4 t 0=ak ⟨6,0,[[.q0 (T.n:Int),k.rv,k.vb,k.vo,k.vc,k.vg]]⟩:=by rw[ka.2 t (by omega) (by simpa using ait E)];exact t3.bF
  have a9:∀K,bk G4 t 0 K=K ⟨6,0,[[.q0 (T.n:Int),k.rv,k.vb,k.vo,k.vc,k.vg]]⟩:=aK tG;obtain ⟨I,a8⟩:∃I,I=G4.set t (ak (⟨6,0,[[.q0 (T.n:Int),k.rv,k.vb,k.vo,.sl 1 a ver 0 (ae T.cells+1),k.vg]]⟩:bz)):=⟨_,rfl⟩;have f7:aI I t 0=ak ⟨6,0,[[.q0 (T.n:Int),k.rv,k.vb,k.vo,.sl 1 a ver 0 (ae T.cells+1),k.vg]]⟩:=by rw[a8,bn (aP tG)]
  have f3:ae I=ae G4:=by rw[a8,ah8]
  have d0:∀q,q≠t->∀w,aI I q w=aI G4 q w:=fun q z w=>by rw[a8,aS (ait z)]
  have d3:List.drop (ae G4) I=[]:=aih aD;have g6:(List.drop (ae W) (W++[ak (⟨1,0,[[.sl 4 A F 0 (ae T.aM+1)]]⟩:bz)])).all (cg (ae W))=aq:=by rw[akV];simp[cg,bp];exact b9
  have f2:aL G3 I [t,a]:=⟨by rw[f3];exact ka.1,fun q z L w=>by simp at L;rw[d0 q L.1,ka.2 q z (by simpa using L.2)]⟩;have kk:aL W I [t,a]:=(k3.mono aO).trans f2;have f0:SlL I 1 a ver ((k.aV.map fun v=>[v])++[[.sl 4 A F 0 (ae T.aM+1)]]):=by obtain ⟨tl,hq⟩:=a2;exact ⟨tl,by rw[d0 a E,hq]⟩
  have e7:SlL I 4 A F ((T.aM++[ah]).map qC):=s2.sl.aQ kk (by simp;exact ⟨d4,V⟩);have b1:=X.XD (a:=A) (ver:=F) (n:=ae T.aM+1) (ca:=a) (cver:=ver) (m:=ae T.cells+1) (l:=T.aM++[ah]) s2.out aO own V (by rw[iU]) f7 e7 f0 kk;have O:fJ t k a\/ae W<=a:=by
   rcases S with z | z
   .exact .inl (.inr ⟨.c,z⟩)
   .right;omega
  simp only[go_sem,↓reduceIte,aia,d8,d6,MC];rw[<-b3];refine ⟨by simp[b9],?_⟩;simp only[go_sem,↓reduceIte,Nat.reduceLeDiff,aia,ig,akg,aly,ajz,a1,a3,a6,a9,<-a8,d3,a0,f5,f4];obtain ⟨D3,c0⟩:∃D3:bD,D3={k with vc := .sl 1 a ver 0 (ae T.cells+1),aV:=k.aV++[.sl 4 A F 0 (ae T.aM+1)]}:=⟨_,rfl⟩;have c8:∀q,fJ t D3 q->fJ t k q\/q=a\/q=A:=by
   rintro q (rfl | ⟨s,f⟩)
   .exact .inl (.inl rfl)
   .rw[c0] at f;cases s with
    | c=>right;left;simpa[bD.v,aG] using f
    | r j =>
     simp only[bD.v,af] at f;rcases aij j (ae k.aV) with hj | hj
     .rw[aic hj] at f;exact .inl (.inr ⟨.r j,f⟩)
     .rcases aij (ae k.aV) j with b5 | b5
      .rw[aiO (by simp;omega)] at f;simp[aG] at f
      .have:j=ae k.aV:=aD;subst this;right;right;simpa[aG] using f
    | b=>exact .inl (.inr ⟨.b,f⟩)
    | o=>exact .inl (.inr ⟨.o,f⟩)
    | g=>exact .inl (.inr ⟨.g,f⟩)
  have b0:fJ t D0 a\/ae R<=a:=by
   rcases O with z | z
   .exact o2.new a z
   .exact .inr (aiJ o2.len z)
  rw[<-c0] at b1;have o5:bK R I t D0 D3:=⟨aiJ o2.len kk.1,fun q z L w=>by
   rw[kk.2 q (aiB z o2.len) (by
    simp;refine ⟨fun he=>L (.inl he),fun he=>?_⟩;subst he;rcases b0 with h3 | h3
    .exact L h3
    .omega),o2.aY q z L],fun q f=>by
   rcases c8 q f with z | rfl | rfl
   .exact o2.new q z
   .exact b0
   .exact e3⟩;have x5:jN R I t D3 x (.ptr t 0 0 0):=⟨by
   rw[kk.2 x f8 (by simp;exact ⟨c7,ait ax⟩)];exact x2.ob,x2.new,fun N=>by
   rcases c8 x N with z | z | z
   .exact x2.out z
   .exact ax z.symm
   .exact e4 z.symm⟩;exact Xb (T1:=T.ext) f1 hi (by simp[Tab.ext,Tab.nU]) hp hd hf b1 o5 x5
def Xa (V:fQ T)
  (f2:fQ T.ext) (hi:w < ae T.ext.cells) (hp:(af (af T.ext.cells w []) (ae T.ext.out - 1+1) ah).top≠0) (hd:pH n (T.ext.dt w (ae T.ext.out - 1)) T3 r) (hf:CJ T3 T' res)
  (h:ck H t D T) (ho:bK H0 H t D0 D) (hx:jN H0 H t D x (.ptr t 0 0 0)) :
  WP prog K pK (iZ [.t 2,.t 3] (AM H0 t D0 T' res)) ((1,.ptr x 0 0 0)::(4,.q0 (w:Int))::er) H:=by
 refine uz ?_;have h0:=V.wl;have g6:=V.ml;have g3:=V.bl;have g7:=V.nl;have g8:=V.rl;have g5:=V.gl;have h3:=hx.lt;have g9:=aP h.bF;have f9:x≠t:=fun M=>hx.out (.inl M);have hT:∀K,bk H t 0 K=K ⟨6,0,[[.q0 (T.n:Int),D.rv,D.vb,D.vo,D.vc,D.vg]]⟩:=aK h.bF;have hX:=hx.gM;have d8:∀K,gH D.rv K=K (.q0 (ae T.aU:Int)):=fun K=>by rw[h.aU.fN,ah3]
 have e1:au .i64 ((T.n:Int)+(ae T.aU:Int))=T.bZ:=by rw[wrap_i64 aD aD];rfl
 have c1:=h.aM.cZ aD;have ⟨q,gv,E,a1,a2,a3,a4,a5,a6,a7⟩:=tx c1 h.live.2.1 (by rw[ah3];omega) (qC ah) ⟨fun y hy=>by obtain ⟨b,_,rfl⟩:=aiw.1 hy;exact FN _ b,FN _ _⟩;rw[ah3] at a1;rw[Ct] at a1;have g4:((AV.agg [.q0 0,.nil,.q0 0,.nil]).cells.all dM&&(AV.agg [.q0 0,.nil,.q0 0,.nil]).cells.length==4)=aq:=aR;refine Z5 hT hX d8 e1 a1 ?_;refine ⟨aR,?_⟩;have e9:aL H E (aG D.vg):=a4;have I:=h.Uw e9;have L:lf t D .g q:=by
  rcases a5 with c | c
  .exact .inl c
  .right;intro B;have:=h.lt B;omega
 have b8:∀s,s ≠ .g->q∉aG (D.v s):=fun s U=>L.ne h U;have O:q≠t:=L.nt h;have gx:q≠x:=by
  rintro rfl;rcases a5 with c | c
  .exact hx.out (.inr ⟨.g,c⟩)
  .omega
 have k1:aL H E [q]:=a4.mono (fun f k=>by simp;exact a7 f k);have b0:fJ t D q\/ae H<=q:=by
  rcases a5 with c | c
  .exact .inl (.inr ⟨.g,c⟩)
  .right;omega
 have o1:bK H E t D D:=bK.put k1 (by rintro f k;simp at k;subst k;exact b0) (fun f k => .inl k);have x1:=hx.gS o1;have e6:=x1.gM;have d9:∀K,bk E t 0 K=K ⟨6,0,[[.q0 (T.n:Int),D.rv,D.vb,D.vo,D.vc,D.vg]]⟩:=aK I.bF;have c3:=aP I.bF;have d3:q < ae E:=by obtain ⟨tl,hq⟩:=a2;exact aP hq
 have h5:=x1.lt;have d4:=I.out.gr;have g0:=I.out.cZ.cell;have ⟨a,ver,J,b1,b2,b3,b4,b5,b6,b7⟩:=tx I.out.cZ d4 (by rw[ah3];show ae T.out < _;omega) (cN T.bZ) ⟨fun y hy=>by obtain ⟨b,_,rfl⟩:=aiw.1 hy;rfl,rfl⟩;have d0:∀K,bX 1 D.vo [[.q0 T.bZ]] E K=K (.sl 1 a ver 0 (ae T.out+1)) J:=fun K=>by have:=b1 K;rw[ah3] at this;exact this
 have own:lf t D .o a:=by
  rcases b5 with c | c
  .exact .inl c
  .right;intro B;have:=I.lt B;omega
 have a9:a≠t:=own.nt I;have ax:a≠x:=by
  rintro rfl;rcases b5 with c | c
  .exact x1.out (.inr ⟨.o,c⟩)
  .omega
 have a8:q≠a:=by
  rintro rfl;rcases b5 with c | c
  .exact b8 .o aO c
  .omega
 have c9:(a=x)=False:=aie ax;have ka:aL E J [a]:=b4.mono (fun f k=>by simp;exact b7 f k);have tG:aI J t 0=ak ⟨6,0,[[.q0 (T.n:Int),D.rv,D.vb,D.vo,D.vc,D.vg]]⟩:=by rw[ka.2 t c3 (by simpa using ait a9)];exact I.bF
 have e5:∀K,bk J t 0 K=K ⟨6,0,[[.q0 (T.n:Int),D.rv,D.vb,D.vo,D.vc,D.vg]]⟩:=aK tG;obtain ⟨e,F⟩:∃e,e=J.set t (ak (⟨6,0,[[.q0 (T.n:Int),D.rv,D.vb,.sl 1 a ver 0 (ae T.out+1),D.vc,D.vg]]⟩:bz)):=⟨_,rfl⟩;have f6:aI e t 0=ak ⟨6,0,[[.q0 (T.n:Int),D.rv,D.vb,.sl 1 a ver 0 (ae T.out+1),D.vc,D.vg]]⟩:=by rw[F,bn (aP tG)]
 have f3:ae e=ae J:=by rw[F,ah8]
 have c6:∀f,f≠t->∀w,aI e f w=aI J f w:=fun f c w=>by rw[F,aS (ait c)]
 have d1:List.drop (ae J) e=[]:=aih aD;have kk:aL E e [t,a]:=⟨by rw[f3];exact ka.1,fun f c h2 w=>by simp at h2;rw[c6 f h2.1,ka.2 f c (by simpa using h2.2)]⟩;have f0:SlL e 1 a ver ((T.out++[T.bZ]).map cN):=by obtain ⟨tl,hq⟩:=b2;exact ⟨tl,by rw[c6 a a9,hq,aii];rfl⟩
 have j:=I.NK (a:=a) (ver:=ver) (n:=ae T.out+1) (l:=T.out++[T.bZ]) own aO f6 f0 kk;have c5:fJ t D a\/ae E<=a:=by
  rcases b5 with c | c
  .exact .inl (.inr ⟨.o,c⟩)
  .right;omega
 have o3:bK E e t D {D with vo := .sl 1 a ver 0 (ae T.out+1)}:=bK.put kk (by rintro f k;simp at k;rcases k with rfl | rfl;exact .inl (.inl rfl);exact c5)
  (rh (s0 := .o) (a:=a) (fun s U=>by cases s<;>first | rfl | exact absurd rfl U) (fun f k=>by simpa[bD.v,aG] using k) c5);have d5:SlL e 4 q gv ((T.aM++[ah]).map qC):=by rw[aii];exact SlL.aQ a2 kk (by simp;exact ⟨O,a8⟩)
 obtain ⟨z,R⟩:∃z:bD,z={D with vo := .sl 1 a ver 0 (ae T.out+1)}:=⟨_,rfl⟩;have v3:z.rv=D.rv/\z.vb=D.vb/\z.vo = .sl 1 a ver 0 (ae T.out+1)/\z.vc=D.vc/\z.vg=D.vg:=by rw[R];exact ⟨rfl,rfl,rfl,rfl,rfl⟩
 have ⟨v1,v2,v4,v5,v6⟩:=v3;have b9:∀s,s ≠ .g->q∉aG (z.v s):=fun s U N=>by
  by_cases M:s = .o
  .subst M;simp only[bD.v,v4,aG,akX] at N;exact a8 N
  .have:z.v s=D.v s:=by rw[R];cases s<;>first | rfl | exact absurd rfl M
   rw[this] at N;exact b8 s U N
 rw[<-R] at j o3;have x3:=x1.gS o3;have e7:=x3.gM;have h6:=x3.lt;have g2:q < ae e:=aiB d3 kk.1;have e0:∀K,bk e t 0 K=K ⟨6,0,[[.q0 (T.n:Int),z.rv,z.vb,.sl 1 a ver 0 (ae T.out+1),z.vc,z.vg]]⟩:=aK (by rw[<-v4];exact j.bF);simp only[go_sem,↓reduceIte,Nat.reduceLeDiff,aia,ig,akg,aly,ajz,e6,d9,d0,b3,b6,e5,<-F,d1,c9];have c4:=aP j.bF;have e2:au .i64 (((ae T.out+1:Nat):Int)+1)=((ae T.out+2:Nat):Int):=by rw[wrap_i64 aD aD];rfl
 obtain ⟨W,A⟩:∃W,W=e++[ak (⟨4,0,aA (ae T.out+2) [.q0 0,.nil,.q0 0,.nil]⟩:bz)]:=⟨_,rfl⟩;have k4:aL e W []:=by rw[A];exact aL.app _ _ _
 have l4:ae W=ae e+1:=by rw[A];simp
 have f7:aI W t 0=ak ⟨6,0,[[.q0 (T.n:Int),z.rv,z.vb,.sl 1 a ver 0 (ae T.out+1),z.vc,z.vg]]⟩:=by rw[k4.2 t c4 aO,<-v4];exact j.bF
 have e3:∀K,bk W t 0 K=K ⟨6,0,[[.q0 (T.n:Int),z.rv,z.vb,.sl 1 a ver 0 (ae T.out+1),z.vc,z.vg]]⟩:=aK f7;have g1:(List.drop (ae e) W).all (cg (ae e))=aq:=by rw[A,akV];simp[cg,bp]
 obtain ⟨X,G⟩:∃X,X=W.set t (ak (⟨6,0,[[.q0 (T.n:Int),z.rv,z.vb,.sl 1 a ver 0 (ae T.out+1),z.vc,.sl 4 (ae e) 0 0 (ae T.out+2)]]⟩:bz)):=⟨_,rfl⟩;have f8:aI X t 0=ak ⟨6,0,[[.q0 (T.n:Int),z.rv,z.vb,.sl 1 a ver 0 (ae T.out+1),z.vc,.sl 4 (ae e) 0 0 (ae T.out+2)]]⟩:=by rw[G,bn aD]
 have h4:ae X=ae W:=by rw[G,ah8]
 have c7:∀f,f≠t->∀w,aI X f w=aI W f w:=fun f c w=>by rw[G,aS (ait c)]
 have d2:List.drop (ae W) X=[]:=aih aD;have f4:(ae e=x)=False:=aie aD;have a0:aL e X [t,ae e]:=⟨aD,fun f c h2 w=>by simp at h2;rw[c7 f h2.1,k4.2 f c aO]⟩;have c2:SlL X 4 (ae e) 0 ((aA (ae T.out+2) (ah:Q)).map qC):=⟨[],by rw[c7 _ aD,A,ct,ajT,Ct,aiu]⟩;have C:=j.PK (a:=ae e) (ver:=0) (n:=ae T.out+2) (l:=aA (ae T.out+2) ah) (.inr (fun B=>cn (j.lt B))) aO (by rw[v4];exact f8) c2 a0;have o5:bK e X t z {z with vg := .sl 4 (ae e) 0 0 (ae T.out+2)}:=bK.put a0 (by rintro f k;simp at k;rcases k with rfl | rfl;exact .inl (.inl rfl);exact .inr (ahZ _))
  (rh (s0 := .g) (a:=ae e) (fun s U=>by cases s<;>first | rfl | exact absurd rfl U) (fun f k=>by simpa[bD.v,aG] using k) (.inr (ahZ _)));obtain ⟨m,S⟩:∃m:bD,m={z with vg := .sl 4 (ae e) 0 0 (ae T.out+2)}:=⟨_,rfl⟩;have w5:m.rv=z.rv/\m.vb=z.vb/\m.vo = .sl 1 a ver 0 (ae T.out+1)/\m.vc=z.vc/\m.vg = .sl 4 (ae e) 0 0 (ae T.out+2):=by rw[S];exact ⟨rfl,rfl,v4,rfl,rfl⟩
 have ⟨w1,w2,w3,w4,w6⟩:=w5;have d6:SlL X 4 q gv ((T.aM++[ah]).map qC):=d5.aQ a0 (by simp;exact ⟨O,aD⟩);have c0:¬fJ t m q:=by
  rintro (c | ⟨s,N⟩)
  .exact O c
  .by_cases M:s = .g
   .subst M;simp only[bD.v,w6,aG,akX] at N;omega
   .have:m.v s=z.v s:=by rw[S];cases s<;>first | rfl | exact absurd rfl M
    rw[this] at N;exact b9 s M N
 rw[<-S] at C o5;have x5:=x3.gS o5;have e8:=x5.gM;have e4:∀K,bk X t 0 K=K ⟨6,0,[[.q0 (T.n:Int),m.rv,m.vb,m.vo,m.vc,.sl 4 (ae e) 0 0 (ae T.out+2)]]⟩:=aK (by rw[<-w6];exact C.bF);have d7:∀K,gH m.vo K=K (.q0 ((ae T.out+1:Nat):Int)):=fun K=>by rw[w3];rfl
 have ⟨p,p1,_,_,pw⟩:=c2.rw (i:=ae T.out+1) (n:=ae T.out+2) aO aO (by intro y hy;obtain ⟨b,_,rfl⟩:=aiw.1 hy;rfl);have ⟨G6,q1,q2,q3,q4⟩:=pw (.agg (qC Q.one)) rfl (sX Q.one);have f5:∀K,StP 4 p (.agg [.q0 (zv 1),zd 1,.q0 (zv 0),zd 0]) X K=K G6:=q1;have k6:aL X G6 [ae e]:=aL.write q3 q4;have f1:SlL G6 4 (ae e) 0 (T.q8.map qC):=by unfold Tab.q8;rw[ajF];exact q2
 have c8:=C.yQ (a:=ae e) (ver:=0) (n:=ae T.out+2) (l:=T.q8) w6 (by simp[Tab.q8]) f1 k6;have o6:bK X G6 t m m:=bK.put k6 (by rintro f k;simp at k;subst k;exact .inl (.inr ⟨.g,by simp only[bD.v,w6];simp[aG]⟩)) (fun f k => .inl k);refine Z5 alV akg e7 e0 e2 ?_;refine ⟨aD,by simp[bp],?_⟩;rw[<-A];simp only[go_sem,↓reduceIte,ahZ,aia,ig,akg,aly,ajz,e3,<-G,d2,f4,e8,e4,d7];refine aH (ru 1 aR) rfl (bE _) ?_;refine Y2 p1 f5 ?_;exact UG V f2 hi hp hd hf c8 ((((ho.trans o1).trans o3).trans o5).trans o6) (x5.gS o6) ⟨d6.aQ k6 bW,c0⟩ gx (by
  rcases b0 with c | c
  .exact ho.new q c
  .exact .inr (aiJ ho.len c))
def Tab.c0 (T:Tab) (i:Nat):Q:=af (af T.cells i []) 0 ah
def mY (T:Tab) (b:Int) (i:Nat):Int :=
 if T.du (af T.aT i 0)=aq/\(T.c0 i).top < 0/\(b < 0\/((T.c0 i).sub (T.c0 (az b))).top < 0) then i else b
def Tab.dz (T:Tab) (c:Nat):Int:=(aC c).foldl (mY T) (-1)
def Tab.GU (T:Tab):Int:=T.dz (ae T.cells)
def yd (T:Tab) (c:Nat):T.dz (c+1)=mY T (T.dz c) c:=by unfold Tab.dz;rw[ajK,akN];rfl
def CI (T:Tab) (c:Nat):-1<=T.dz c/\T.dz c < c:=by
 induction c with
 | zero=>simp[Tab.dz]
 | succ c h=>rw[yd];unfold mY;split<;>omega
inductive CK (T:Tab):Tab->Option (List Q)->Prop
 | Ko:T.GU < 0->CK T T none
 | go {n w:Nat} {T3 T':Tab} {r:Int} {res:Option (List Q)}:T.GU=(w:Int)->fQ T.ext->w < T.ext.cells.length->((T.ext.cells.getD w []).getD (T.ext.out.length - 1+1) default).top≠0 ->
   pH n (T.ext.dt w (T.ext.out.length - 1)) T3 r->CJ T3 T' res->CK T T' res
def Hr (w:fQ T) (hr:CK T T' res) (h:ck H t D T) :
  cR prog 129 [.ptr t 0 0 0] H (AM H t D T' res):=by
 refine qc func129 Bt ?_;refine uz ?_;have b1:=w.wl;have a8:=w.ml;have N:=w.bl;have a1:=w.nl;have a2:=w.rl;obtain ⟨a,q⟩:∃a,a=H++[ak (⟨1,0,[[.ptr t 0 0 0]]⟩:bz)]:=⟨_,rfl⟩;have k1:aL H a []:=by rw[q];exact aL.app _ _ _
 have l:=h.aQ k1 aO;have o1:bK H a t D D:=bK.aQ k1;have x1:jN H a t D (ae H) (.ptr t 0 0 0):=⟨by rw[q];exact ct,ahZ _,fun V=>cn (h.lt V)⟩;have M:∀K,bk a t 0 K=K ⟨6,0,[[.q0 (T.n:Int),D.rv,D.vb,D.vo,D.vc,D.vg]]⟩:=aK l.bF;have I:=x1.gM;have L:∀K,gH D.vb K=K (.q0 (ae T.cells:Int)):=fun K=>by rw[h.aT.cZ.fN,ah3,N]
 simp only[go_sem,↓reduceIte,aia,<-q,M,I,L];refine aZ (fun m e Hc=>∃c,c<=ae T.cells/\m=ae T.cells - c/\a=Hc/\e=[(1,.ptr (ae H) 0 0 0),(4,.q0 (T.dz c)),(23,D.vb),(24,.q0 (ae T.cells:Int)),(25,.q0 (c:Int))]) (n:=ae T.cells)
  ⟨0,aiL _,rfl,rfl,rfl⟩ ?_;rintro m _ _ ⟨c,hc,rfl,rfl,rfl⟩;by_cases r:(c:Int) < (ae T.cells:Int)
 .have x:c < ae T.cells:=aD;have e1:=ws c;obtain ⟨p,p1,p2⟩:=l.aT.cZ.read (et (show c < ae T.aT by omega));have k:=yd T c;have ⟨a9,b0⟩:=CI T c;have next:∀y:Int,y=T.dz (c+1)->∃m,m < ae T.cells - c/\∃b,b<=ae T.cells/\m=ae T.cells - b/\a=a /\
    ([(1,.ptr (ae H) 0 0 0),(4,.q0 y),(23,D.vb),(24,.q0 (ae T.cells:Int)),(25,.q0 ((c+1:Nat):Int))]:Env)=[(1,.ptr (ae H) 0 0 0),(4,.q0 (T.dz b)),(23,D.vb),(24,.q0 (ae T.cells:Int)),(25,.q0 (b:Int))] :=
   fun y hy=>⟨ae T.cells - (c+1),aD,c+1,x,rfl,rfl,by rw[hy]⟩
  have R:(D.aV.map fun v=>[v])[c]?=ak [af D.aV c .ba]:=by simp[af,show c < ae D.aV by rw[h.cl];exact x]
  have ⟨p3,q1,q2⟩:=l.cells.cZ.read R;have a7:=w.row c x;have ⟨p5,s1,s2⟩:=(l.rws c x).read (i:=0) (iW aD);have F:∀(t:IntKind) (K:AV->Prop),mZ 4 (af D.aV c .ba) (.c (.int t 0)) K=K p5:=s1;have a4:=w.p8 c x _ (ec (show 0 < ae (af T.cells c []) by omega));have g:T.c0 c=af (af T.cells c []) 0 ah:=rfl;generalize hv:af T.aT c 0=v at *;generalize hx:af (af T.cells c []) 0 ah=y at *;refine Y4 r p1 p2 I ?_;refine gk (wm l a1 a2) ?_;cases C:T.du v with
  | false =>
   refine Z ?_;simpa only[go_sem] using next _ (by rw[k];unfold mY;rw[hv,C];simp)
  | true =>
   refine Z6 M I q1 q2 F s2 ?_;refine aH (j9 y) (by simp[bE]) rfl ?_;by_cases W:y.top < 0
   .have A:(y.top.sign < 0)=True:=by rw[yR];exact aiq W
    by_cases B:T.dz c < 0
    .refine Z ?_;simpa only[go_sem] using next _ (by rw[k];unfold mY;rw[hv,C,g,ah1 ⟨rfl,W,.inl B⟩])
    .obtain ⟨j,s⟩:∃j:Nat,T.dz c=(j:Int):=⟨az (T.dz c),aD⟩;have f:j < ae T.cells:=aD;rw[s] at B k;have S:(D.aV.map fun v=>[v])[j]?=ak [af D.aV j .ba]:=by simp[af,show j < ae D.aV by rw[h.cl];exact f]
     have ⟨p6,u1,u2⟩:=l.cells.cZ.read S;have a3:=w.row j f;have ⟨p7,w1,w2⟩:=(l.rws j f).read (i:=0) (iW aD);have a6:∀(t:IntKind) (K:AV->Prop),mZ 4 (af D.aV j .ba) (.c (.int t 0)) K=K p7:=w1;have a5:=w.p8 j f _ (ec (show 0 < ae (af T.cells j []) by omega));have E:T.c0 j=af (af T.cells j []) 0 ah:=rfl;generalize hz:af (af T.cells j []) 0 ah=z at *;rw[s];have o:((j:Int) < 0)=False:=aie aD;simp only[go_sem,↓reduceIte,ahZ,aia,A,o,M,I,q1,q2,F,s2,u1,u2,a6,w2];refine aH (SK y z (a4.mono aR) (a5.mono aR)) (by simp[bE]) rfl ?_;by_cases G:(y.sub z).top < 0
     .have J:((y.sub z).top.sign < 0)=True:=by rw[yR];exact aiq G
      refine Z ?_;simpa only[go_sem] using next _ (by rw[k];unfold mY;rw[hv,C,g,ah9,E,ah1 ⟨rfl,W,.inr G⟩])
     .have J:((y.sub z).top.sign < 0)=False:=by rw[yR];exact aie G
      refine Z ?_;simpa only[go_sem,s] using next _ (by rw[k];unfold mY;rw[hv,C,g,ah9,E,ah0 (fun U=>U.2.2.elim B G)])
   .have A:(y.top.sign < 0)=False:=by rw[yR];exact aie W
    refine Z ?_;simpa only[go_sem] using next _ (by rw[k];unfold mY;rw[hv,C,g,ah0 (fun U=>W U.2.1)])
 .have O:c=ae T.cells:=aD;subst O;by_cases B:T.dz (ae T.cells) < 0
  .refine Y2 r B ?_;cases hr with
   | Ko _=>exact ⟨D,o1,rfl,l⟩
   | go X _ _ _ _ _=>have:T.dz (ae T.cells)=_:=X;omega
  .obtain ⟨j,s⟩:∃j:Nat,T.dz (ae T.cells)=(j:Int):=⟨az (T.dz (ae T.cells)),aD⟩;have o:((j:Int) < 0)=False:=aie aD;rw[s];refine Y2 r o ?_;cases hr with
   | Ko X=>have:T.dz (ae T.cells) < 0:=X;omega
   | go X g2 g3 g4 g5 g6 =>
    have:T.dz (ae T.cells)=_:=X;rw[s] at this;have a0:=Int.ofNat.inj this;subst a0;exact Xa w g2 g3 g4 g5 g6 l o1 x1
def ck.Ug (h:ck H t D T) (O:ae T.aT < 4000000) (z:Int):∃a ver G c,(∀K,bX 1 D.vb [[.q0 z]] H K=K (.sl 1 a ver 0 (ae T.aT+1)) G) /\
  (∀K,bk G t 0 K=K ⟨6,0,[[.q0 (T.n:Int),D.rv,D.vb,D.vo,D.vc,D.vg]]⟩)/\c=G.set t (ak ⟨6,0,[[.q0 (T.n:Int),D.rv,.sl 1 a ver 0 (ae T.aT+1),D.vo,D.vc,D.vg]]⟩) /\
  ck c t {D with vb := .sl 1 a ver 0 (ae T.aT+1)} {T with aT:=T.aT++[z]}/\bK H c t D {D with vb := .sl 1 a ver 0 (ae T.aT+1)}:=by
 have ⟨a,ver,G,A,B,M,C,r,N,E⟩:=tx h.aT.cZ h.aT.gr (by rw[ah3];omega) (cN z) ⟨fun y J=>by obtain ⟨b,_,rfl⟩:=aiw.1 J;rfl,rfl⟩;have o:=aP h.bF;have own:lf t D .b a:=by
  rcases r with e | e
  .exact .inl e
  .right;intro m;have:=h.lt m;omega
 have g:=own.nt h;have p:aL H G [a]:=C.mono (fun x k=>by simp;exact E x k);have W:aI G t 0=ak ⟨6,0,[[.q0 (T.n:Int),D.rv,D.vb,D.vo,D.vc,D.vg]]⟩:=by rw[p.2 t o (by simpa using ait g)];exact h.bF
 obtain ⟨c,f⟩:∃c,c=G.set t (ak (⟨6,0,[[.q0 (T.n:Int),D.rv,.sl 1 a ver 0 (ae T.aT+1),D.vo,D.vc,D.vg]]⟩:bz)):=⟨_,rfl⟩;have q:ae c=ae G:=by rw[f,ah8]
 have j:∀x,x≠t->∀w,aI c x w=aI G x w:=fun x e w=>by rw[f,aS (ait e)]
 have X:aL H c [t,a]:=⟨q ▸ p.1,fun x e l w=>by simp at l;rw[j x l.1,p.2 x e (by simpa using l.2)]⟩;have i:fJ t D a\/ae H<=a:=by
  rcases r with e | e
  .exact .inl (.inr ⟨.b,e⟩)
  .right;omega
 refine ⟨a,ver,G,c,fun K=>by have:=A K;rw[ah3] at this;exact this,aK W,f,h.NJ own aO (by rw[f,bn (aP W)]) ?_ X,bK.put X (by rintro x k;simp at k;rcases k with rfl | rfl;exact .inl (.inl rfl);exact i)
  (rh (s0 := .b) (a:=a) (fun s I=>by cases s<;>first | rfl | exact absurd rfl I) (fun x k=>by simpa[bD.v,aG] using k) i)⟩;have ⟨L,F⟩:=B;exact ⟨L,by rw[j a g,F,aii];rfl⟩
def ck.Yo (h:ck H t D T) (R:ae T.out < 4000000) (z:Int):∃a ver G c,(∀K,bX 1 D.vo [[.q0 z]] H K=K (.sl 1 a ver 0 (ae T.out+1)) G) /\
  (∀K,bk G t 0 K=K ⟨6,0,[[.q0 (T.n:Int),D.rv,D.vb,D.vo,D.vc,D.vg]]⟩)/\c=G.set t (ak ⟨6,0,[[.q0 (T.n:Int),D.rv,D.vb,.sl 1 a ver 0 (ae T.out+1),D.vc,D.vg]]⟩) /\
  ck c t {D with vo := .sl 1 a ver 0 (ae T.out+1)} {T with out:=T.out++[z]}/\bK H c t D {D with vo := .sl 1 a ver 0 (ae T.out+1)}:=by
 have ⟨a,ver,G,B,C,N,E,X,O,F⟩:=tx h.out.cZ h.out.gr (by rw[ah3];omega) (cN z) ⟨fun y L=>by obtain ⟨b,_,rfl⟩:=aiw.1 L;rfl,rfl⟩;have p:=aP h.bF;have own:lf t D .o a:=by
  rcases X with e | e
  .exact .inl e
  .right;intro m;have:=h.lt m;omega
 have g:=own.nt h;have q:aL H G [a]:=E.mono (fun x k=>by simp;exact F x k);have A:aI G t 0=ak ⟨6,0,[[.q0 (T.n:Int),D.rv,D.vb,D.vo,D.vc,D.vg]]⟩:=by rw[q.2 t p (by simpa using ait g)];exact h.bF
 obtain ⟨c,f⟩:∃c,c=G.set t (ak (⟨6,0,[[.q0 (T.n:Int),D.rv,D.vb,.sl 1 a ver 0 (ae T.out+1),D.vc,D.vg]]⟩:bz)):=⟨_,rfl⟩;have r:ae c=ae G:=by rw[f,ah8]
 have j:∀x,x≠t->∀w,aI c x w=aI G x w:=fun x e w=>by rw[f,aS (ait e)]
 have W:aL H c [t,a]:=⟨r ▸ q.1,fun x e l w=>by simp at l;rw[j x l.1,q.2 x e (by simpa using l.2)]⟩;have i:fJ t D a\/ae H<=a:=by
  rcases X with e | e
  .exact .inl (.inr ⟨.o,e⟩)
  .right;omega
 refine ⟨a,ver,G,c,fun K=>by have:=B K;rw[ah3] at this;exact this,aK A,f,h.NK own aO (by rw[f,bn (aP A)]) ?_ W,bK.put W (by rintro x k;simp at k;rcases k with rfl | rfl;exact .inl (.inl rfl);exact i)
  (rh (s0 := .o) (a:=a) (fun s J=>by cases s<;>first | rfl | exact absurd rfl J) (fun x k=>by simpa[bD.v,aG] using k) i)⟩;have ⟨M,I⟩:=C;exact ⟨M,by rw[j a g,I,aii];rfl⟩
def ck.aaP (h:ck H t D T) (p:∀id,id∈aG vr->¬fJ t D id/\id≠ca) (e:lf t D .c ca) (hm:m=ae T.cells+1)
  (I:aI H' t 0=ak ⟨6,0,[[.q0 (T.n:Int),D.rv,D.vb,D.vo,.sl 1 ca cver 0 m,D.vg]]⟩) (G:SlV H' 4 vr (l.map qC)) (F:zO vr l) (J:SlL H' 1 ca cver ((D.aV.map fun v=>[v])++[[vr]])) (K:aL H H' [t,ca]) :
  ck H' t {D with vc := .sl 1 ca cver 0 m,aV:=D.aV++[vr]} {T with cells:=T.cells++[l]}:=by
 have f:=h.cl;have cK:∀s,s ≠ .c->∀id,id∈aG (D.v s)->id∉[t,ca]:=fun s A id k hm=>by
  simp at hm;rcases hm with rfl | rfl
  .exact h.top s k
  .exact e.ne h A k
 have W:∀j,af (D.aV++[vr]) j .ba=if j < ae D.aV then af D.aV j .ba else if j=ae D.aV then vr else .ba:=by
  intro j;simp only[af];rcases aj0 j (ae D.aV) with y | y | y
  .rw[aic y,ah1 y]
  .subst y;simp
  .rw[aiO bW,ah0 aD,ah0 aD];rfl
 have E:∀j,af (T.cells++[l]) j []=if j < ae T.cells then af T.cells j [] else if j=ae T.cells then l else []:=by
  intro j;simp only[af];rcases aj0 j (ae T.cells) with y | y | y
  .rw[aic y,ah1 y]
  .subst y;simp
  .rw[aiO bW,ah0 aD,ah0 aD];rfl
 have w:∀s id,id∈aG (({D with vc := .sl 1 ca cver 0 m,aV:=D.aV++[vr]}:bD).v s)->(s = .c/\id=ca)\/(s = .r (ae D.aV)/\id∈aG vr)\/(s ≠ .c/\id∈aG (D.v s)):=by
  intro s id k;cases s with
  | c=>left;exact ⟨rfl,by simpa[bD.v,aG] using k⟩
  | r j =>
   right;simp only[bD.v,W] at k;split at k
   .exact .inr ⟨aO,by simpa[bD.v] using k⟩
   .split at k
    .rename_i y;left;exact ⟨by rw[y],k⟩
    .simp[aG] at k
  | b=>exact .inr (.inr ⟨aO,k⟩)
  | o=>exact .inr (.inr ⟨aO,k⟩)
  | g=>exact .inr (.inr ⟨aO,k⟩)
 refine ⟨I,h.aU.aQ K (fun id k=>by rw[h.lI] at k;simp at k),h.lI,h.aT.aQ K (cK .b aO),h.out.aQ K (cK .o aO),.inr ⟨ca,cver,?_,?_⟩,by simp[f],fun j y=>?_,h.aM.aQ K (cK .g aO),⟨fun j y=>?_,h.live.2⟩,fun s hm=>?_,fun s C i id k q=>?_⟩
 .simp[hm,f]
 .rw[aii];exact J
 .simp only[ain,aiF,aiV] at y;show SlV H' 4 (af (D.aV++[vr]) j .ba) ((af (T.cells++[l]) j []).map qC);rw[W,E,f];by_cases x:j < ae T.cells
  .rw[ah1 x,ah1 x];exact (h.rws j x).aQ K (cK (.r j) aO)
  .rw[ah0 x,ah0 x,ah1 aD,ah1 aD];exact G
 .simp only[ain,aiF,aiV] at y;show zO (af (D.aV++[vr]) j .ba) (af (T.cells++[l]) j []);rw[W,E,f];by_cases x:j < ae T.cells
  .rw[ah1 x,ah1 x];exact h.live.1 j x
  .rw[ah0 x,ah0 x,ah1 aD,ah1 aD];exact F
 .rcases w s t hm with ⟨rfl,z⟩ | ⟨rfl,z⟩ | ⟨_,z⟩
  .exact e.nt h z.symm
  .exact (p _ z).1 (.inl rfl)
  .exact h.top s z
 .rcases w s id k with ⟨rfl,z⟩ | ⟨rfl,z⟩ | ⟨B,z⟩<;>rcases w C id q with ⟨rfl,a⟩ | ⟨rfl,a⟩ | ⟨X,a⟩
  .exact i rfl
  .exact (p _ a).2 z
  .exact e.ne h X (z ▸ a)
  .exact (p _ z).2 a
  .exact i rfl
  .exact (p _ z).1 (.inr ⟨C,a⟩)
  .exact e.ne h B (a ▸ z)
  .exact (p _ a).1 (.inr ⟨s,z⟩)
  .exact h.sep s C i id z a
def dB.line (r:dB):List Q:=r.add::r.vM
def jf (n:Nat) (aU:List dB) (aM:List Q) (k c:Nat):Tab :=
 {n:=n,aU:=aU,aT:=(aC c).map fun (i:Nat)=>(n:Int)+(i:Int),out:=(aC k).map fun (i:Nat)=>(i:Int),cells:=(aU.take c).map dB.line,aM:=aM}
def cP (n:Nat) (aU:List dB) (aM:dB):Tab:=jf n aU aM.line n (ae aU)
def MF (x:ae l < 1000000):∃v H',(∀K,j4 4 (.seq 4 aq [qC a]) (.seq 4 f (l.map qC)) H K=K v H')/\SlV H' 4 v ((a::l).map qC)/\zO v (a::l)/\aL H H' []/\(∀id,id∈aG v->id=ae H)/\(H'.drop (ae H)).all (cg (ae H))=aq/\bB v=aq/\v.cells=[v]/\dA v=aq/\bp (ae H') v=aq:=by
 cases l with
 | nil =>
  refine ⟨.seq 4 aq [qC a],H,fun K=>?_,.seq,⟨by simp[Dt],fun h=>by simp at h⟩,aL.refl _ _,by simp[aG],aO,rfl,rfl,rfl,rfl⟩;rw[zh];show (4=4/\K (.seq 4 aq [qC a]) H)=_;simp
 | cons b r =>
  have k:il 4 H (.seq 4 aq [qC a]) ((b::r).map qC)=ak (.sl 4 (ae H) 0 0 (ae r+2),H++[ak ⟨4,0,(a::b::r).map qC⟩]):=by show (if 4=4/\1+(ae (r.map qC)+1)<=4294967296 then _ else an)=_;simp only[ah3,aiF] at x ⊢;rw[ah1 ⟨trivial,aD⟩];simp only[akd,ak1];refine ⟨?_,aO⟩;congr 1;simp;omega
  refine ⟨.sl 4 (ae H) 0 0 (ae r+2),H++[ak ⟨4,0,(a::b::r).map qC⟩],fun K=>?_,?_,vW,aL.app _ _ _,by simp[aG],?_,rfl,rfl,rfl,by simp[bp]⟩
  .rw[zh];simp only[bX,k];simp[bO]
  .have:SlL (H++[ak ⟨4,0,(a::b::r).map qC⟩]) 4 (ae H) 0 ((a::b::r).map qC):=⟨[],by rw[aiu];exact ct⟩;exact this.cZ aO
  .rw[akV];simp only[ais,ajd,aiM,cg,ah4];intro y w;obtain ⟨q,_,rfl⟩:=aiw.1 w;intro z c;exact ah4.1 (FN _ q) z c
def XB {H:aF} {n:Nat} {rv:AV} {aU:List dB} {aM:dB} (hn:n < 1000000) (g0:ae aU < 1000000) (hr:SlV H 6 rv (aU.map de)) (e7:aG rv=[]) (e0:ae aM.vM < 1000000) (e6:∀r,r∈aU->ae r.vM < 1000000) :
  cR prog 126 [.q0 (n:Int),rv,.agg (de aM)] H fun v H'=>∃t D,v = .ptr t 0 0 0/\ck H' t D (cP n aU aM)/\aL H H' []/\∀id,fJ t D id->ae H<=id:=by
 refine qc func126 ML ?_;refine uz ?_;have d9:((de aM).all dM)=aq:=by show (aq&&((qC aM.add++[AV.v0 aM.eq]).all dM))=aq;rw[ajk,Mv];rfl
 have ⟨vg,H1,g1,g2,g3,g4,g5,g6,g7⟩:=MF (H:=H) (f:=aM.fl) (a:=aM.add) e0;have c6:∀(r:dB) (K:AV->Prop),iX ar (de r) 0 1 K=K (.seq 4 r.fl (r.vM.map qC)):=fun r K=>rfl;have c7:∀(r:dB) (K:AV->Prop),iX aq (de r) 1 4 K=K (qA r.add):=fun r K=>by simp[iX,gC,de,bO]
 refine Z6 d9 c6 c7 g1 g7 hr.cell ?_;refine ⟨aR,?_⟩;obtain ⟨H2,R⟩:∃H2,H2=H1++[ak (⟨6,0,[[.q0 (n:Int),rv,.nil,.nil,.nil,vg]]⟩:bz)]:=⟨_,rfl⟩;rw[<-R];have a9:aL H1 H2 []:=by rw[R];exact aL.app _ _ _
 have uH:ae H2=ae H1+1:=by rw[R];simp
 obtain ⟨D0,a7⟩:∃D0:bD,D0=⟨rv,.nil,.nil,.nil,vg,[]⟩:=⟨_,rfl⟩;have c9:∀id,id∈aG vg->id < ae H1:=fun id z=>g2.cV id z;have t0:ck H2 (ae H1) D0 (jf n aU aM.line 0 0):=by
  subst a7;refine ⟨by rw[R];exact ct,(hr.aQ (g4.trans a9) aO),e7,.inl ⟨rfl,rfl⟩,.inl ⟨rfl,rfl⟩,.inl ⟨rfl,rfl⟩,rfl,fun i hi=>by simp[jf] at hi,.of (g2.aQ a9 aO),⟨fun i hi=>by simp[jf] at hi,g3⟩,fun s=>?_,fun s s' e8 id z=>?_⟩
  .cases s with
   | g=>exact fun hm=>cn (c9 _ hm)
   | _=>simp[bD.v,aG]
  .cases s with
   | g=>cases s' with
    | g=>exact absurd rfl e8
    | _=>simp[bD.v,aG]
   | _=>simp[bD.v,aG] at z
 have a8:∀id,fJ (ae H1) D0 id->ae H<=id:=by
  subst a7;rintro id (rfl | ⟨s,hs⟩)
  .exact g4.1
  .cases s with
   | g=>rw[g5 id hs];exact ahZ _
   | _=>simp[bD.v,aG] at hs
 obtain ⟨t,ht⟩:∃t,t=ae H1:=⟨_,rfl⟩;rw[<-ht] at t0 a8 ⊢;refine aZ (fun m e X=>∃k D,k<=n/\m=n - k/\ck X t D (jf n aU aM.line k 0)/\bK H2 X t D0 D/\D.rv=rv/\e=[(0,.q0 (n:Int)),(1,rv),(7,.ptr t 0 0 0),(21,.q0 (n:Int)),(22,.q0 (k:Int))]) (n:=n)
  ⟨0,D0,aiL _,rfl,t0,bK.refl _ _ _,by rw[a7],rfl⟩ ?_;rintro m _ X ⟨k,D,hk,rfl,h,ho,I,rfl⟩;have hT:∀K,bk X t 0 K=K ⟨6,0,[[.q0 (n:Int),D.rv,D.vb,D.vo,D.vc,D.vg]]⟩:=aK h.bF;by_cases F:(k:Int) < (n:Int)
 .have e1:au .i64 ((k:Int)+1)=((k+1:Nat):Int):=by rw[wrap_i64 aD aD];rfl
  have ⟨a,ver,G,L,a1,a2,a3,C,a5⟩:=h.Yo (by simp[jf];omega) (k:Int);have jz:(jf n aU aM.line k 0).out.length=k:=by simp[jf]
  rw[jz] at a1 a3 C a5;have a0:∀K,bk G t 0 K=K ⟨6,0,[[.q0 (n:Int),D.rv,D.vb,D.vo,D.vc,D.vg]]⟩:=a2;have a6:L=G.set t (ak ⟨6,0,[[.q0 (n:Int),D.rv,D.vb,.sl 1 a ver 0 (k+1),D.vc,D.vg]]⟩):=a3;simp only[go_sem,↓reduceIte,Nat.reduceLeDiff,aia,F,hT,a1,a0,<-a6,e1];refine ⟨n - (k+1),aD,k+1,_,aD,rfl,?_,ho.trans a5,I,rfl⟩;have:jf n aU aM.line (k+1) 0={jf n aU aM.line k 0 with out:=(jf n aU aM.line k 0).out++[(k:Int)]}:=by simp[jf,ajK]
  rw[this];exact C
 .have e4:k=n:=aD;subst e4;have d2:∀K,gH rv K=K (.q0 (ae aU:Int)):=fun K=>by rw[hr.fN,ah3]
  refine Y2 F d2 ?_;refine aZ (fun m e X=>∃c D,c<=ae aU/\m=ae aU - c/\ck X t D (jf k aU aM.line k c)/\bK H2 X t D0 D/\D.rv=rv/\e=[(0,.q0 (k:Int)),(7,.ptr t 0 0 0),(36,rv),(37,.q0 (ae aU:Int)),(38,.q0 (c:Int))]) (n:=ae aU)
   ⟨0,D,aiL _,rfl,h,ho,I,rfl⟩ ?_;clear h ho hT F I;rintro m _ X ⟨c,D,hc,rfl,h,ho,I,rfl⟩;by_cases F:(c:Int) < (ae aU:Int)
  .have S:c < ae aU:=aD;have e1:au .i64 ((c:Int)+1)=((c+1:Nat):Int):=by rw[wrap_i64 aD aD];rfl
   have e2:au .i64 ((k:Int)+(c:Int))=(k:Int)+(c:Int):=wrap_i64 aD aD;have T:=h.aU;rw[I] at T;have T:SlV X 6 rv (aU.map de):=T;have ⟨p,p1,p2⟩:=T.read (i:=c) (x:=de (af aU c ah)) (by simp[S]);have hx:(af aU c ah)∈aU:=ec S;have d8:=e6 _ hx;have e5:(aU.take (c+1)).map dB.line=(aU.take c).map dB.line++[(af aU c ah).line]:=by rw[aiT S,aii];simp[S]
   generalize af aU c ah=r at *;obtain ⟨H3,J⟩:∃H3,H3=X++[ak (⟨6,0,[de r]⟩:bz)]:=⟨_,rfl⟩;have k3:aL X H3 []:=by rw[J];exact aL.app _ _ _
   have h3:=h.aQ k3 aO;have o3:=ho.trans (bK.aQ k3);have b3:aI H3 (ae X) 0=ak ⟨6,0,[de r]⟩:=by rw[J];exact ct
   have l3:ae X < ae H3:=by rw[J];simp
   have d4:∀K,bk H3 t 0 K=K ⟨6,0,[[.q0 (k:Int),D.rv,D.vb,D.vo,D.vc,D.vg]]⟩:=aK h3.bF;have ⟨a,ver,G,L,a1,a2,a3,C,a5⟩:=h3.Ug (by simp[jf];omega) ((k:Int)+(c:Int));have jz:(jf k aU aM.line k c).aT.length=c:=by simp[jf]
   rw[jz] at a1 a3 C a5;have a0:∀K,bk G t 0 K=K ⟨6,0,[[.q0 (k:Int),D.rv,D.vb,D.vo,D.vc,D.vg]]⟩:=a2;have a6:L=G.set t (ak ⟨6,0,[[.q0 (k:Int),D.rv,.sl 1 a ver 0 (c+1),D.vo,D.vc,D.vg]]⟩):=a3;have b8:¬fJ t D (ae X):=fun A=>cn (h.lt A);obtain ⟨q,c0⟩:∃q:bD,q={D with vb := .sl 1 a ver 0 (c+1)}:=⟨_,rfl⟩;have c2:q.rv=rv:=by rw[c0];exact I
   rw[<-c0] at C a5;have b2:aI L (ae X) 0=ak ⟨6,0,[de r]⟩:=by rw[a5.aY _ l3 b8];exact b3
   have d1:∀K,bk L (ae X) 0 K=K ⟨6,0,[de r]⟩:=aK b2;have d3:∀K,bk L t 0 K=K ⟨6,0,[[.q0 (k:Int),q.rv,q.vb,q.vo,q.vc,q.vg]]⟩:=aK C.bF;have ⟨vr,G3,r1,r2,r3,r4,r5,r6,r7⟩:=MF (H:=L) (f:=r.fl) (a:=r.add) d8;have e9:∀K,StP 6 (.ptr (ae X) 0 0 0) (.agg (de r)) (X++[ak ⟨6,0,[[.nil,.q0 0,.nil,.q0 0,.nil,.v0 ar]]⟩]) K=K H3:=fun K=>by
    have f1:(de r).all bB=aq:=by show (aq&&((qC r.add++[AV.v0 r.eq]).all bB))=aq;rw[ajk,sX];rfl
    rw[KH,aK ct,ZN];show ElP _ 0 (StX (ae X) 0 0 0 6 (de r) 6 _ _ K)=_;rw[iu (x:=[.nil,.q0 0,.nil,.q0 0,.nil,.v0 ar]) rfl,ZO];refine propext ⟨fun h=>?_,fun h=>⟨⟨rfl,aR,f1⟩,?_⟩⟩
    .have:=h.2;rw[NZ] at this;rw[J];exact this
    .rw[NZ];rw[J] at h;exact h
   have f5:∀K,iX aq (de r) 0 6 K=K (.agg (de r)):=fun K=>by simp[iX,gC,de,bO,qC]
   simp only[go_sem,↓reduceIte,Nat.reduceLeDiff,aia,F,p1,p2,f5,e9,d4,e2,a1,a0,<-a6,d3,d1,c6,c7,r1,r6,r7];refine ⟨aR,?_⟩;obtain ⟨V,N⟩:∃V,V=G3++[ak (⟨1,0,[[vr]]⟩:bz)]:=⟨_,rfl⟩;have b0:aL G3 V []:=by rw[N];exact aL.app _ _ _
   have c3:=r4.trans b0;have g8:ae V=ae G3+1:=by rw[N];simp
   have t4:=C.aQ c3 aO;have E:=C.cl;have c1:(jf k aU aM.line k c).cells.length=c:=by simp[jf];omega
   have E:ae q.aV=c:=E.trans c1;have cc:=C.cells.cZ.cell;have f6:∀id,id∈aG vr->id < ae G3:=fun id z=>r2.cV id z;have ⟨ca,cver,G5,b1,b2,b3,b4,b5,b6,b7⟩:=tx t4.cells.cZ t4.cells.gr (by rw[ah3,E];omega) [vr] ⟨fun y hy=>by obtain ⟨b,hb,rfl⟩:=aiw.1 hy;obtain ⟨j,hj,rfl⟩:=ajD.1 hb;have:=(t4.rws j (by show j < (jf k aU aM.line k c).cells.length;omega)).fj;rw[show af q.aV j .ba=q.aV[j] by simp[af,hj]] at this;simp[this],by simp[(r2.aQ b0 aO).fj]⟩;rw[ah3,E] at b1;have own:lf t q .c ca:=by
    rcases b5 with W | W
    .exact .inl W
    .right;intro A;have:=t4.lt A;omega
   have b9:ca≠t:=own.nt t4;have ka:aL V G5 [ca]:=b4.mono (fun id z=>by simp;exact b7 id z);have tG:aI G5 t 0=ak ⟨6,0,[[.q0 (k:Int),q.rv,q.vb,q.vo,q.vc,q.vg]]⟩:=by rw[ka.2 t (aP t4.bF) (by simpa using ait b9)];exact t4.bF
   have d5:∀K,bk G5 t 0 K=K ⟨6,0,[[.q0 (k:Int),q.rv,q.vb,q.vo,q.vc,q.vg]]⟩:=aK tG;obtain ⟨M,O⟩:∃M,M=G5.set t (ak (⟨6,0,[[.q0 (k:Int),q.rv,q.vb,q.vo,.sl 1 ca cver 0 (c+1),q.vg]]⟩:bz)):=⟨_,rfl⟩;have f7:aI M t 0=ak ⟨6,0,[[.q0 (k:Int),q.rv,q.vb,q.vo,.sl 1 ca cver 0 (c+1),q.vg]]⟩:=by rw[O,bn (aP tG)]
   have f2:ae M=ae G5:=by rw[O,ah8]
   have c5:∀id,id≠t->∀w,aI M id w=aI G5 id w:=fun id W w=>by rw[O,aS (ait W)]
   have d0:List.drop (ae G5) M=[]:=aih aD;have c4:aL V M [t,ca]:=⟨by rw[f2];exact ka.1,fun id W h2 w=>by simp at h2;rw[c5 id h2.1,ka.2 id W (by simpa using h2.2)]⟩;have kk:aL L M [t,ca]:=(c3.mono aO).trans c4;have f0:SlL M 1 ca cver ((q.aV.map fun v=>[v])++[[vr]]):=by obtain ⟨tl,hq⟩:=b2;exact ⟨tl,by rw[c5 ca b9,hq]⟩
   have inc:fJ t q ca\/ae L<=ca:=by
    rcases b5 with W | W
    .exact .inl (.inr ⟨.c,W⟩)
    .right;have:=r4.1;omega
   have B:∀id,id∈aG vr->¬fJ t q id/\id≠ca:=fun id z=>by
    have W:=r5 id z;refine ⟨fun A=>cn (C.lt A),fun he=>?_⟩;rcases b5 with h2 | h2
    .have:=C.lt (.inr ⟨.c,h2⟩);omega
    .have:=f6 id z;omega
   have f8:SlV M 4 vr (r.line.map qC):=r2.aQ ((b0.mono aO).trans c4) (fun id z hm=>by
    simp at hm;rcases hm with rfl | rfl
    .exact (B _ z).1 (.inl rfl)
    .exact (B _ z).2 rfl);have c8:=C.aaP (vr:=vr) (ca:=ca) (cver:=cver) (m:=c+1) (l:=r.line) B own (by show c+1=(jf k aU aM.line k c).cells.length+1;rw[c1]) f7 f8 r3 f0 kk;have d6:∀K,j4 1 q.vc (.sl 1 (ae G3) 0 0 1) V K=bX 1 q.vc [[vr]] V K:=fun K=>by rw[N,MC]
   have f3:(ae L=t)=False:=aie (cn (aP C.bF));have f4:(ae G3=t)=False:=aie (zU (aP C.bF) r4.1);simp only[go_sem,↓reduceIte,Nat.reduceLeDiff,aia,ig,akg,aly,ajz,<-N,d6,b1,b3,b6,d5,<-O,d0,f3,f4,e1];refine ⟨ae aU - (c+1),aD,c+1,{q with vc := .sl 1 ca cver 0 (c+1),aV:=q.aV++[vr]},aD,rfl,?_,(o3.trans a5).trans (bK.put kk (by rintro id z;simp at z;rcases z with rfl | rfl;exact .inl (.inl rfl);exact inc) ?_),c2,rfl⟩
   .have:jf k aU aM.line k (c+1)={jf k aU aM.line k c with aT:=(jf k aU aM.line k c).aT++[(k:Int)+(c:Int)],cells:=(jf k aU aM.line k c).cells++[r.line]}:=by simp only[jf,ajK,aii,e5];rfl
    rw[this];exact c8
   .rintro id (rfl | ⟨s,z⟩)
    .exact .inl (.inl rfl)
    .cases s with
     | c=>(have:id=ca:=by simpa[bD.v,aG] using z);(subst this;exact inc)
     | r j =>
      simp only[bD.v,af] at z;rcases aij j (ae q.aV) with hj | hj
      .rw[aic hj] at z;exact .inl (.inr ⟨.r j,z⟩)
      .rcases aij (ae q.aV) j with e3 | e3
       .rw[aiO bW] at z;simp[aG] at z
       .have:j=ae q.aV:=aD;subst this;right;have h5:id∈aG vr:=bu z;rw[r5 id h5];exact ahZ _
     | b=>exact .inl (.inr ⟨.b,z⟩)
     | o=>exact .inl (.inr ⟨.o,z⟩)
     | g=>exact .inl (.inr ⟨.g,z⟩)
  .have d7:c=ae aU:=aD;subst d7;refine Y1 F ?_;have f9:=g4.1;have U:=g4.trans a9;have hs:jf k aU aM.line k (ae aU)=cP k aU aM:=rfl;refine ⟨t,D,rfl,h,⟨aiJ U.1 ho.len,fun id W _ w=>?_⟩,fun id z=>?_⟩
   .rw[ho.aY id (aiB W U.1) (fun A=>by have:=a8 id A;omega),U.2 id W aO]
   .rcases ho.new id z with W | W
    .exact a8 id W
    .exact aiJ U.1 W
structure xM where
 kind:Int
 value:Q
 sV:AV
 ny:AV
 mult:AV
def yb (l:List Q):AV := .seq 4 ar (l.map qC)
def xM.cells (o:xM):List AV:=[.c (.int .i64 o.kind),.c (.int .i64 (zv o.value.top)),zd o.value.top,.c (.int .i64 (zv o.value.low)),zd o.value.low,o.sV,o.ny,o.mult]
def xX (o:xM):AV := .agg o.cells
def zX:List AV:=[.c (.int .i64 0),.c (.int .i64 0),.nil,.c (.int .i64 0),.nil,.nil,.nil,.nil]
def Tab.kB (T:Tab) (k:Nat):Bool:=decide (af T.out k 0 < (T.n:Int)) && !decide ((af T.aM (k+1) ah).top=0)
inductive Qo (T:Tab):xM->Prop
 | ny {M k:Nat} {T':Tab}:pH M T T' (k:Int)->k < T'.out.length->0<=T'.out.getD k 0->Qo T ⟨1,default,yb T'.sV,yb (T'.ny k Q.one),.nil⟩
 | r9 {M:Nat} {T':Tab}:pH M T T' (-1)->Qo T ⟨2,T'.aM.getD 0 default,yb T'.sV,.nil,yb (T'.mult T'.aM)⟩
inductive Qp (T:Tab):xM->Prop
 | loose {k:Nat}:k < T.out.length->T.kB k=true->(∀j,j < k->T.kB j=false)->0<=T.out.getD k 0->Qp T ⟨1,default,yb T.sV,yb (T.ny k ⟨-(T.aM.getD (k+1) default).top.sign,0⟩),.nil⟩
 | tight {o:xM}:(∀j,j < T.out.length->T.kB j=false)->Qo T o->Qp T o
inductive Br (n:Nat) (aU:List dB) (aM:dB):xM->Prop
 | eqs {N:Nat} {T1:Tab} {m:List Q}:Eqs N (cP n aU aM) 0 T1 (some m)->Br n aU aM ⟨0,default,.nil,.nil,yb m⟩
 | jc {N:Nat} {T1 T2:Tab} {m:List Q}:Eqs N (cP n aU aM) 0 T1 none->(∀c,fQ (T1.eb c))->CK T1.yx T2 (some m)->Br n aU aM ⟨0,default,.nil,.nil,yb m⟩
 | fin {N:Nat} {T1 T2:Tab} {o:xM}:Eqs N (cP n aU aM) 0 T1 none->(∀c,fQ (T1.eb c))->CK T1.yx T2 none->fQ T2->Qp T2 o->Br n aU aM o
structure Bp (H:aF) (t:Nat) (D:bD):Prop where
 ob:aI H 0 0=some ⟨8,0,[zX]⟩
 out:¬fJ t D 0
def Bp.gS (h:Bp H t D) (o:bK H G t D D'):Bp G t D' :=
 ⟨by rw[o.aY 0 (aP h.ob) h.out];exact h.ob,fun k=>(o.new 0 k).elim h.out (fun x=>cn (aP h.ob))⟩
def Bp.gM (h:Bp H t D) (K:bz->Prop):bk H 0 0 K=K ⟨8,0,[zX]⟩:=aK h.ob K
def Bp.set (h:Bp H t D) (xs:List (List AV)) (K:bz->Prop):bk (H.set 0 (ak ⟨8,0,xs⟩)) 0 0 K=K ⟨8,0,xs⟩:=aK (bn (aP h.ob)) K
def Ns (p:AV):Prop:=bp 0 p=aq
def zT:Ns .nil:=rfl
def th (l:List Q):Ns (yb l):=rfl
def rq (h:Ns p) (x:Ns q) (hm:Ns m):jO 0 (xX ⟨k,v,p,q,m⟩)=aq:=by show (bp 0 (.q0 k)&&(bp 0 (.q0 (zv v.top))&&(bp 0 (zd v.top)&&(bp 0 (.q0 (zv v.low))&&(bp 0 (zd v.low)&&(bp 0 p&&(bp 0 q&&(bp 0 m&&aq))))))))=aq;rw[At,At,h,x,hm];rfl
def yM (k:Int) (p q m:AV):xX ⟨k,ah,p,q,m⟩ = .agg [.q0 k,.q0 0,.nil,.q0 0,.nil,p,q,m]:=by show AV.agg [.q0 k,.q0 (zv 0),zd 0,.q0 (zv 0),zd 0,p,q,m]=_;rw[nr FX,qU FX]
def Q.Cn:QOk 1 Q.one:=⟨aR,uq 1 aR,tK 1⟩
def ZM (x:Int):QOk 1 ⟨-x.sign,0⟩:=⟨ajV 0,by show ay (-x.sign) < 4294967296 ^ 1;rcases als x with h | h | h<;>rw[h]<;>decide,tK 1⟩
def Zl {H:aF} {t:Nat} {D:bD} {T:Tab} {o:xM} {n:Env} (z:Qo T o) (h:ck H t D T) (l:Bp H t D) :
  WP prog 111 uX (jh [.cell 6 aq 8] 0 (xX o) []) ((6,.ptr 0 0 0 0)::(7,.ptr t 0 0 0)::n) H:=by
 refine uz ?_;refine Z ?_;cases z with
 | ny z X q =>
  rename_i M k j;refine cQ (C4 z h) ?_;rintro _ m ⟨rfl,g,y,e⟩;have w:=l.gS e;have x:=z.same.2.2;have W:(0<=(k:Int))=True:=aiq aD;have a:=w.gM;have b:=w.set;refine Z ?_;refine dS (Io y x) ?_;refine Z ?_;refine aH (ru 1 aR) rfl (bE _) ?_;refine Y ?_;refine dS (cR.QY (S0 y x X Q.Cn q)) ?_;simp only[go_sem,↓reduceIte,Nat.reduceLeDiff,ahZ,aia,a,b,zX];exact aW (yM 1 _ _ _).symm (by rw[<-yM];exact rq (th _) (th _) zT)
 | r9 z =>
  rename_i M j;refine cQ (C4 z h) ?_;rintro _ m ⟨rfl,g,y,e⟩;have w:=l.gS e;have x:=z.same.2.2;have a:=w.gM;have b:=w.set;have r:=aK y.bF;have s:=x.gl;have A:=x.wl;have ⟨p,B,C⟩:=(y.aM.cZ aD).read (i:=0) (iW aD);have f:∀(t:IntKind) (K:AV->Prop),mZ 4 g.vg (.c (.int t 0)) K=K p:=B;generalize hv:af j.aM 0 ah=v at *;simp only[go_sem,↓reduceIte,ahZ,aia,r,f,C,Int.reduceLE,Int.reduceNeg];refine gk (Io y x) ?_;refine Z ?_;refine gk (cR.QY (Kx y x.nl x.rl aD (y.aM.cZ aD) aD)) ?_;simp only[go_sem,↓reduceIte,Nat.reduceLeDiff,ahZ,aia,a,b,zX];exact jK (rq (th _) zT (th _))
def Zk (s:Qp T o) (l:fQ T) (h:ck H t D T) (X:Bp H t D) :
  WP prog 111 uW (jh [.cell 6 aq 8] 0 (xX o) []) ((6,.ptr 0 0 0 0)::(7,.ptr t 0 0 0)::er) H:=by
 refine uz ?_;have a0:=l.wl;have U:=l.nl;have R:=l.gl;have hT:=aK h.bF;have M:∀K,gH D.vo K=K (.q0 (ae T.out:Int)):=fun K=>by rw[h.out.cZ.fN,ah3]
 have L:=X.gM;have N:=X.set;refine Z ?_;refine aZ (fun m e G=>∃c,c<=ae T.out/\m=ae T.out - c/\H=G/\(∀j,j < c->T.kB j=ar)/\e=[(6,.ptr 0 0 0 0),(7,.ptr t 0 0 0),(42,D.vo),(43,.q0 (ae T.out:Int)),(44,.q0 (c:Int))]) (n:=ae T.out)
  ⟨0,aiL _,rfl,rfl,fun j E=>aD,rfl⟩ ?_;rintro m _ _ ⟨c,hc,rfl,rfl,z,rfl⟩;by_cases S:(c:Int) < (ae T.out:Int)
 .have y:c < ae T.out:=by omega
  have I:=ws c;have ⟨p,p1,p2⟩:=h.out.cZ.read (et y);obtain ⟨p3,q1,q2⟩:=(h.aM.cZ (by omega)).read (i:=c+1) (iW (show c+1 < ae T.aM by omega));have x:T.kB c=(decide (af T.out c 0 < (T.n:Int)) && !decide ((af T.aM (c+1) ah).top=0)):=rfl;generalize hv:af T.out c 0=v at *;generalize O:af T.aM (c+1) ah=g at *;by_cases C:v < (T.n:Int)
  .refine Z ?_;refine aH (j9 g) (by simp[bE]) rfl ?_;by_cases r:g.top=0
   .have b:(g.top.sign=0)=True:=by rw[qM];exact aiq r
    refine Z2 b I ?_;exact ⟨ae T.out - (c+1),aD,c+1,y,rfl,fun j E=>by
     by_cases a:j=c
     .subst a;rw[x,r];simp
     .exact z j aD,rfl⟩
   .have b:(g.top.sign=0)=False:=by rw[qM];exact aie r
    refine Z ?_;have w:T.kB c=aq:=by rw[x];simp[C,r]
    have V:-1<=g.top.sign/\g.top.sign<=1:=by rcases als g.top with h | h | h<;>rw[h]<;>decide
    have e2:au .i64 (0 - g.top.sign) = -g.top.sign:=by rw[wrap_i64 (by omega) (by omega)];omega
    cases s with
    | tight J _=>rw[J c y] at w;simp at w
    | loose B q k3 F =>
     rename_i k;have A:k=c:=by
      rcases aj0 k c with f | f | f
      .rw[z k f] at q;simp at q
      .exact f
      .rw[k3 c f] at w;simp at w
     subst A;rw[O];refine gk (Io h l) ?_;refine Z ?_;refine aH (j9 g) (by simp[bE]) rfl ?_;refine Z ?_;refine aH (ru (-g.top.sign) aD) rfl (bE _) ?_;refine Z ?_;refine gk (cR.QY (S0 h l B (ZM g.top) (by rw[hv] at F;rw[hv];exact F))) ?_;simp only[go_sem,↓reduceIte,Nat.reduceLeDiff,ahZ,aia,L,N,zX];exact aW (yM 1 _ _ _).symm (by rw[<-yM];exact rq (th _) (th _) zT)
  .refine Z ?_;exact ⟨ae T.out - (c+1),aD,c+1,y,rfl,fun j E=>by
    by_cases a:j=c
    .subst a;rw[x];simp[C]
    .exact z j aD,rfl⟩
 .have W:c=ae T.out:=aD;subst W;refine Z ?_;cases s with
  | loose B q _ _=>rw[z _ B] at q;simp at q
  | tight _ s=>exact Zl s h X
end
def Q.val (a:Q):Rat:=Rat.divInt a.top a.lo
structure QV (a:Q):Prop where
 low:0<=a.low
 red:Int.gcd a.top a.lo=1
def QV.lo (h:QV a):0 < a.lo:=by have:=h.low;unfold Q.lo;split<;>omega
def Ss {a:Q} (h:0<=a.low):0 < a.lo:=by unfold Q.lo;split<;>omega
def K0 (a b:Int):Rat.divInt a b=(a:Rat) / (b:Rat):=by exact Rat.divInt_eq_div a b
def jY (a:Q):a.val=(a.top:Rat) / (a.lo:Rat):=K0 _ _
def DL {a b:Int} (l:b≠0):QV (Q.ratio a b)/\(Q.ratio a b).val=(a:Rat) / (b:Rat)/\0 < (Q.ratio a b).low:=by
 have r:Int.gcd a b≠0:=fun h=>l (amv.1 h).2;have ⟨y,j⟩:=Int.gcd_dvd_left a b;have ⟨k,z⟩:=amI a b;generalize m:(Int.gcd a b)=g at *;have c:(g:Int)≠0:=aD;have n:a.tdiv g=y:=by rw[j];exact amW _ c
 have o:b.tdiv g=k:=by rw[z];exact amW _ c
 have w:k≠0:=fun h=>l (by rw[z,h];simp);have e:Int.gcd y k=1:=by
  have i:Int.gcd (g*y) (g*k)=g*Int.gcd y k:=by rw[Int.gcd_mul_left];simp
  rw[<-j,<-z,m] at i;exact Nat.eq_of_mul_eq_mul_left aD (by omega:g*Int.gcd y k=g*1)
 have hv:(a:Rat) / (b:Rat)=(y:Rat) / (k:Rat):=by
  have i:(a:Rat)=((g:Int):Rat)*(y:Rat):=by rw[j,ajC]
  have p:(b:Rat)=((g:Int):Rat)*(k:Rat):=by rw[z,ajC]
  have s:((g:Int):Rat)≠0:=by
   intro h;apply c
   exact_mod_cast h
  have q:(k:Rat)≠0:=by
   intro h;apply w
   exact_mod_cast h
  rw[i,p];grind
 unfold Q.ratio;rw[m,n,o];split
 .rename_i f;have x:(⟨-y,-k⟩:Q).lo = -k:=by unfold Q.lo;simp only;rw[ah0 aD]
  refine ⟨⟨by show 0 <= -k;omega,by rw[x];simpa using e⟩,?_,by show 0 < -k;omega⟩;rw[jY,x,hv];have q:(k:Rat)≠0:=by
   intro h;apply w
   exact_mod_cast h
  simp only[alT]
  grind
 .rename_i f;have x:(⟨y,k⟩:Q).lo=k:=by unfold Q.lo;simp only;rw[ah0 w]
  refine ⟨⟨by show 0<=k;omega,by rw[x];exact e⟩,?_,by show 0 < k;omega⟩;rw[jY,x,hv]
def Jh {a:Q} (k:0<=a.low) (h:a.low<=1):a.lo=1:=by unfold Q.lo;split<;>omega
def Ig (h:QV a):QV a.neg/\a.neg.val = -a.val:=by have k:a.neg.lo=a.lo:=rfl;refine ⟨⟨h.low,by rw[k];show Int.gcd (-a.top) a.lo=1;simpa using h.red⟩,?_⟩;rw[jY,jY,k];show ((-a.top:Int):Rat) / _=_;rw[alT];grind
def wF (n:Int):QV ⟨n,0⟩/\(⟨n,0⟩:Q).val=(n:Rat):=by
 refine ⟨⟨ajV 0,by show Int.gcd n 1=1;simp⟩,?_⟩;rw[jY];show (n:Rat) / ((1:Int):Rat)=n
 grind
def Mz {a b:Q} (y:QV a) (z:QV b):QV (a.add b)/\(a.add b).val=a.val+b.val:=by
 have e:=y.lo;have f:=z.lo;unfold Q.add;split
 .rename_i h;have ⟨k,x⟩:=wF (a.top+b.top);refine ⟨k,?_⟩;rw[x,jY,jY,Jh y.low h.1,Jh z.low h.2,Rat.intCast_add];grind
 .have ⟨k,x,_⟩:=DL (a:=a.top*b.lo+b.top*a.lo) (b:=a.lo*b.lo) (akE aD aD);refine ⟨k,?_⟩;have w:(a.lo:Rat)≠0:=by (intro h;have:a.lo=0:=by exact_mod_cast h);(omega)
  have c:(b.lo:Rat)≠0:=by (intro h;have:b.lo=0:=by exact_mod_cast h);(omega)
  rw[x,jY,jY,Rat.intCast_add,ajC,ajC,ajC]
  grind
def Vg {a b:Q} (y:QV a) (z:QV b):QV (a.mul b)/\(a.mul b).val=a.val*b.val:=by
 have e:=y.lo;have f:=z.lo;unfold Q.mul;split
 .rename_i h;have ⟨k,x⟩:=wF (a.top*b.top);refine ⟨k,?_⟩;rw[x,jY,jY,Jh y.low h.1,Jh z.low h.2,ajC];grind
 .have ⟨k,x,_⟩:=DL (a:=a.top*b.top) (b:=a.lo*b.lo) (akE aD aD);refine ⟨k,?_⟩;have w:(a.lo:Rat)≠0:=by (intro h;have:a.lo=0:=by exact_mod_cast h);(omega)
  have c:(b.lo:Rat)≠0:=by (intro h;have:b.lo=0:=by exact_mod_cast h);(omega)
  rw[x,jY,jY,ajC,ajC]
  grind
def qP {a:Q} (k:0<=a.low):(a.top=0)=(a.val=0):=by
 have y:=Ss k;have x:(a.lo:Rat)≠0:=by (intro h;have:a.lo=0:=by exact_mod_cast h);(omega)
 rw[jY];refine propext ⟨fun h=>by rw[h];grind,fun h=>?_⟩;have:(a.top:Rat)=0:=by grind
 exact_mod_cast this
def HP (z:QV a) (w:QV b) (k:b.top≠0):QV (a.div b)/\(a.div b).val=a.val / b.val:=by
 have g:=z.lo;have i:=w.lo;unfold Q.div;have ⟨x,y,_⟩:=DL (a:=a.top*b.lo) (b:=a.lo*b.top) (akE aD k);refine ⟨x,?_⟩;have c:(a.lo:Rat)≠0:=by (intro h;have:a.lo=0:=by exact_mod_cast h);(omega)
 have e:(b.lo:Rat)≠0:=by (intro h;have:b.lo=0:=by exact_mod_cast h);(omega)
 have f:(b.top:Rat)≠0:=by intro h;exact k (by exact_mod_cast h)
 rw[y,jY,jY,ajC,ajC]
 grind
def D8 (z:QV a) (w:QV b):QV (a.sub b)/\(a.sub b).val=a.val - b.val:=by have ⟨h,k⟩:=Ig w;have ⟨x,y⟩:=Mz z h;exact ⟨x,by show (a.add b.neg).val=_;rw[y,k];grind⟩
def wy {a:Q} (b:0<=a.low):(a.top < 0)=(a.val < 0):=by
 have c:=Ss b;have k:(0:Rat) < (a.lo:Rat):=by exact_mod_cast c
 rw[jY];have x:(a.top:Rat) < 0↔a.top < 0:=by
  constructor
  .intro h;exact_mod_cast h
  .intro h;exact_mod_cast h
 refine propext ⟨fun h=>?_,fun h=>?_⟩
 .have y:=x.2 h;rw[am6];have z:(0:Rat) < (a.lo:Rat)⁻¹:=Rat.inv_pos.2 k;have:=(anl z).2 y;simpa using this
 .apply x.1;rw[am6] at h;have:=(anl k).2 h;have w:(a.top:Rat)*(a.lo:Rat)⁻¹*(a.lo:Rat)=a.top:=by grind
  rw[w] at this;simpa using this
def QV.le (w:QV a) {n d:Int} (j:0 < d) (h:a.val=(n:Rat) / (d:Rat)):ay a.top<=ay n/\ay a.lo<=ay d:=by
 have f:=w.lo;have g:(a.lo:Rat)≠0:=by (intro h;have:a.lo=0:=by exact_mod_cast h);(omega)
 have i:(d:Rat)≠0:=by (intro h;have:d=0:=by exact_mod_cast h);(omega)
 rw[jY] at h;have b:(a.top:Rat)*d=n*a.lo:=by grind
 have y:a.top*d=n*a.lo:=by exact_mod_cast b
 have z:a.lo ∣ d:=by
  have:a.lo ∣ a.top*d:=⟨n,y ▸ ai2 _ _⟩;rw[<-ani,aln] at this;rw[<-ani];refine Nat.Coprime.dvd_of_dvd_mul_left (m:=ay a.top) ?_ this;show Nat.gcd _ _=1;rw[amo];have:=w.red
  rwa [Int.gcd_eq_natAbs_gcd_natAbs] at this
 have ⟨k,x⟩:=z;have c:0 < k:=by
  rcases akM k 0 with h | h | h
  .have:=Int.mul_neg_of_pos_of_neg f h;omega
  .rw[h] at x;simp at x;omega
  .exact h
 have e:n=a.top*k:=by
  rw[x] at y;have:(a.top*k)*a.lo=n*a.lo:=by rw[<-y];grind
  exact (Int.eq_of_mul_eq_mul_right aD this).symm
 constructor
 .rw[e,aln];exact am0 _ aD
 .rw[x,aln];exact am0 _ aD
def lW:(ah:Q).val=0:=by have:=(wF 0).2;exact this.trans (by exact_mod_cast rfl)
def q7:QV ah:=(wF 0).1
def Co:Q.one.val=1/\QV Q.one:=⟨((wF 1).2).trans (by exact_mod_cast rfl),(wF 1).1⟩
def Tab.cell (T:Tab) (i c:Nat):Q:=af (af T.cells i []) c ah
def Tab.dic (T:Tab):Dic where
 m:=ae T.cells
 w:=ae T.out
 bt:=fun i=>af T.aT i 0
 out:=fun k=>af T.out k 0
 a:=fun i c=>(T.cell i c).val
 g:=fun c=>(af T.aM c ah).val
structure gz (T:Tab):Prop where
 bl:T.aT.length=T.cells.length
 row:∀i,i < T.cells.length->(T.cells.getD i []).length=T.out.length+1
 gl:T.aM.length=T.out.length+1
 p8:∀i,i < T.cells.length->∀x,x∈T.cells.getD i []->QV x
 mU:∀x,x∈T.aM->QV x
def n5 {l:List Q} (h:∀x,x∈l->QV x) (c:Nat):QV (af l c ah):=by
 rcases aij c (ae l) with y | y
 .exact h _ (ec y)
 .rw[show af l c ah=ah by simp[af,y]];exact q7
def gz.cell (h:gz T) (i c:Nat):QV (T.cell i c):=by
 unfold Tab.cell;rcases aij i (ae T.cells) with x | x
 .exact n5 (h.p8 i x) c
 .rw[show af T.cells i []=[] by simp[af,x]];exact q7
def NF (h:∀x,x∈row->QV x) (g:(af row (k+1) ah).top≠0) (f:c≠k+1):QV (uN row k c)/\(uN row k c).val = -((af row c ah).val / (af row (k+1) ah).val):=by
 unfold uN;rw[ah0 f];have y:=n5 h c;have j:=n5 h (k+1);split
 .rename_i e;refine ⟨q7,?_⟩;rw[lW,(qP y.low).mp e];grind
 .have ⟨z,w⟩:=HP y j g;have ⟨a,b⟩:=Ig z;exact ⟨a,by rw[b,w]⟩
def JE (h:∀x,x∈row->QV x) (a:(af row (k+1) ah).top≠0) (l:k+1 < ae row) :
  (∀x,x∈dY row k->QV x)/\∀c,(af (dY row k) c ah).val=if c=k+1 then 1 / (af row (k+1) ah).val else -((af row c ah).val / (af row (k+1) ah).val):=by
 have o:=n5 h (k+1);have ⟨m,n⟩:=Co;have ⟨e,f⟩:=HP n o a;constructor
 .intro x b;unfold dY at b;rcases ai4 b with w | w
  .obtain ⟨c,_,rfl⟩:=aiw.1 w;by_cases y:c=k+1
   .subst y;unfold uN;rw[ah1 rfl];exact q7
   .exact (NF h a y).1
  .rw[w];exact e
 .intro c;by_cases y:c=k+1
  .subst y;rw[ah1 rfl];have:af (dY row k) (k+1) ah=Q.one.div (af row (k+1) ah):=by unfold dY;simp[af,l]
   rw[this,f,m]
  .rw[ah0 y];rcases aij c (ae row) with z | z
   .have:af (dY row k) c ah=uN row k c:=by unfold dY;rw[dN y];simp[af,z]
    rw[this];exact (NF h a y).2
   .have g:af (dY row k) c ah=ah:=by unfold dY;simp[af,z]
    have j:af row c ah=ah:=by simp[af,z]
    rw[g,j,lW];grind
def oU:ae (dY row k)=ae row:=by simp[dY]
def DO (j:∀x,x∈l->QV x) (o:∀x,x∈fresh->QV x) (h:ae fresh=ae l) (G:k+1 < ae l) :
  (∀x,x∈dT l fresh k->QV x)/\∀c,(af (dT l fresh k) c ah).val=(if c=k+1 then 0 else (af l c ah).val)+(af l (k+1) ah).val*(af fresh c ah).val:=by
 have q:=n5 j (k+1);unfold dT;split
 .rename_i B;have b:=(qP q.low).mp B;refine ⟨j,fun c=>?_⟩;by_cases y:c=k+1
  .subst y;rw[ah1 rfl,b];grind
  .rw[ah0 y,b];grind
 .generalize D:af l (k+1) ah=f at *;have key:∀a x:Q,QV a->QV x->QV (mW f a x)/\(mW f a x).val=a.val+f.val*x.val:=by
   intro a x r t;unfold mW;split
   .rename_i w;refine ⟨r,?_⟩;rw[(qP t.low).mp w];grind
   .have ⟨E,F⟩:=Vg q t;have ⟨v,H⟩:=Mz r E;exact ⟨v,by rw[H,F]⟩
  have A:∀c,c < ae l->af (l.set (k+1) ah) c ah=if c=k+1 then ah else af l c ah:=by
   intro c y;by_cases z:c=k+1
   .subst z;simp[af,y]
   .rw[ah0 z];simp[af,ajc (ait z)]
  have ep:∀c,c < ae l->af (List.zipWith (mW f) (l.set (k+1) ah) fresh) c ah=mW f (af (l.set (k+1) ah) c ah) (af fresh c ah):=by intro c y;have w:c < ae (l.set (k+1) ah):=bu y;have C:c < ae fresh:=aD;simp[af,alL,C,y]
  have s:∀c,QV (af (l.set (k+1) ah) c ah):=fun c=>n5 (fun x n=>by
   rcases ai4 n with w | w
   .exact j x w
   .rw[w];exact q7) c;constructor
  .intro x n;obtain ⟨c,y,rfl⟩:=ajD.1 n;have g:c < ae l:=by simp at y;omega
   have:=ep c g;have e:∀m:List Q,∀p:c < ae m,af m c ah=m[c]:=fun m p=>by simp[af,p]
   rw[e _ y] at this;rw[this];exact (key _ _ (s c) (n5 o c)).1
  .intro c;rcases aij c (ae l) with y | y
   .rw[ep c y,(key _ _ (s c) (n5 o c)).2,A c y];by_cases z:c=k+1
    .rw[ah1 z,ah1 z,lW]
    .rw[ah0 z,ah0 z]
   .have K:af (List.zipWith (mW f) (l.set (k+1) ah) fresh) c ah=ah:=by simp only[af];rw[aiO bW];rfl
    have X:af fresh c ah=ah:=by simp[af,show ae fresh<=c by omega]
    have W:af l c ah=ah:=by simp[af,y]
    rw[K,X,W,lW,ah0 aD];grind
def dZ {T:Tab} {i k:Nat}:(T.dt i k).cells.length=ae T.cells:=EZ
def FH {T:Tab} {i k r:Nat} (h:r < ae T.cells):(T.dt i k).cells.getD r []=if r=i then dY (af T.cells i []) k else dT (af T.cells r []) (dY (af T.cells i []) k) k:=by
 show af (gi _ _ _ _ _) r []=_;rw[EY h];split
 .rfl
 .rfl
section
variable {T:Tab} {i k:Nat}
def gz.dt (h:gz T) (a:i < ae T.cells) (c:k < ae T.out) (b:(T.cell i (k+1)).top≠0):gz (T.dt i k):=by
 have y:=h.row i a;have ⟨w,_⟩:=JE (h.p8 i a) b aD;refine ⟨?_,fun r x=>?_,?_,fun r x=>?_,?_⟩
 .rw[dZ];simp[Tab.dt,h.bl]
 .rw[dZ] at x;have z:=h.row r x;rw[FH x,lH];split
  .rw[oU,y]
  .rw[DN (by rw[oU];omega),z]
 .rw[lH];show ae (dT _ _ _)=_;rw[DN (by rw[oU,y,h.gl]),h.gl]
 .rw[dZ] at x;have z:=h.row r x;rw[FH x];split
  .exact w
  .exact (DO (h.p8 r x) w (by rw[oU];omega) aD).1
 .exact (DO h.mU w (by rw[oU,y,h.gl]) (by rw[h.gl];omega)).1
def oF (h:gz T) (a:i < ae T.cells) (l:k < ae T.out) (m:(T.cell i (k+1)).top≠0):(T.dt i k).dic=T.dic.bQ i k:=by
 have b:=h.row i a;have ⟨e,j⟩:=JE (h.p8 i a) m aD;have w:∀c,(af (dY (af T.cells i []) k) c ah).val=T.dic.fresh i k c:=fun c=>by rw[j];rfl
 unfold Tab.dic Dic.bQ;simp only[Dic.mk.injEq];refine ⟨dZ,lH T i k,?_,?_,?_,?_⟩
 .funext r;show af (T.aT.set i (af T.out k 0)) r 0=cT _ _ _ r;unfold cT;by_cases x:r=i
  .rw[ah1 x,x];exact eu (h.bl ▸ a)
  .rw[ah0 x];exact dN x
 .funext q;show af (T.out.set k (af T.aT i 0)) q 0=cT _ _ _ q;unfold cT;by_cases z:q=k
  .rw[ah1 z,z];exact eu l
  .rw[ah0 z];exact dN z
 .funext r c;rcases aij r (ae T.cells) with x | x
  .have n:=h.row r x;unfold Tab.cell;rw[FH x];by_cases y:r=i
   .rw[ah1 y,ah1 y];exact w c
   .rw[ah0 y,ah0 y,(DO (h.p8 r x) e (by rw[oU];omega) aD).2 c,w];rfl
  .have f:∀c,(T.dt i k).cell r c=ah:=fun c=>by unfold Tab.cell;rw[show (T.dt i k).cells.getD r []=[] by simp only[af];rw[aiO (by rw[dZ];exact x)];rfl];rfl
   have g:∀c,T.cell r c=ah:=fun c=>by unfold Tab.cell;rw[show af T.cells r []=[] by simp[af,x]];rfl
   rw[ah0 aD,f,lW];unfold Dic.dT;simp only[g,lW];split<;>grind
 .funext c;show (af (dT T.aM (dY (af T.cells i []) k) k) c ah).val=_;rw[(DO h.mU e (by rw[oU,b,h.gl]) (by rw[h.gl];omega)).2 c,w];rfl
end
def Tab.fr (T:Tab) (v:Int):Prop:=v < (T.n:Int)
def Tab.gJ (T:Tab) (v:Int):Prop:=T.gm v=aq
def Tab.fF (T:Tab) (v:Int):Prop:=T.du v=aq
def F0 (T:Tab) (v:Int) (h:T.fr v):¬T.fF v:=by unfold Tab.fr at h;unfold Tab.fF Tab.du;simp;omega
def N8 (T:Tab) (v:Int) (h:T.fr v):¬T.gJ v:=by unfold Tab.fr at h;unfold Tab.gJ Tab.gm;simp;omega
def N7 (T:Tab) (v:Int) (h:T.gJ v):¬T.fF v:=by unfold Tab.gJ at h;unfold Tab.fF Tab.du;simp[h]
def PX (T:Tab) (v:Int):T.fr v\/T.gJ v\/T.fF v:=by
 by_cases h:T.fr v
 .exact .inl h
 .by_cases k:T.gJ v
  .exact .inr (.inl k)
  .right;right;unfold Tab.fr at h;unfold Tab.gJ at k;unfold Tab.fF Tab.du;simp[k];omega
structure Gg (n:Nat) (aU:List dB) (M:Int):Prop where
 n1:n < 900000
 r1:aU.length < 900000
 m1:1<=M
 g1:grow M (n+1) < 4294967296 ^ 100000
def SA {q:Q} {d M:Int} (k:QV q) (x:d≠0) (f:-M<=d) (g:d<=M) (w:M < 4294967296 ^ 100000) (h:Num M d q.val):QOk 100000 q:=by
 have ⟨n,i,j,y⟩:=h;have key:ay q.top<=az M/\ay q.lo<=az M:=by
  rcases amF x with z | z
  .have e:q.val=((-n:Int):Rat) / ((-d:Int):Rat):=by
    rw[y,alT,alT];have:=Rk x
    grind
   have ⟨a,b⟩:=k.le aD e;omega
  .have ⟨a,b⟩:=k.le aD y;omega
 have c:=LR (n:=100000) (by omega) w;refine ⟨k.low,alc key.1 c,?_⟩;show ay q.low < _;have:ay q.low<=ay q.lo:=by unfold Q.lo;split<;>omega
 omega
def yS {n:Nat} {aU:List dB} {M:Int} {z:Dic} {T:Tab} (S:Gg n aU M) (hv:gz T) (r:Und z T.dic) (p:z.Dis) (o:CD M z) (t:T.n=n) (q:T.aU=aU) (hm:ae T.cells<=ae aU+1) (s:ae T.out<=n+1):fQ T:=by
 have ⟨E,a,b,f,j,m⟩:=r.bound p o S.m1;have g:=amG (Fq S.m1 s) S.g1;have v:=S.n1;have H:=S.r1;refine ⟨aD,by rw[q];omega,hv.bl,aD,aD,hv.row,hv.gl,fun i w x y=>?_,fun x y=>?_⟩
 .obtain ⟨c,h,rfl⟩:=ajD.1 y;have k:=hv.row i w;have:=j i w c (by show c<=ae T.out;omega);refine SA (hv.p8 i w _ y) a b f g ?_;have e:T.cell i c=(af T.cells i [])[c]:=by unfold Tab.cell;generalize af T.cells i []=l at *;simp[af,h]
  rw[<-e];exact this
 .obtain ⟨c,h,rfl⟩:=ajD.1 y;have k:=hv.gl;have:=m c (by show c<=ae T.out;omega);refine SA (hv.mU _ y) a b f g ?_;have e:af T.aM c ah=T.aM[c]:=by simp[af,h]
  rw[<-e];exact this
section
variable {T:Tab}
def vY (hv:gz T) (i c:Nat):((T.cell i c).top < 0)=((T.cell i c).val < 0):=wy (hv.cell i c).low
def qV (hv:gz T) (i c:Nat):((T.cell i c).top=0)=((T.cell i c).val=0):=qP (hv.cell i c).low
def Ds (hv:gz T) (c:Nat):((af T.aM c ah).top < 0)=((af T.aM c ah).val < 0):=wy (n5 hv.mU c).low
def Sg (hv:gz T) (c:Nat):((af T.aM c ah).top=0)=((af T.aM c ah).val=0):=qP (n5 hv.mU c).low
def Ho (T:Tab) (c:Nat):(T.fB c < 0->∀q,q < c->T.du (af T.out q 0)=aq->¬(af T.aM (q+1) ah).top < 0) /\
  (0<=T.fB c->T.du (af T.out (az (T.fB c)) 0)=aq/\(af T.aM (az (T.fB c)+1) ah).top < 0/\∀q,q < c->T.du (af T.out q 0)=aq->(af T.aM (q+1) ah).top < 0->af T.out (az (T.fB c)) 0<=af T.out q 0):=by
 induction c with
 | zero=>exact ⟨fun _ q i=>aD,fun h=>by simp[Tab.fB] at h⟩
 | succ c m =>
  have ⟨w,y⟩:=m;rw[By];unfold gU;split
  .rename_i h;have ⟨j,l,a⟩:=h;refine ⟨fun f=>aD,fun _=>⟨bu j,bu l,fun q i x z=>?_⟩⟩;rw[ah9];by_cases k:q=c
   .rw[k];exact ajV _
   .rcases a with a | a
    .exact absurd z (w a q aD x)
    .rcases ajQ (T.fB c) 0 with b | b
     .exact absurd z (w b q aD x)
     .exact akJ (anu a) ((y b).2.2 q aD x z)
  .rename_i h;refine ⟨fun f q i x=>?_,fun g=>⟨(y g).1,(y g).2.1,fun q i x z=>?_⟩⟩
   .by_cases k:q=c
    .subst k;exact fun z=>h ⟨x,z,.inl f⟩
    .exact w f q aD x
   .by_cases k:q=c
    .subst k;exact ali.1 fun e=>h ⟨x,z,.inr e⟩
    .exact (y g).2.2 q aD x z
def tk (hv:gz T) (w:(T.cell i (k+1)).top≠0):QV (T.quot k i)/\(T.quot k i).val=(T.cell i 0).val / -(T.cell i (k+1)).val:=by have ⟨y,z⟩:=Ig (hv.cell i (k+1));have ⟨h,x⟩:=HP (hv.cell i 0) y (by show -_≠0;omega);exact ⟨h,z ▸ x⟩
def Ji (hv:gz T) (k c:Nat):((T.eM k c).1 < 0->∀p,p < c->T.du (af T.aT p 0)=aq->¬(T.cell p (k+1)).top < 0) /\
  (0<=(T.eM k c).1->∀p,p < c->T.du (af T.aT p 0)=aq->(T.cell p (k+1)).top < 0->(T.quot k (T.eM k c).1.toNat).val<=(T.quot k p).val /\
   ((T.quot k (T.eM k c).1.toNat).val=(T.quot k p).val->T.aT.getD (T.eM k c).1.toNat 0<=af T.aT p 0)):=by
 induction c with
 | zero=>exact ⟨fun _ p n=>aD,fun h=>by simp[Tab.eM] at h⟩
 | succ c W =>
  have ⟨f,b⟩:=W;have ⟨A,B,l⟩:=yD T k c;rw[Dw];unfold nX;split
  .rename_i h;have ⟨C,D⟩:=h;have qc:=tk hv (k:=k) (i:=c) (by show (af (af T.cells c []) (k+1) ah).top≠0;omega);split
   .rename_i y;refine ⟨fun e=>by (have:((c:Nat):Int) < 0:=e);(omega),fun _ p n z w=>?_⟩;show (T.quot k (az ((c:Nat):Int))).val<=_/\(_->af T.aT (az ((c:Nat):Int)) 0<=_);rw[ah9];by_cases x:p=c
    .rw[x];exact ⟨ala,fun _=>ajV _⟩
    .rcases ajQ (T.eM k c).1 0 with m | m
     .exact absurd w (f m p aD z)
     .have ⟨o,t,v⟩:=l m;have ⟨E,X⟩:=b m p aD z w;have s:=tk hv (k:=k) (i:=(T.eM k c).1.toNat) (by show (af (af T.cells _ []) (k+1) ah).top≠0;omega);have ⟨g,j⟩:=D8 qc.1 s.1;rw[o] at y;rcases y with y | y | ⟨y,H⟩
      .omega
      .have:(T.quot k c).val - (T.quot k (T.eM k c).1.toNat).val < 0:=j ▸ (wy g.low).mp y;exact ⟨by grind,fun q=>by grind⟩
      .have:(T.quot k c).val - (T.quot k (T.eM k c).1.toNat).val=0:=j ▸ (qP g.low).mp y;exact ⟨by grind,fun q=>akJ (anu H) (X (by grind))⟩
   .rename_i y;have a:=ali.1 fun e=>y (.inl e);have ⟨o,t,v⟩:=l a;refine ⟨fun e=>aD,fun _ p n z w=>?_⟩;by_cases x:p=c
    .subst x;have s:=tk hv (k:=k) (i:=(T.eM k p).1.toNat) (by show (af (af T.cells _ []) (k+1) ah).top≠0;omega);have ⟨g,j⟩:=D8 qc.1 s.1;rw[o] at y;have n1:=fun K=>y (.inr (.inl K));rw[wy g.low,j] at n1;refine ⟨by grind,fun q=>ali.1 fun r=>y (.inr (.inr ⟨?_,r⟩))⟩;rw[qP g.low,j,q];grind
    .exact b a p aD z w
  .rename_i h;refine ⟨fun e p n z=>?_,fun a p n z w=>?_⟩
   .by_cases x:p=c
    .subst x;exact fun w=>h ⟨z,w⟩
    .exact f e p aD z
   .by_cases x:p=c
    .subst x;exact absurd ⟨z,w⟩ h
    .exact b a p aD z w
def C7 (hv:gz T) {o:Tab} (h:T.mq = .inl o):∃i k,o=T.dt i k/\i < ae T.cells/\k < ae T.out/\(T.cell i (k+1)).top≠0/\nE T.fF T.dic i k:=by
 unfold Tab.mq at h;split at h
 .simp at h
 .rename_i v;split at h
  .simp at h
  .rename_i X;cases h;have ⟨G,I⟩:=ux T (ae T.out);have ⟨_,K⟩:=Ho T (ae T.out);have ⟨r,s,t⟩:=K (by unfold Tab.ep at v;omega);have ⟨B,C,D⟩:=yD T (az T.ep) (ae T.cells);have ⟨_,E⟩:=Ji hv (az T.ep) (ae T.cells);have y:0<=(T.eM (az T.ep) (ae T.cells)).1:=by unfold Tab.lv at X;omega
   have ⟨F,m,n⟩:=D y;have c:=E y;obtain ⟨k,g⟩:∃k,k=az T.ep:=⟨_,rfl⟩;obtain ⟨i,e⟩:∃i,i=az (T.lv k):=⟨_,rfl⟩;have f:(T.eM k (ae T.cells)).1.toNat=i:=by rw[e];rfl
   have j:az (T.fB (ae T.out))=k:=by rw[g];rfl
   rw[j] at r s t;rw[<-g] at m n c y C B ⊢;rw[f] at m n c;rw[<-e];have a:k < ae T.out:=by unfold Tab.ep at g v;omega
   have w:i < ae T.cells:=by unfold Tab.lv at e;omega
   have H:(T.cell i (k+1)).top < 0:=m;refine ⟨i,k,rfl,w,a,aD,w,a,r,?_,fun q A b z=>?_,n,?_,fun p l b z=>?_,fun p l b z W=>?_⟩
   .exact (Ds hv _).mp s
   .exact t q A b ((Ds hv _).mpr z)
   .exact (vY hv _ _).mp H
   .have x:=(vY hv _ _).mpr z;have:=(c p l b x).1;rw[(tk hv aD).2,(tk hv aD).2] at this;exact this
   .have x:=(vY hv _ _).mpr z;refine (c p l b x).2 ?_;rw[(tk hv aD).2,(tk hv aD).2];exact W
inductive Qi (T:Tab):Int->Prop
 | r9:(∀k,k < T.dic.w->T.fF (T.dic.out k)->0<=T.dic.g (k+1))->Qi T (-1)
 | ny {k:Nat}:k < T.dic.w->T.fF (T.dic.out k)->T.dic.g (k+1) < 0->(∀i,i < T.dic.m->T.fF (T.dic.bt i)->0<=T.dic.a i (k+1))->Qi T (k:Int)
def R2 (hv:gz T) {r:Int} (h:T.mq = .inr r):Qi T r:=by
 unfold Tab.mq at h;have ⟨n,o⟩:=ux T (ae T.out);have ⟨f,g⟩:=Ho T (ae T.out);split at h
 .rename_i y;cases h;exact .r9 fun k x a=>akR.1 fun z=>f y k x a ((Ds hv _).mpr z)
 .rename_i y;split at h
  .rename_i j;cases h;have ⟨b,c,_⟩:=g (by unfold Tab.ep at y;omega);have ⟨m,_⟩:=Ji hv (az T.ep) (ae T.cells);have e:=m j;obtain ⟨k,x⟩:∃k:Nat,T.ep=(k:Int):=⟨az T.ep,aD⟩;have w:T.fB (ae T.out)=(k:Int):=x;rw[w,ah9] at b c;rw[x,ah9] at e;rw[x];exact .ny (by show k < ae T.out;omega) b ((Ds hv _).mp c) fun i l a=>akR.1 fun z=>e i l a ((vY hv _ _).mpr z)
  .simp at h
structure yW (D0:Dic) (n:Nat) (aU:List dB) (W m:Nat) (T:Tab):Prop where
 v:gz T
 pre:Pre D0 T.dic T.fr T.gJ T.fF
 jc:T.dic.lU T.fF
 tn:T.n=n
 tr:T.aU=aU
 tw:T.out.length=W
 tm:T.cells.length=m
def yW.dt (h:yW w n aU W m T) (x:i < ae T.cells) (y:k < ae T.out) (z:(T.cell i (k+1)).top≠0) (b:nE T.fF T.dic i k):yW w n aU W m (T.dt i k):=by
 have e:=oF h.v x y z;have c:T.dic.a i (k+1)≠0:=by have:=b.zr;grind
 refine ⟨h.v.dt x y z,?_,?_,h.tn,h.tr,by rw[lH,h.tw],by rw[dZ,h.tm]⟩
 .rw[e];exact h.pre.bQ x y c b.si b.sk
 .rw[e];exact b.jc h.jc
def Pa {f:Dic} {n W m:Nat} {aU:List dB} {M:Int} (S:Gg n aU M) (q:f.Dis) (I:CD M f) (G:W<=n+1) (hm:m<=ae aU+1) {lo:Int} {V:Nat} (w:∀v,f.Var v->lo<=v/\v < lo+V) (h:yW f n aU W m T):∃N g r,pH N T g r/\yW f n aU W m g/\Qi g r:=by
 have e:∀{T},yW f n aU W m T->fQ T:=fun {T} h=>yS S h.v h.pre.fit.dE q I h.tn h.tr (by rw[h.tm];exact hm) (by rw[h.tw];exact G);obtain ⟨N,b,B⟩:=NS (α:=Tab) (next:=fun T=>match T.mq with | .inl g=>ak g | .inr _=>an) (dic:=Tab.dic) (sd:=T.fF) (lo:=lo) (V:=V) (fun X=>yW f n aU W m X/\X.n=T.n/\X.aU=T.aU)
  (fun a b j z=>by
   have ⟨j,l,o⟩:=j;have A:a.mq = .inl b:=by
    cases q:a.mq with
    | inl x=>rw[q] at z;simp at z;rw[z]
    | inr x=>rw[q] at z;simp at z
   obtain ⟨i,k,rfl,s,t,H,p⟩:=C7 j.v A;have K:a.fF=T.fF:=by funext v;unfold Tab.fF Tab.du Tab.gm;rw[l,o]
   exact ⟨⟨j.dt s t H p,l,o⟩,i,k,K ▸ p,oF j.v s t H⟩) ⟨h,rfl,rfl⟩ h.pre.fit.dE.cK h.jc (fun v hv=>w v (h.pre.fit.dE.var v hv));clear w
 induction B with
 | stop z =>
  rename_i a;cases y:a.mq with
  | inl x=>rw[y] at z;simp at z
  | inr r=>exact ⟨0,a,r,.stop (e h) y,h,R2 h.v y⟩
 | go z B J =>
  rename_i N a b c;cases y:a.mq with
  | inr x=>rw[y] at z;simp at z
  | inl x =>
   rw[y] at z;simp at z;subst z;obtain ⟨i,k,rfl,s,t,H,p⟩:=C7 h.v y;have ⟨C,g,r,D,E,F⟩:=J (h.dt s t H p);exact ⟨C+1,g,r,.go (e h) y D,E,F⟩
def pH.aY {P:Tab->Prop} {N:Nat} {y:Tab} {r:Int} (h:pH N T y r) (hv:gz T) (z:P T) (b:∀(X:Tab) (i k:Nat),gz X->X.n=T.n->X.aU=T.aU->P X->i < ae X.cells->k < ae X.out->(X.cell i (k+1)).top≠0->nE X.fF X.dic i k->P (X.dt i k)):P y:=by
 induction h with
 | stop=>exact z
 | go g e _ f =>
  obtain ⟨i,k,rfl,w,a,x,c⟩:=C7 hv e;exact f (hv.dt w a x) (b _ i k hv rfl rfl z w a x c) fun X i k v n r=>b X i k v n r
end
def Lj (h:∀i j,i < ae l->j < ae l->af l i 0=af l j 0->i=j) (y:k < ae l):da l (af l k 0)=k:=by
 induction l generalizing k with
 | nil=>simp at y
 | cons a r f =>
  unfold da;cases k with
  | zero=>simp
  | succ k =>
   have z:k < ae r:=bu y;have e:af (a::r) (k+1) 0=af r k 0:=aO;rw[e];have w:af r k 0≠a:=fun x=>by have:=h (k+1) 0 y aO (by rw[e,x];simp);omega
   rw[ah0 w,f (fun i j b c x=>by have:=h (i+1) (j+1) (bu b) (bu c) (bu x);omega) z,ah0 aD];omega
section
variable {T:Tab} {n:Nat} {aU:List dB} {D0:Dic}
def PF (h:T.dic.Dis):∀i j,i < ae T.out->j < ae T.out->af T.out i 0=af T.out j 0->i=j:=h.oo
structure ub (D0:Dic) (n:Nat) (aU:List dB) (T:Tab):Prop where
 v:gz T
 fit:Fit D0 T.dic T.gJ
 tn:T.n=n
 tr:T.aU=aU
 tw:T.out.length=n
 tm:T.cells.length<=aU.length
 JZ:∀k,k < T.out.length->T.fr (T.out.getD k 0)\/T.gJ (T.out.getD k 0)\/T.fF (T.out.getD k 0)
def ub.w (h:ub D0 n aU T) (S:Gg n aU M) (x:D0.Dis) (k:CD M D0):fQ T:=yS S h.v h.fit.dE x k h.tn h.tr (by have:=h.tm;omega) (by rw[h.tw];omega)
def ub.dt (h:ub D0 n aU T) (x:i < ae T.cells) (y:k < ae T.out) (z:(T.cell i (k+1)).top≠0):ub D0 n aU (T.dt i k):=by have e:=oF h.v x y z;have ne:=fun w=>z ((qV h.v _ _).mpr w);refine ⟨h.v.dt x y z,by rw[e];exact h.fit.bQ x y ne,h.tn,h.tr,by rw[lH,h.tw],by rw[dZ];exact h.tm,fun q _=>PX (T.dt i k) _⟩
def dK {α:Type} {l:List α} {i:Nat} (h:i < ae l):ae (aB l i)=ae l - 1:=aiP h
def dc {α:Type} {l:List α} {i j:Nat} {d:α}:af (aB l i) j d=af l (sk i j) d:=by rw[getD_erase];unfold sk;split<;>rfl
def W7 (hv:gz T) (h:i < ae T.cells):(T.del i).dic=T.dic.del i:=by
 unfold Tab.dic Dic.del;simp only[Dic.mk.injEq];refine ⟨dK h,rfl,?_,rfl,?_,rfl⟩
 .funext r;exact dc
 .funext r c;show ((T.del i).cell r c).val=(T.cell (sk i r) c).val;have:(T.del i).cell r c=T.cell (sk i r) c:=by unfold Tab.cell;rw[show (T.del i).cells=aB T.cells i from rfl,dc]
  rw[this]
def gz.del {i:Nat} (hv:gz T) (k:i < ae T.cells):gz (T.del i):=by
 have x:(T.del i).cells.length=ae T.cells - 1:=dK k;have h:∀r,(T.del i).cells.getD r []=af T.cells (sk i r) []:=fun r=>dc;refine ⟨?_,fun r y=>?_,hv.gl,fun r y=>?_,hv.mU⟩
 .rw[x];show ae (aB T.aT i)=_;rw[dK (by rw[hv.bl];exact k),hv.bl]
 .rw[h];exact hv.row _ (di aD)
 .rw[h];exact hv.p8 _ (di aD)
def IQ {M:Int} (S:Gg n aU M) (t:D0.Dis) (s:CD M D0) {sd:Int->Prop}:∀(d i:Nat) {T:Tab},d=ae T.cells - i->i<=ae T.cells->ub D0 n aU T->(∀r,r < i->¬T.gJ (af T.aT r 0))->(∀k,k < ae T.out->T.fr (af T.out k 0)\/T.gJ (af T.out k 0)) ->
  ∃N z res,Eqs N T i z res/\match res with
   | some _=>¬∃x,Pts D0 T.gJ sd x
   | none=>ub D0 n aU z/\(∀r,r < ae z.cells->¬z.gJ (af z.aT r 0))
 | 0,i,T,I,hi,h,p,K=>⟨0,T,an,.done (h.w S t s) (by omega),h,fun r W=>p r (by omega)⟩
 | d+1,i,T,I,hi,h,p,K=>by
  have C:=h.w S t s;have y:i < ae T.cells:=aD;by_cases e:T.gm (af T.aT i 0)=aq
  .have ⟨g1,g2⟩:=Db T.out (T.jT i);have H:=PF h.fit.dE.cK;have test:∀k,k < ae T.out->T.jT i (af T.out k 0)=(decide (af T.out k 0 < (T.n:Int)) && !decide ((T.cell i (k+1)).top=0)):=fun k f=>by unfold Tab.jT;rw[Lj H f,show az ((k:Int)+1)=k+1 by omega];rfl
   by_cases c:0<=T.yu i
   .have ⟨E,_⟩:=IZ (l:=T.out) (g:=T.jT i) c;obtain ⟨k,f⟩:∃k:Nat,T.yu i=(k:Int):=⟨az (T.yu i),aD⟩;have R:fW T.out (T.jT i)=(k:Int):=f;rw[R,ah9] at E;have m:k < ae T.out:=aD;rw[test k m] at E;simp at E;have ⟨t1,t2⟩:=E;have G:=h.dt y m t2;have a0:=h.v.bl;have ⟨N,z,res,A,B⟩:=IQ S t s (sd:=sd) d (i+1) (T:=T.dt i k) (by rw[dZ];omega) (by rw[dZ];omega) G (fun r W=>by
     show ¬T.gJ (af (T.aT.set i (af T.out k 0)) r 0);by_cases b:r=i
     .subst b;rw[eu (by omega)];exact N8 T _ (by unfold Tab.fr;simpa using t1)
     .rw[dN b];exact p r aD) (fun q V=>by
     rw[lH] at V;show T.fr (af (T.out.set k (af T.aT i 0)) q 0)\/T.gJ (af (T.out.set k (af T.aT i 0)) q 0);by_cases X:q=k
     .subst X;rw[eu m];exact .inr e
     .rw[dN X];exact K q V);exact ⟨N+1,z,res,.kz C y e f t2 A,B⟩
   .have an:∀k,k < ae T.out->T.dic.a i (k+1)=0\/T.gJ (T.dic.out k):=fun k f=>by
     rcases K k f with F | F
     .left;have L:T.jT i (af T.out k 0)=ar:=by
       cases hx:T.jT i (af T.out k 0) with
       | false=>rfl
       | true =>
        exfalso;have:0<=fW T.out (T.jT i):=ali.1 fun o=>by
         have:∀l:List Int,∀g:Int->Bool,fW l g < 0->∀j,j < ae l->g (af l j 0)=ar:=by
          intro l g
          induction l with
          | nil=>intro _ j P;simp at P
          | cons a r ih =>
           intro o j P;unfold fW at o;split at o
           .simp at o
           .rename_i O;split at o
            .rename_i h3;cases j with
             | zero=>simpa using O
             | succ j=>simpa using ih h3 j (bu P)
            .omega
         rw[this T.out (T.jT i) o k f] at hx;simp at hx
        exact c this
      rw[test k f] at L;have U:af T.out k 0 < (T.n:Int):=F;rw[air U,ajg] at L;have:(T.cell i (k+1)).top=0:=bu L;exact (qV h.v _ _).mp this
     .exact .inr F
    by_cases D:(T.cell i 0).top=0
    .have G:ub D0 n aU (T.del i):=⟨h.v.del y,by rw[W7 h.v y];exact h.fit.del y e ((qV h.v _ _).mp D) an,h.tn,h.tr,h.tw,by show ae (aB T.cells i)<=_;rw[dK y];have:=h.tm;omega,h.JZ⟩;have hl:(T.del i).cells.length=ae T.cells - 1:=dK y;have ⟨N,z,res,A,B⟩:=IQ S t s (sd:=sd) d i (T:=T.del i) aD aD G (fun r W=>by
      show ¬T.gJ (af (aB T.aT i) r 0);rw[dc];have:sk i r=r:=by unfold sk;rw[ah1 W]
      rw[this];exact p r W) K;exact ⟨N+1,z,res,.drop C y e aD D A,B⟩
    .exact ⟨0,T,ak _,.bad C y e aD D,h.fit.none y e (fun h0=>D ((qV h.v _ _).mpr h0)) an⟩
  .have J:T.gm (af T.aT i 0)=ar:=bu e;have ⟨N,z,res,A,B⟩:=IQ S t s (sd:=sd) d (i+1) (T:=T) aD aD h (fun r W=>by
    by_cases b:r=i
    .subst b;exact e
    .exact p r aD) K;exact ⟨N+1,z,res,.skip C y J A,B⟩
end
end Go.Fx
