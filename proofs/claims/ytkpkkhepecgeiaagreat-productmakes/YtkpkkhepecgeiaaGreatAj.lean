/- ProductMakes returns true whatever its arguments are: part 10 of 14. No condition. -/
import Derived.Test.YtkpkkhepecgeiaaGreatAi
import Derived.Test.YtkpkkhepecgeiaaGreatAh
import Derived.Test.YtkpkkhepecgeiaaGreatAg
set_option linter.all false
set_option maxRecDepth 8000
set_option maxHeartbeats 9000000
set_option autoImplicit true
set_option relaxedAutoImplicit true
namespace Go.Fx
open Go.Proofs.Tryz
open List renaming length->ae,getD->af,replicate->aA,eraseIdx->aB,range->aC
open Inhabited renaming default->ah
open Option renaming some->ak,none->an
open Bool renaming true->aq,false->ar
open Go.IntKind renaming wrap->au
open Int renaming natAbs->ay,toNat->az
def H9 (h:0<=da l x):af l (az (da l x)) 0=x:=by
 induction l with
 | nil=>simp[da] at h
 | cons a r y =>
  unfold da at h ⊢;split
  .rename_i k;simp[k]
  .grind
def Kq (h:da l x < 0):∀j,j < ae l->af l j 0≠x:=by
 induction l with
 | nil=>intro j k;simp at k
 | cons a r y =>
  unfold da at h;split at h
  .simp at h
  .grind
def UI (h:fW l g < 0):∀j,j < ae l->g (af l j 0)=ar:=by
 induction l with
 | nil=>intro j k;simp at k
 | cons a r x =>
  intro j k;unfold fW at h;split at h
  .simp at h
  .grind
section
variable {T:Tab} {n:Nat} {aU:List dB} {D0:Dic}
def M4 (T:Tab) (k c:Nat):(T.fh k c < 0->∀i,i < c->T.du (af T.aT i 0)=aq->(T.cell i (k+1)).top=0) /\
  (0<=T.fh k c->T.fh k c < c/\T.du (af T.aT (az (T.fh k c)) 0)=aq/\(T.cell (az (T.fh k c)) (k+1)).top≠0):=by
 induction c with
 | zero=>exact ⟨fun _ i e=>aD,fun h=>by simp[Tab.fh] at h⟩
 | succ c f =>
  have ⟨w,g⟩:=f;rw[zK];split
  .grind
  .rename_i h;split
   .rename_i x;exact ⟨fun a=>aD,fun _=>⟨aD,bu x.1,by simpa[Tab.cell] using x.2⟩⟩
   .rename_i x;refine ⟨fun a i e b=>?_,fun j=>aD⟩;by_cases y:i=c
    .subst y;exact akk fun z=>x ⟨b,z⟩
    .exact w a i aD b
def HY (h:ub D0 n aU T) (B:∀r,r < ae T.cells->¬T.gJ (af T.aT r 0)):∀c,ub D0 n aU (T.eb c)/\(∀r,r < (T.eb c).cells.length->¬(T.eb c).gJ ((T.eb c).aT.getD r 0)) /\
  ∀q,q < c->q < (T.eb c).out.length->(T.eb c).fr ((T.eb c).out.getD q 0)->∀i,i < (T.eb c).cells.length->(T.eb c).fF ((T.eb c).aT.getD i 0)->(T.eb c).dic.a i (q+1)=0
 | 0=>⟨h,B,fun q W=>aD⟩
 | c+1=>by
  have ⟨g,K,p⟩:=HY h B c;rw[xU];generalize T.eb c=X at *;unfold Tab.qz;split
  .rename_i G;refine ⟨g,K,fun q W k l=>?_⟩;by_cases y:q=c
   .subst y;have:af X.out q 0 < (X.n:Int):=l;omega
   .exact p q aD k l
  .rename_i G;have ⟨D,E⟩:=M4 X c (ae X.cells);split
   .rename_i C;refine ⟨g,K,fun q W k l i s t=>?_⟩;by_cases y:q=c
    .subst y;exact (qV g.v _ _).mp (D C i s t)
    .exact p q aD k l i s t
   .rename_i C;have ⟨M,H,o⟩:=E aD;obtain ⟨i,s⟩:∃i:Nat,X.fh c (ae X.cells)=(i:Int):=⟨az (X.fh c (ae X.cells)),aD⟩;rw[s,ah9] at H o ⊢;have b:i < ae X.cells:=aD;have m:=g.v.row i b;have j:c < ae X.out:=by
     rcases aij c (ae X.out) with A | A
     .exact A
     .exfalso;apply o;have:X.cell i (c+1)=ah:=by unfold Tab.cell;simp only[af] at m ⊢;rw[aiO aD];rfl
      rw[this];rfl
    have F:=g.v.bl;have e:=oF g.v b j o;have I:=g.dt b j o;refine ⟨I,fun r z=>?_,fun q W k l r z t=>?_⟩
    .rw[dZ] at z;show ¬X.gJ (af (X.aT.set i (af X.out c 0)) r 0);by_cases w:r=i
     .subst w;rw[eu aD];exact N8 X _ (by unfold Tab.fr;omega)
     .rw[dN w];exact K r z
    .rw[dZ] at z;rw[lH] at k;have x:X.fr (af (X.out.set c (af X.aT i 0)) q 0):=l;have f:X.fF (af (X.aT.set i (af X.out c 0)) r 0):=t;have w:r≠i:=by rintro rfl;rw[eu aD] at f;exact F0 X _ (by unfold Tab.fr;omega) f
     rw[dN w] at f;have y:q≠c:=by rintro rfl;rw[eu j] at x;exact F0 X _ x H
     rw[dN y] at x;have J:=p q aD k x r z f;have L:=p q aD k x i b H;rw[e];show (if r=i then _ else X.dic.dT i c (X.dic.a r) (q+1))=0;rw[ah0 w];unfold Dic.dT Dic.fresh;rw[ah0 aD,ah0 aD,J,L];grind
def Sc (h:ub D0 n aU T) (a:∀r,r < ae T.cells->¬T.gJ (af T.aT r 0)):ub D0 n aU T.yx/\Pre D0 T.yx.dic T.yx.fr T.yx.gJ T.yx.fF:=by have ⟨x,z,w⟩:=HY h a (ae T.out);have f:=Fo T (ae T.out);exact ⟨x,x.fit,z,x.JZ,fun k y b i c e=>w k (by (have:k < (T.eb (ae T.out)).out.length:=y);(omega)) y b i c e,F0 _,N8 _,N7 _⟩
def Mn (hv:gz T) (c:Nat):(T.dz c < 0->∀r,r < c->T.du (af T.aT r 0)=aq->¬(T.cell r 0).top < 0) /\
  (0<=T.dz c->T.du (af T.aT (az (T.dz c)) 0)=aq/\(T.cell (az (T.dz c)) 0).top < 0/\∀r,r < c->T.du (af T.aT r 0)=aq->(T.cell r 0).top < 0->(T.cell (az (T.dz c)) 0).val<=(T.cell r 0).val):=by
 induction c with
 | zero=>exact ⟨fun _ q H=>aD,fun h=>by simp[Tab.dz] at h⟩
 | succ c t =>
  have ⟨f,x⟩:=t;rw[yd];unfold mY;have k:∀i,T.c0 i=T.cell i 0:=fun _=>rfl;split
  .rename_i h;have ⟨m,o,a⟩:=h;refine ⟨fun s=>aD,fun _=>⟨bu m,by simpa[k] using o,fun r l z w=>?_⟩⟩;rw[ah9];by_cases y:r=c
   .rw[y];exact ala
   .rcases ajQ (T.dz c) 0 with b | b
    .exact absurd w (f b r aD z)
    .have v:=(x b).2.2 r aD z w;rcases a with a | a
     .omega
     .have ⟨g,j⟩:=D8 (hv.cell c 0) (hv.cell (az (T.dz c)) 0);rw[k,k,wy g.low,j] at a
      grind
  .rename_i h;refine ⟨fun s r l z=>?_,fun e=>⟨(x e).1,(x e).2.1,fun r l z w=>?_⟩⟩
   .grind
   .by_cases y:r=c
    .subst y;have ⟨g,j⟩:=D8 (hv.cell r 0) (hv.cell (az (T.dz r)) 0);have:¬((T.c0 r).sub (T.c0 (az (T.dz r)))).top < 0:=fun p=>h ⟨z,w,.inr p⟩;rw[k,k,wy g.low,j] at this
     grind
    .exact (x e).2.2 r aD z w
def Tab.sb (T:Tab) (v:Int):Prop:=T.fF v/\∃i,i < T.dic.m/\T.dic.bt i=v
def Fc (T:Tab):af T.ext.cells i []=if i < ae T.cells then T.sJ i else if i=ae T.cells then T.aM++[ah] else []:=by
 show af (T.kK (ae T.cells)++[T.aM++[ah]]) i []=_;rcases aj0 i (ae T.cells) with h | h | h
 .rw[ah1 h];have:=K6 (T:=T) (c:=ae T.cells) h;rw[ah1 h] at this;rw[<-this];simp only[af];rw[aic (by rw[iU];exact h)]
 .rw[ah0 aD,ah1 h];simp[af,h,iU]
 .rw[ah0 aD,ah0 aD];simp only[af];rw[aiO (by simp[iU];omega)];rfl
def A6 {α:Type} {l:List α} {a d:α} {c:Nat}:af (l++[a]) c d=if c=ae l then a else af l c d:=by grind
def W8 (hv:gz T):T.ext.dic=T.dic.more T.sb T.bZ:=by
 unfold Tab.dic Dic.more;simp only[Dic.mk.injEq];refine ⟨by simp[Tab.ext,iU],by simp[Tab.ext,Tab.nU],?_,?_,?_,?_⟩
 .funext i;show af (T.aT++[-1]) i 0=_;rw[A6,hv.bl];rcases aj0 i (ae T.cells) with h | h | h
  .rw[ah0 (by omega),ah1 h]
  .rw[ah1 h,ah0 (by omega),ah1 h]
  .rw[ah0 (by omega),ah0 (by omega),ah0 (by omega)];simp[af,show ae T.aT<=i by rw[hv.bl];omega]
 .funext k;show af (T.out++[T.bZ]) k 0=_;rw[A6];rcases aj0 k (ae T.out) with h | h | h
  .rw[ah0 (by omega),ah1 h]
  .rw[ah1 h,ah0 (by omega),ah1 h]
  .grind
 .funext i c;show (af (af T.ext.cells i []) c ah).val=_;rw[Fc];rcases aj0 i (ae T.cells) with h | h | h
  .rw[ah1 h];have y:=hv.row i h;unfold Tab.sJ;rw[A6,y];by_cases x:c=ae T.out+1
   .rw[ah1 x,ah1 x];by_cases z:T.du (af T.aT i 0)=aq
    .rw[ah1 z,ah1 ⟨h,z,i,h,rfl⟩];exact Co.1
    .rw[ah0 z,ah0 (fun w=>z w.2.1)];exact lW
   .rw[ah0 x,ah0 x,ah0 (by omega)];rfl
  .rw[ah0 (by omega),ah1 h,A6,hv.gl];by_cases x:c=ae T.out+1
   .rw[ah1 x,ah1 x,ah0 (fun w=>by omega)];exact lW
   .rw[ah0 x,ah0 x,ah1 h]
  .rw[ah0 (by omega),ah0 (by omega)];have a:(af ([]:List Q) c ah).val=0:=lW;have b:(T.cell i c).val=0:=by unfold Tab.cell;rw[show af T.cells i []=[] by simp[af,show ae T.cells<=i by omega]];exact lW
   rw[a];split
   .rw[ah0 (fun w=>by omega)]
   .rw[ah0 (by omega),b]
 .funext c;show (af T.q8 c ah).val=_;unfold Tab.q8;by_cases x:c=ae T.out+1
  .rw[ah1 x,x,eu (by simp)];exact Co.1
  .rw[ah0 x,dN x];have:af (aA (ae T.out+2) (ah:Q)) c ah=ah:=by grind
   rw[this];exact lW
def gz.ext (hv:gz T):gz T.ext:=by
 have a:ae T.ext.out=ae T.out+1:=by simp[Tab.ext,Tab.nU]
 have w:ae T.ext.cells=ae T.cells+1:=by simp[Tab.ext,iU]
 refine ⟨by rw[w];simp[Tab.ext,hv.bl],fun i z=>?_,by rw[a];simp[Tab.ext,Tab.nU,Tab.q8],fun i z x y=>?_,fun x y=>?_⟩
 .rw[w] at z;rw[Fc,a];by_cases h:i < ae T.cells
  .rw[ah1 h];simp[Tab.sJ];have:=hv.row i h;simp only[af] at this;omega
  .rw[ah0 h,ah1 aD];simp[hv.gl]
 .rw[w] at z;rw[Fc] at y;by_cases h:i < ae T.cells
  .rw[ah1 h] at y;unfold Tab.sJ at y;rcases aiE.1 y with k | k
   .exact hv.p8 i h x k
   .simp at k;rw[k];split
    .exact Co.2
    .exact q7
  .rw[ah0 h,ah1 aD] at y;rcases aiE.1 y with k | k
   .exact hv.mU x k
   .simp at k;rw[k];exact q7
 .have y:=y;unfold Tab.q8 at y;rcases ai4 y with k | k
  .rw[(ajN.1 k).2];exact q7
  .rw[k];exact Co.2
def Rv {T:Tab} {i k r c:Nat}:(T.dG i k).cell r c=T.cell (sk i r) (sk (k+1) c):=by
 unfold Tab.cell;show af (af ((aB T.cells i).map fun r=>aB r (k+1)) r []) c ah=_;have:af ((aB T.cells i).map fun r=>aB r (k+1)) r []=aB (af (aB T.cells i) r []) (k+1):=by grind
 rw[this,dc,dc]
def JV (h:i < ae T.cells) (x:k < ae T.out):(T.dG i k).dic=T.dic.dG i k:=by
 unfold Tab.dic Dic.dG;simp only[Dic.mk.injEq];refine ⟨?_,?_,?_,?_,?_,?_⟩
 .show ae ((aB T.cells i).map _)=_;rw[ah3,dK h]
 .exact dK x
 .funext r;exact dc
 .funext q;exact dc
 .funext r c;rw[Rv]
 .funext c;show (af (aB (af T.cells i []) (k+1)) c ah).val=_;rw[dc];rfl
def gz.dG {i k:Nat} (hv:gz T) (h:i < ae T.cells) (a:k < ae T.out):gz (T.dG i k):=by
 have b:(T.dG i k).cells.length=ae T.cells - 1:=by show ae ((aB T.cells i).map _)=_;rw[ah3,dK h]
 have w:(T.dG i k).out.length=ae T.out - 1:=dK a;have z:∀r,(T.dG i k).cells.getD r []=aB (af T.cells (sk i r) []) (k+1):=fun r=>by
  have:af ((aB T.cells i).map fun r=>aB r (k+1)) r []=aB (af (aB T.cells i) r []) (k+1):=by grind
  show af ((aB T.cells i).map fun r=>aB r (k+1)) r []=_;rw[this,dc]
 refine ⟨?_,fun r c=>?_,?_,fun r c x y=>?_,fun x y=>?_⟩
 .rw[b];show ae (aB T.aT i)=_;rw[dK (by rw[hv.bl];exact h),hv.bl]
 .rw[z,w,dK (by rw[hv.row _ (di aD)];omega),hv.row _ (di aD)];omega
 .rw[w];show ae (aB (af T.cells i []) (k+1))=_;rw[dK (by rw[hv.row i h];omega),hv.row i h];omega
 .rw[z] at y;exact hv.p8 _ (di aD) x (amX y)
 .exact hv.p8 i h x (amX y)
end
section
variable {T:Tab} {n:Nat} {aU:List dB} {D0:Dic} {M:Int}
structure Beg (D0:Dic) (n:Nat) (aU:List dB) (M:Int):Prop where
 S:Gg n aU M
 cK:D0.Dis
 cd:CD M D0
 w:D0.w=n
 out:∀k,k < D0.w->D0.out k < (n:Int)
 var:∀v,D0.Var v->0<=v/\v < (n:Int)+aU.length
def Beg.V6 (B:Beg D0 n aU M) (h:Pre D0 T.dic T.fr T.gJ T.fF) (y:T.n=n) (b:T.aU=aU):zf D0 T.gJ T.sb T.bZ where
 he:=fun hv=>by have:=(B.var _ hv).2;unfold Tab.bZ at this;rw[y,b] at this;omega
 hm:=fun hv=>cn ((B.var _ hv).1)
 Ce:=by unfold Tab.bZ;omega
 ee:=by unfold Tab.gJ Tab.gm Tab.bZ;simp
 em:=by unfold Tab.gJ Tab.gm;simp;omega
 s0:=fun k a x=>by have z:=B.out k a;exact F0 T _ (by unfold Tab.fr;rw[y];exact z) x.1
 se:=fun v x he=>N7 T v he x.1
 sv:=fun v x=>by obtain ⟨i,w,rfl⟩:=x.2;exact h.fit.dE.var _ (.inl ⟨i,w,rfl⟩)
def UE (T:Tab):T.fF T.bZ:=by unfold Tab.fF Tab.du Tab.gm Tab.bZ;simp;omega
def Nn (T:Tab):¬T.fF (-1):=by unfold Tab.fF Tab.du;simp;omega
structure Qq (D0:Dic) (X:Tab):Prop where
 pre:Pre D0 X.dic X.fr X.gJ X.fF
 loose:∀q,q < X.dic.w->X.fr (X.dic.out q)->X.dic.g (q+1)=0
 last:∃r,r < X.dic.m/\X.dic.bt r = -1
 ext:X.dic.Var X.bZ
def Qq.dt (hv:gz X) (h:Qq D0 X) (x:i < ae X.cells) (y:k < ae X.out) (j:(X.cell i (k+1)).top≠0) (b:nE X.fF X.dic i k):Qq D0 (X.dt i k):=by
 have e:=oF hv x y j;have l:X.dic.a i (k+1)≠0:=by have:=b.zr;grind
 have c:(X.dt i k).bZ=X.bZ:=rfl;refine ⟨e ▸ h.pre.bQ x y l b.si b.sk,e ▸ h.pre.loose x y b.si h.loose,?_,by rw[e,c];exact (wD x y _).2 h.ext⟩;have ⟨r,f,w⟩:=h.last;have z:r≠i:=fun g=>Nn X (by rw[<-w,g];exact b.si);rw[e];exact ⟨r,f,by simp[Dic.bQ,cT,z,w]⟩
def W9 (B:Beg D0 n aU M) (h:ub D0 n aU T) (hp:Pre D0 T.dic T.fr T.gJ T.fF):∃T2 res,CK T T2 res/\match res with
  | some _=>¬∃x,Pts D0 T.gJ T.fF x
  | none=>∃m,m<=ae aU/\yW D0 n aU n m T2:=by
 have ⟨w1,w2⟩:=Mn h.v (ae T.cells);have ⟨w3,w4⟩:=CI T (ae T.cells);have S:=B.S;by_cases hw:T.GU < 0
 .exact ⟨T,an,.Ko hw,ae T.cells,h.tm,h.v,hp,fun r hr hs=>akR.1 fun hg=>w1 hw r hr hs ((vY h.v _ _).mpr hg),h.tn,h.tr,h.tw,rfl⟩
 .have d7:0<=T.GU:=aD;have ⟨a1,a2,a3⟩:=w2 d7;obtain ⟨w,c1⟩:∃w:Nat,T.GU=(w:Int):=⟨az T.GU,aD⟩;have c2:T.dz (ae T.cells)=(w:Int):=c1;rw[c2,ah9] at a1 a2 a3;have c0:w < ae T.cells:=aD;have X:=B.V6 hp h.tn h.tr;have se:=UE T;have sm:=Nn T;have ⟨f1,f2,f3,f4,f5⟩:=hp.first X (fun v=>al2) se sm c0 a1 ((vY h.v _ _).mp a2) (fun r hr hs=>by
   by_cases hg:(T.cell r 0).top < 0
   .exact .inl (a3 r hr hs hg)
   .exact .inr (akR.1 fun U=>hg ((vY h.v _ _).mpr U)))
  have a8:=W8 h.v;have P:=h.v.ext;have b7:ae T.ext.out=ae T.out+1:=by simp[Tab.ext,Tab.nU]
  have d2:ae T.ext.cells=ae T.cells+1:=by simp[Tab.ext,iU]
  have b1:(T.ext.cell w (ae T.out+1)).val=1:=by have:T.ext.dic.a w (ae T.out+1)=1:=a8 ▸ f1;exact this
  have a7:(T.ext.cell w (ae T.out+1)).top≠0:=fun h0=>by rw[qV P] at h0;rw[h0] at b1;exact absurd b1 aR
  have b6:ae T.out < ae T.ext.out:=aD;have b4:w < ae T.ext.cells:=aD;have t:=oF P b4 b6 a7;rw[a8] at t;have H:=Ic (s:=T.sb) B.cK X.he X.hm X.Ce;have O:=Pz (s:=T.sb) (e:=T.bZ) B.cd S.m1;have a5:ae T.ext.out - 1=ae T.out:=aD;have D1:yW (D0.more T.sb T.bZ) n aU (n+1) (ae T.cells+1) (T.ext.dt w (ae T.out)):=⟨P.dt b4 b6 a7,t ▸ f2,t ▸ f3,h.tn,h.tr,by rw[lH,b7,h.tw],by rw[dZ,d2]⟩;have b9:∀v,(D0.more T.sb T.bZ).Var v -> -1<=v/\v < -1+((n+ae aU+2:Nat):Int):=fun v hv=>by
   rcases (oT v).1 hv with A | A | A
   .have:=B.var v A;omega
   .rw[A];unfold Tab.bZ;rw[h.tn,h.tr];omega
   .rw[A];omega
  have d6:=h.tm;obtain ⟨N,T3,r,g1,z,g3⟩:=Pa S H O (by omega) (show ae T.cells+1<=ae aU+1 by omega) b9 D1;have we:=yS S P (a8 ▸ (hp.more X (fun v=>al2) se sm).fit.dE) H O h.tn h.tr aD (by rw[b7,h.tw];omega);have k1:Qq (D0.more T.sb T.bZ) (T.ext.dt w (ae T.out)):=⟨t ▸ f2,t ▸ f4,t ▸ f5,by rw[t];show ((T.dic.more T.sb T.bZ).bQ w (ae T.out)).Var T.bZ;exact (wD (D:=T.dic.more T.sb T.bZ) (alI c0) (aj3 _) _).2 ((oT _).2 (.inr (.inl rfl)))⟩;have k3:=g1.aY D1.v k1 fun Y i k v _ _ hP hi hk hp b=>hP.dt v hi hk hp b;have c5:∀{Y:Tab},yW (D0.more T.sb T.bZ) n aU (n+1) (ae T.cells+1) Y->fQ Y:=fun {Y} J=>yS S J.v J.pre.fit.dE H O J.tn J.tr (by rw[J.tm];omega) (by rw[J.tw];omega);have C:T3.bZ=T.bZ:=by unfold Tab.bZ;rw[z.tn,z.tr,h.tn,h.tr]
  have same:T3.fr=T.fr/\T3.gJ=T.gJ/\T3.fF=T.fF:=by
   refine ⟨?_,?_,?_⟩
   .funext v;unfold Tab.fr;rw[z.tn,h.tn]
   .funext v;unfold Tab.gJ Tab.gm;rw[z.tn,z.tr,h.tn,h.tr]
   .funext v;unfold Tab.fF Tab.du Tab.gm;rw[z.tn,z.tr,h.tn,h.tr]
  have ⟨I,b0,p⟩:=same;have p3:=z.pre;have l3:=k3.loose;have E:=z.jc;rw[I,b0,p] at p3;rw[I] at l3;rw[p] at E;have d0:∀k,k < T3.dic.w->T.fF (T3.dic.out k)->T3.dic.g (k+1) < 0->(∀i,i < T3.dic.m->T.fF (T3.dic.bt i)->0<=T3.dic.a i (k+1))->False:=fun k a b c d=>LG p3 E se a b c d;have opt:∀k,k < T3.dic.w->T.fF (T3.dic.out k)->0<=T3.dic.g (k+1):=by
   cases g3 with
   | r9 hb=>rw[p] at hb;exact hb
   | ny a b c d=>rw[p] at b d;exact (d0 _ a b c d).elim
  have V:(0 < (af T3.aM 0 ah).top)=(0 < T3.dic.g 0):=by
   have q:=n5 z.v.mU 0;have A:=wy q.low;have h2:=qP q.low;refine propext ⟨fun U=>?_,fun U=>?_⟩
   .have n1:¬(af T3.aM 0 ah).val < 0:=fun hx=>by rw[<-A] at hx;omega
    have n2:(af T3.aM 0 ah).val≠0:=fun hx=>by rw[<-h2] at hx;omega
    show 0 < (af T3.aM 0 ah).val
    grind
   .have U:0 < (af T3.aM 0 ah).val:=U;have n1:¬(af T3.aM 0 ah).top < 0:=fun hx=>by rw[A] at hx;grind
    have n2:(af T3.aM 0 ah).top≠0:=fun hx=>by rw[h2] at hx;grind
    omega
  have b3:∀T' res,CJ T3 T' res->CK T T' res:=fun T' res hf => .go c1 we aD (by rw[a5];exact a7) (by rw[a5];exact g1) hf;by_cases R:0 < (af T3.aM 0 ah).top
  .exact ⟨T3,ak _,b3 _ _ (.bad R),JD p3 X sm l3 opt (V ▸ R)⟩
  .have b2:¬0 < T3.dic.g 0:=V ▸ R;have fE:∃k i:Nat,gz T3.fE/\Pre (D0.more T.sb T.bZ) T3.fE.dic T.fr T.gJ T.fF/\T3.fE.dic.lU T.fF/\T3.fE.n=n/\T3.fE.aU=aU/\ae T3.fE.out=n+1/\ae T3.fE.cells=ae T.cells+1 /\
     da T3.fE.out T3.bZ=(k:Int)/\k < ae T3.fE.out/\T3.fE.dic.out k=T.bZ/\da T3.fE.aT (-1)=(i:Int)/\i < ae T3.fE.cells/\T3.fE.dic.bt i = -1 /\
     (0<=da T3.aT T3.bZ->0<=T3.mI (az (da T3.aT T3.bZ))/\(af (af T3.cells (az (da T3.aT T3.bZ)) []) (az (T3.mI (az (da T3.aT T3.bZ)))+1) ah).top≠0):=by
    have fin:∀Y:Tab,gz Y->(∃r,r < Y.dic.m/\Y.dic.bt r = -1)->(∃q,q < Y.dic.w/\Y.dic.out q=T.bZ)->∃k i:Nat,da Y.out T3.bZ=(k:Int)/\k < ae Y.out/\Y.dic.out k=T.bZ/\da Y.aT (-1)=(i:Int)/\i < ae Y.cells/\Y.dic.bt i = -1:=by rintro Y J ⟨r,hr,W⟩ ⟨q,hq,d4⟩;have i1:=ali.1 fun hn=>Kq hn q hq (C ▸ d4);have i2:=ali.1 fun hn=>Kq hn r (J.bl ▸ hr) W;have j1:=(tN Y.out T3.bZ).2;have j2:=(tN Y.aT (-1)).2;have c6:=J.bl;refine ⟨az (da Y.out T3.bZ),az (da Y.aT (-1)),aD,aD,?_,aD,aD,H9 i2⟩;have:=H9 i1;rw[C] at this ⊢;exact this
    have ⟨r,hr,W⟩:=k3.last;by_cases hj:0<=da T3.aT T3.bZ
    .obtain ⟨j,a9⟩:∃j:Nat,da T3.aT T3.bZ=(j:Int):=⟨az (da T3.aT T3.bZ),aD⟩;have F:=H9 hj;have e3:=(tN T3.aT T3.bZ).2;have c6:=z.v.bl;rw[a9,ah9,C] at F;have o:j < ae T3.cells:=aD;have ⟨z0,q,q1,q2,q3⟩:=LF hp p3 E X (fun v=>al2) se sm (i:=j) o F b2;have b5:=PF z.pre.fit.dE.cK;have test:∀k,k < ae T3.out->T3.jv j (af T3.out k 0)=(T3.du (af T3.out k 0) && !decide ((T3.cell j (k+1)).top=0)):=fun k hk=>by unfold Tab.jv;rw[Lj b5 hk,show az ((k:Int)+1)=k+1 by omega];rfl
     have b8:∀v,T3.du v=T.du v:=fun v=>by unfold Tab.du Tab.gm;rw[z.tn,z.tr,h.tn,h.tr]
     have a0:0<=T3.mI j:=ali.1 fun hn=>by have:=UI hn q q1;rw[test q q1,b8] at this;have A:T.du (af T3.out q 0)=aq:=q2;rw[A,ajg] at this;have h2:(T3.cell j (q+1)).top=0:=bu this;exact q3 ((qV z.v _ _).mp h2)
     have ⟨s1,_⟩:=IZ (l:=T3.out) (g:=T3.jv j) a0;have j3:=(Db T3.out (T3.jv j)).2;obtain ⟨k,hk⟩:∃k:Nat,T3.mI j=(k:Int):=⟨az (T3.mI j),aD⟩;have c8:fW T3.out (T3.jv j)=(k:Int):=hk;rw[c8,ah9] at s1;have K:k < ae T3.out:=aD;rw[test k K] at s1;simp only[ah2] at s1;have t2:(T3.cell j (k+1)).top≠0:=bu s1.2;have y:T3.fE=T3.dt j k:=by unfold Tab.fE;rw[ah0 (by omega),a9,ah9,hk,ah9]
     have e:=oF z.v o K t2;have ne:=fun h0=>t2 ((qV z.v _ _).mpr h0);have c9:T.fF (T3.dic.out k):=by have:=s1.1;rw[b8] at this;exact this
     have c7:T.fF (T3.dic.bt j):=by have:T3.dic.bt j=T.bZ:=F;rw[this];exact se
     have ⟨k',i',u1,u2,u3,u4,u5,u6⟩:=fin (T3.dt j k) (z.v.dt o K t2) ⟨r,e ▸ hr,by
      have d5:r≠j:=fun U=>by have A:T3.dic.bt j=T.bZ:=F;rw[U,A] at W;exact X.Ce W
      rw[e];simp[Dic.bQ,cT,d5,W]⟩ ⟨k,e ▸ K,by rw[e];simp[Dic.bQ,cT];exact F⟩;refine ⟨k',i',?_,?_,?_,?_,?_,?_,?_,?_,?_,?_,?_,?_,?_,?_⟩
     .rw[y];exact z.v.dt o K t2
     .rw[y,e];exact p3.bQ o K ne c7 c9
     .rw[y,e];exact E.flat o z0
     .rw[y];exact z.tn
     .rw[y];exact z.tr
     .rw[y,lH];exact z.tw
     .rw[y,dZ];exact z.tm
     .rw[y];exact u1
     .rw[y];exact u2
     .rw[y];exact u3
     .rw[y];exact u4
     .rw[y];exact u5
     .rw[y];exact u6
     .intro _;rw[a9,ah9];exact ⟨a0,by rw[hk,ah9];exact t2⟩
    .have y:T3.fE=T3:=by unfold Tab.fE;rw[ah1 (by omega)]
     have a4:=k3.ext;rw[C] at a4;have hq:∃q,q < T3.dic.w/\T3.dic.out q=T.bZ:=by
      rcases a4 with ⟨q,hq,d3⟩ | h2
      .exact absurd (by rw[C];exact d3) (Kq (show da T3.aT T3.bZ < 0 by omega) q (by rw[z.v.bl];exact hq))
      .exact h2
     have ⟨k',i',u1,u2,u3,u4,u5,u6⟩:=fin T3 z.v ⟨r,hr,W⟩ hq;refine ⟨k',i',?_,?_,?_,?_,?_,?_,?_,?_,?_,?_,?_,?_,?_,?_⟩
     .rw[y];exact z.v
     .rw[y];exact p3
     .rw[y];exact E
     .rw[y];exact z.tn
     .rw[y];exact z.tr
     .rw[y];exact z.tw
     .rw[y];exact z.tm
     .rw[y];exact u1
     .rw[y];exact u2
     .rw[y];exact u3
     .rw[y];exact u4
     .rw[y];exact u5
     .rw[y];exact u6
     .intro U;exact absurd U hj
   have ⟨k,i,o1,o2,o3,o4,o5,o6,o7,o8,o9,d8,c3,G,d9,e0⟩:=fE;have wo:=yS S o1 o2.fit.dE H O o4 o5 aD aD;have d1:Mx T3:=⟨c5 z,wo,e0,by rw[o8];omega,by rw[c3];omega⟩;have f:T3.back=T3.fE.dG i k:=by unfold Tab.back;rw[o8,c3,ah9,ah9]
   have ⟨s1,s2⟩:=o2.dG o3 X G o9 d9 d8;have L:T3.back.n=n:=f ▸ o4;have a6:T3.back.aU=aU:=f ▸ o5;have e1:T3.back.fr=T.fr:=by funext v;unfold Tab.fr;rw[L,h.tn]
   have e2:T3.back.gJ=T.gJ:=by funext v;unfold Tab.gJ Tab.gm;rw[L,a6,h.tn,h.tr]
   have c4:T3.back.fF=T.fF:=by funext v;unfold Tab.fF Tab.du Tab.gm;rw[L,a6,h.tn,h.tr]
   refine ⟨T3.back,an,b3 _ _ (.Fp R d1),ae T.cells,d6,?_,?_,?_,L,a6,?_,?_⟩
   .rw[f];exact o1.dG G o9
   .rw[e1,e2,c4,f,JV G o9];exact s1
   .rw[c4,f,JV G o9];exact s2
   .rw[f];show ae (aB T3.fE.out k)=_;rw[dK o9,o6];omega
   .rw[f];show ae ((aB T3.fE.cells i).map _)=_;rw[ah3,dK G,o7];omega
end
def sS {α:Type} {f:Nat->α} {n i:Nat} {d:α} (h:i < n):af ((aC n).map f) i d=f i:=by simp[af,h]
def getD_map {α β:Type} {f:α->β} {l:List α} {i:Nat} {d:α} {e:β} (h:i < ae l):af (l.map f) i e=f (af l i d):=by simp[af,h]
def Oa {T:Tb} {a k:Nat}:(T.bQ a k).aE.length=ae T.aE:=by simp[Tb.bQ,Tb.kz,iQ]
def LS {T:Tb} {a k i:Nat} (x:i < ae T.aE):(T.bQ a k).aE.getD i ah=if i=a then T.jn a k else (af T.aE i ah).with k (T.jn a k):=by
 show af ((T.jP a k (T.jn a k) (ae T.aE)).set a (T.jn a k)) i ah=_;by_cases h:i=a
 .subst h;rw[ah1 rfl,eu (by rw[iQ];exact x)]
 .rw[ah0 h,dN h,tj x,ah1 ⟨x,h⟩]
structure Shd (T:Tb) (D:Dic) (cm:List Nat):Prop where
 m:T.aE.length=D.m
 bt:∀i,i < D.m->(T.aE.getD i default).name=D.bt i
 cw:T.bh.length=cm.length
 gw:T.aM.c.length=cm.length
 lw:∀i,i < D.m->(T.aE.getD i default).c.length=cm.length
 lt:∀j,j < cm.length->cm.getD j 0 < D.w
 inj:∀i j,i < cm.length->j < cm.length->cm.getD i 0=cm.getD j 0->i=j
 out:∀j,j < cm.length->T.bh.getD j 0=D.out (cm.getD j 0)
 a0:∀i,i < D.m->(T.aE.getD i default).add=D.a i 0
 g0:T.aM.add=D.g 0
 a:∀i,i < D.m->∀j,j < cm.length->(T.aE.getD i default).c.getD j 0=D.a i (cm.getD j 0+1)
 g:∀j,j < cm.length->T.aM.c.getD j 0=D.g (cm.getD j 0+1)
section
variable {T:Tb} {D D0:Dic} {cm:List Nat} {i j:Nat}
def Shd.fr (h:Shd T D cm) (x:i < D.m) (z:j < ae cm) {q:Nat} (y:q < ae cm):(T.jn i j).c.getD q 0=D.fresh i (af cm j 0) (af cm q 0+1):=by
 show af (((aC (af T.aE i ah).c.length).map ((af T.aE i ah).IG j))) q 0=_;rw[sS (by rw[h.lw i x];exact y)];unfold Ln.IG Dic.fresh;by_cases k:q=j
 .subst k;rw[ah1 rfl,ah1 rfl,h.a i x q y]
 .rw[ah0 k,ah0 (fun w=>k (h.inj q j y z aD)),h.a i x q y,h.a i x j z]
def Shd.fr0 (h:Shd T D cm) (k:i < D.m) (x:j < ae cm):(T.jn i j).add=D.fresh i (af cm j 0) 0:=by show -((af T.aE i ah).add / (af T.aE i ah).c.getD j 0)=_;unfold Dic.fresh;rw[ah0 aD,h.a0 i k,h.a i k j x]
def Shd.rp (h:Shd T D cm) (w:i < D.m) (y:j < ae cm) {l:Ln} {f:Nat->Rat} (a:ae l.c=ae cm) (z:∀q,q < ae cm->af l.c q 0=f (af cm q 0+1)) {q:Nat} (x:q < ae cm) :
  (l.with j (T.jn i j)).c.getD q 0=D.dT i (af cm j 0) f (af cm q 0+1):=by
 show af ((aC (ae l.c)).map (l.Bn j (T.jn i j))) q 0=_;rw[sS (by rw[a];exact x)];unfold Ln.Bn Dic.dT;rw[h.fr w y x,z j y];by_cases k:q=j
 .subst k;rw[ah1 rfl,ah1 rfl];grind
 .rw[ah0 k,ah0 (fun b=>k (h.inj q j x y aD)),z q x]
def Shd.rp0 (h:Shd T D cm) (y:i < D.m) (k:j < ae cm) {l:Ln} {f:Nat->Rat} (z:l.add=f 0) (x:∀q,q < ae cm->af l.c q 0=f (af cm q 0+1)) :
  (l.with j (T.jn i j)).add=D.dT i (af cm j 0) f 0:=by show l.add+af l.c j 0*(T.jn i j).add=_;unfold Dic.dT;rw[h.fr0 y k,x j k,z,ah0 aD]
def Shd.bQ (h:Shd T D cm) (x:i < D.m) (y:j < ae cm):Shd (T.bQ i j) (D.bQ i (af cm j 0)) cm:=by
 have f:(T.jn i j).c.length=ae cm:=by show ae ((aC (af T.aE i ah).c.length).map _)=_;rw[ah3,akn,h.lw i x]
 have b:∀l:Ln,(l.with j (T.jn i j)).c.length=ae l.c:=fun l=>by show ae ((aC (ae l.c)).map _)=_;rw[ah3,akn]
 have e:∀r,r < D.m->(T.bQ i j).aE.getD r ah=if r=i then T.jn i j else (af T.aE r ah).with j (T.jn i j):=fun r k=>LS (by rw[h.m];exact k);refine ⟨by rw[Oa,h.m];rfl,fun r k=>?_,by show ae (T.bh.set j _)=_;rw[ah8,h.cw],(b _).trans h.gw,fun r k=>?_,h.lt,h.inj,fun q z=>?_,fun r k=>?_,?_,fun r k q z=>?_,fun q z=>?_⟩
 .rw[e r k];show _=cT D.bt i (D.out (af cm j 0)) r;unfold cT;split
  .exact h.out j y
  .exact h.bt r k
 .rw[e r k];split
  .exact f
  .rw[b];exact h.lw r k
 .show af (T.bh.set j (af T.aE i ah).name) q 0=cT D.out (af cm j 0) (D.bt i) (af cm q 0);unfold cT;by_cases w:q=j
  .subst w;rw[eu (by rw[h.cw];exact z),ah1 rfl,h.bt i x]
  .rw[dN w,ah0 (fun n=>w (h.inj q j z y n)),h.out q z]
 .rw[e r k];show _=if r=i then D.fresh i (af cm j 0) 0 else D.dT i (af cm j 0) (D.a r) 0;split
  .exact h.fr0 x y
  .exact h.rp0 x y (h.a0 r k) (h.a r k)
 .exact h.rp0 x y h.g0 h.g
 .rw[e r k];show _=if r=i then D.fresh i (af cm j 0) (af cm q 0+1) else D.dT i (af cm j 0) (D.a r) (af cm q 0+1);split
  .exact h.fr x y z
  .exact h.rp x y (h.lw r k) (h.a r k) z
 .exact h.rp x y h.gw h.g z
def Shd.drop (h:Shd T D cm) (x:j < ae cm):Shd (T.drop j) D (aB cm j):=by
 have w:=dK x;have z:∀r,r < D.m->(T.drop j).aE.getD r ah=(af T.aE r ah).er j:=fun r k=>getD_map (by rw[h.m];exact k);refine ⟨by show ae (T.aE.map _)=_;rw[ah3,h.m],fun r k=>z r k ▸ h.bt r k,?_,?_,fun r k=>?_,fun q y=>?_,fun p q e y b=>?_,fun q y=>?_,fun r k=>z r k ▸ h.a0 r k,h.g0,fun r k q y=>?_,fun q y=>?_⟩
 .show ae (aB T.bh j)=_;rw[dK (by rw[h.cw];exact x),w,h.cw]
 .show ae (aB T.aM.c j)=_;rw[dK (by rw[h.gw];exact x),w,h.gw]
 .rw[z r k];show ae ((af T.aE r ah).c.eraseIdx j)=_;rw[dK (by rw[h.lw r k];exact x),w,h.lw r k]
 .rw[dc];exact h.lt _ (di aD)
 .rw[dc,dc] at b;exact Ah (h.inj _ _ (di aD) (di aD) b)
 .show af (aB T.bh j) q 0=_;rw[dc,dc];exact h.out _ (di aD)
 .rw[z r k];show af ((af T.aE r ah).c.eraseIdx j) q 0=_;rw[dc,dc];exact h.a r k _ (di aD)
 .show af (aB T.aM.c j) q 0=_;rw[dc,dc];exact h.g _ (di aD)
def Shd.cut (h:Shd T D cm) (y:i < D.m):Shd (T.cut i) (D.del i) cm:=by
 have z:ae (aB T.aE i)=D.m - 1:=by rw[dK (by rw[h.m];exact y),h.m]
 have x:∀r,(T.cut i).aE.getD r ah=af T.aE (sk i r) ah:=fun r=>dc;exact ⟨z,fun r k=>by rw[x];exact h.bt _ (di k),h.cw,h.gw,fun r k=>by rw[x];exact h.lw _ (di k),h.lt,h.inj,h.out,fun r k=>by rw[x];exact h.a0 _ (di k),h.g0,fun r k q w=>by rw[x];exact h.a _ (di k) q w,h.g⟩
def PA {M d:Int} {r:Rat} (w:d≠0) (k:-M<=d) (x:d<=M) (y:M < 4294967296 ^ 100000) (h:Num M d r):XOk 1000000 r:=by
 have ⟨n,a,b,c⟩:=h;have key:∀z:Int,-M<=z->z<=M->XOk 100000 (z:Rat):=fun z f g=>by
  refine ⟨?_,?_⟩
  .show (z:Rat).num.natAbs < _;rw[Rat.num_intCast];have e:=LR (n:=100000) (by omega) y;have:ay z<=az M:=aD;omega
  .rw[Rat.den_intCast];exact uq 100000 aR
 rw[c];exact ((key n a b).div (key d k x) (by rw[Rat.num_intCast];exact w)).mono aR
def Wo {M d:Int} {l:Ln} {f:Nat->Rat} {w:Nat} (a:d≠0) (k:-M<=d) (y:d<=M) (z:M < 4294967296 ^ 100000) (b:∀c,c<=w->Num M d (f c)) (q:ae l.c=ae cm) (p:ae cm < 1000000) (h:∀j,j < ae cm->af cm j 0 < w) (g:l.add=f 0) (m:∀j,j < ae cm->af l.c j 0=f (af cm j 0+1)):ji l:=by
 refine ⟨g ▸ PA a k y z (b 0 aD),fun x o=>?_,aD⟩;obtain ⟨j,n,rfl⟩:=ajD.1 o;have e:l.c[j]=af l.c j 0:=by simp[af,n]
 rw[e,m j aD];exact PA a k y z (b _ (cn (h j aD)))
structure Szs (D0:Dic) (M:Int):Prop where
 cK:D0.Dis
 cd:CD M D0
 m1:1<=M
 g1:grow M D0.w < 4294967296 ^ 100000
def Shd.ok (h:Shd T D cm) (S:Szs D0 M) (e:Und D0 D) (hm:D.m < 1000000) (b:ae cm < 1000000):eJ T:=by have ⟨E,x,y,z,f,l⟩:=e.bound S.cK S.cd S.m1;have c:grow M D.w < 4294967296 ^ 100000:=e.w ▸ S.g1;refine ⟨h.m ▸ hm,by rw[h.cw,h.gw],Wo x y z c l h.gw b h.lt h.g0 h.g,fun i k=>?_⟩;rw[h.m] at k;exact ⟨Wo x y z c (f i k) (h.lw i k) b h.lt (h.a0 i k) (h.a i k),by rw[h.lw i k,h.gw]⟩
def Shd.Nt (h:Shd T D cm) (S:Szs D0 M) (b:Und D0 D) (hm:D.m < 1000000) (z:ae cm < 1000000) (k:i < D.m) (x:j < ae cm) (w:D.a i (af cm j 0+1)≠0):ji (T.jn i j):=by have y:=(h.bQ k x).ok S (b.bQ k (h.lt j x) w) hm z;have:=(y.nu i (by rw[Oa,h.m];exact k)).1;rw[LS (by rw[h.m];exact k),ah1 rfl] at this;exact this
end
def nq (x:Rat):(x.num.sign < 0↔x < 0)/\(x.num.sign=0↔x=0)/\(0 < x.num.sign↔0 < x):=by
 have y:x.num.sign < 0↔x < 0:=by rw[aka,<-Rat.not_le,<-Rat.num_nonneg];omega
 have z:x.num.sign=0↔x=0:=by rw[ai8,Rat.num_eq_zero]
 refine ⟨y,z,?_⟩;constructor
 .intro h;have w:¬x < 0:=fun k=>cn (y.2 k);have a:x≠0:=fun k=>cn (z.2 k)
  grind
 .intro h;have w:¬x.num.sign < 0:=fun k=>by have:=y.1 k;grind
  have a:x.num.sign≠0:=fun k=>by have:=z.1 k;grind
  omega
def nV (n:Nat) (v:Int):Prop:=v < (n:Int)
def fK (n:Nat) (eq:Int->Prop) (v:Int):Prop:=(n:Int)<=v/\¬eq v
structure kZ (D0:Dic) (n:Nat) (eq:Int->Prop) (cm:List Nat) (T:Tb) (D:Dic):Prop where
 cM:Shd T D cm
 tn:T.n=n
 pre:Pre D0 D (nV n) eq (fK n eq)
 jc:D.lU (fK n eq)
 cin:∀q,q < D.w->fK n eq (D.out q)->∃j,j < cm.length/\cm.getD j 0=q
 AY:∀j,j < cm.length->fK n eq (D.out (cm.getD j 0))
section
variable {T:Tb} {D D0:Dic} {cm:List Nat} {i j n:Nat} {eq:Int->Prop}
def kZ.bQ (h:kZ D0 n eq cm T D) (z:j < ae cm) (b:nE (fK n eq) D i (af cm j 0)):kZ D0 n eq cm (T.bQ i j) (D.bQ i (af cm j 0)):=by
 have x:D.a i (af cm j 0+1)≠0:=by have:=b.zr;grind
 refine ⟨h.cM.bQ b.hi z,h.tn,h.pre.bQ b.hi b.hk x b.si b.sk,b.jc h.jc,fun q y w=>?_,fun q y=>?_⟩
 .by_cases k:q=af cm j 0
  .exact ⟨j,z,k.symm⟩
  .have e:(D.bQ i (af cm j 0)).out q=D.out q:=by show cT D.out (af cm j 0) (D.bt i) q=D.out q;unfold cT;rw[ah0 k]
   rw[e] at w;exact h.cin q y w
 .show fK n eq (cT D.out (af cm j 0) (D.bt i) (af cm q 0));unfold cT;split
  .exact b.si
  .exact h.AY q y
def Fb (T:Tb) (c:Nat):(T.mD c < 0->∀q,q < c->¬af T.aM.c q 0 < 0) /\
  (0<=T.mD c->af T.aM.c (az (T.mD c)) 0 < 0/\∀q,q < c->af T.aM.c q 0 < 0->af T.bh (az (T.mD c)) 0<=af T.bh q 0):=by
 induction c with
 | zero=>exact ⟨fun _ q g=>aD,fun h=>by simp[Tb.mD] at h⟩
 | succ c o =>
  have ⟨z,y⟩:=o;have e:T.mD (c+1)=T.gU (T.mD c) c:=rfl;rw[e];unfold Tb.gU;split
  .rename_i h;have ⟨l,w⟩:=h;rw[(nq _).1] at l;refine ⟨fun f=>aD,fun _=>⟨bu l,fun q g x=>?_⟩⟩;rw[ah9];by_cases k:q=c
   .rw[k];exact ajV _
   .rcases ajQ (T.mD c) 0 with a | a
    .exact absurd x (z a q aD)
    .rcases w with w | w
     .omega
     .exact akJ (anu w) ((y a).2 q aD x)
  .rename_i h;rw[(nq _).1] at h;refine ⟨fun f q g=>?_,fun m=>⟨(y m).1,fun q g x=>?_⟩⟩
   .by_cases k:q=c
    .subst k;exact fun x=>h ⟨x,.inl f⟩
    .exact z f q aD
   .by_cases k:q=c
    .subst k;exact ali.1 fun b=>h ⟨x,.inr b⟩
    .exact (y m).2 q aD x
def Tb.cf (T:Tb) (col i:Nat):Rat:=(af T.aE i ah).c.getD col 0
def Tb.nm (T:Tb) (i:Nat):Int:=(af T.aE i ah).name
def Lo (T:Tb) (col c:Nat):((T.e8 col c).1 < 0->∀p,p < c->(T.n:Int)<=T.nm p->¬T.cf col p < 0) /\
  (0<=(T.e8 col c).1->(T.n:Int)<=T.nm (T.e8 col c).1.toNat/\T.cf col (T.e8 col c).1.toNat < 0/\(T.e8 col c).2=T.sC col (T.e8 col c).1.toNat /\
   ∀p,p < c->(T.n:Int)<=T.nm p->T.cf col p < 0->T.sC col (T.e8 col c).1.toNat<=T.sC col p/\(T.sC col (T.e8 col c).1.toNat=T.sC col p->T.nm (T.e8 col c).1.toNat<=T.nm p)):=by
 induction c with
 | zero=>exact ⟨fun _ q C=>aD,fun h=>by simp[Tb.e8] at h⟩
 | succ c B =>
  have ⟨f,y⟩:=B;have e:T.e8 col (c+1)=T.lR col (T.e8 col c) c:=rfl;rw[e];generalize T.e8 col c=s at *;unfold Tb.lR;have K:((af T.aE c ah).name < (T.n:Int)\/0<=((af T.aE c ah).c.getD col 0).num.sign)↔¬((T.n:Int)<=T.nm c/\T.cf col c < 0):=by have:=(nq (T.cf col c)).1;unfold Tb.cf at this;unfold Tb.nm Tb.cf;rw[<-this];omega
  split
  .rename_i h;rw[K] at h;refine ⟨fun l p t w=>?_,fun x=>⟨(y x).1,(y x).2.1,(y x).2.2.1,fun p t w a=>?_⟩⟩
   .by_cases k:p=c
    .subst k;exact fun a=>h ⟨w,a⟩
    .exact f l p aD w
   .by_cases k:p=c
    .subst k;exact absurd ⟨w,a⟩ h
    .exact (y x).2.2.2 p aD w a
  .rename_i h;rw[K,al4] at h;split
   .rename_i z;have ⟨x,z⟩:=z;have ⟨v,H,g,m⟩:=y x;refine ⟨fun l=>aD,fun _=>⟨v,H,g,fun p t w a=>?_⟩⟩;by_cases k:p=c
    .subst k;rw[g,(nq _).2.2,(nq _).2.1] at z;rcases z with z | ⟨z,b⟩
     .exact ⟨by grind,fun X=>by grind⟩
     .refine ⟨by grind,fun _=>?_⟩;unfold Tb.nm;omega
    .exact m p aD w a
   .rename_i z;refine ⟨fun l=>by (have:((c:Nat):Int) < 0:=l);(omega),fun _=>?_⟩;simp only[ah9];refine ⟨h.1,h.2,trivial,fun p t w a=>?_⟩;by_cases k:p=c
    .rw[k];exact ⟨ala,fun _=>ajV _⟩
    .rcases ajQ s.1 0 with b | b
     .exact absurd a (f b p aD w)
     .have ⟨v,H,g,m⟩:=y b;have ⟨E,W⟩:=m p aD w a;rw[g,(nq _).2.2,(nq _).2.1] at z;have n1:=fun r=>z ⟨b,.inl r⟩;refine ⟨by grind,fun X=>?_⟩;have o:T.sC col c - T.sC col (az s.1)=0:=by grind
      have:¬(af T.aE (az s.1) ah).name < (af T.aE c ah).name:=fun r=>z ⟨b,.inr ⟨o,r⟩⟩;have A:=W (by grind);unfold Tb.nm at A ⊢;omega
def kZ.LC (h:kZ D0 n eq cm T D) (x:i < D.m):fK n eq (D.bt i)↔(T.n:Int)<=T.nm i:=by unfold Tb.nm fK;rw[h.cM.bt i x,h.tn];exact ⟨fun k=>k.1,fun k=>⟨k,h.pre.nb i x⟩⟩
def kZ.lx (h:kZ D0 n eq cm T D) (k:i < D.m) (x:j < ae cm):T.sC j i=D.a i 0 / -(D.a i (af cm j 0+1)):=by unfold Tb.sC;rw[h.cM.a0 i k,h.cM.a i k j x]
def kZ.Wh (h:kZ D0 n eq cm T D) (C:0<=T.ep) (A:0<=T.tO (az T.ep)):az T.ep < ae cm/\nE (fK n eq) D (az (T.tO (az T.ep))) (af cm (az T.ep) 0):=by
 obtain ⟨j,t⟩:∃j:Nat,T.ep=(j:Int):=⟨az T.ep,aD⟩;rw[t,ah9] at A ⊢;obtain ⟨i,s⟩:∃i:Nat,T.tO j=(i:Int):=⟨az (T.tO j),aD⟩;rw[s,ah9];have e:T.mD (ae T.aM.c)=(j:Int):=t;have b:(T.e8 j (ae T.aE)).1=(i:Int):=s;have r1:=(B7 (T:=T) (ae T.aM.c)).2;have F:=(Gu (T:=T) (col:=j) (ae T.aE)).2;obtain ⟨l,o⟩:=(Fb T (ae T.aM.c)).2 aD;obtain ⟨H,K,E,f⟩:=(Lo T j (ae T.aE)).2 aD;rw[e,ah9] at l o;rw[b,ah9] at H K f;have X:=h.cM.gw;have hm:=h.cM.m;have k:j < ae cm:=aD;have x:i < D.m:=aD;refine ⟨k,x,h.cM.lt j k,h.AY j k,h.cM.g j k ▸ l,fun q B w z=>?_,(h.LC x).2 H,h.cM.a i x j k ▸ K,fun p y w z=>?_,fun p y w z W=>?_⟩
 .obtain ⟨r,v,rfl⟩:=h.cin q B w;rw[<-h.cM.out j k,<-h.cM.out r v];exact o r aD (h.cM.g r v ▸ z)
 .have:=(f p aD ((h.LC y).1 w) (by unfold Tb.cf;rw[h.cM.a p y j k];exact z)).1;rw[h.lx x k,h.lx y k] at this;exact this
 .have:=(f p aD ((h.LC y).1 w) (by unfold Tb.cf;rw[h.cM.a p y j k];exact z)).2 (by rw[h.lx x k,h.lx y k];exact W);unfold Tb.nm at this;rw[h.cM.bt i x,h.cM.bt p y] at this;exact this
def kZ.opt (h:kZ D0 n eq cm T D) (y:T.ep < 0):∀k,k < D.w->fK n eq (D.out k)->0<=D.g (k+1):=fun k z a=>by obtain ⟨j,x,rfl⟩:=h.cin k z a;rw[<-h.cM.g j x];exact akR.1 ((Fb T (ae T.aM.c)).1 y j (h.cM.gw ▸ x))
def kZ.ny (h:kZ D0 n eq cm T D) (r:0<=T.ep) (f:T.tO (az T.ep) < 0):∃k,k < D.w/\fK n eq (D.out k)/\D.g (k+1) < 0/\∀i,i < D.m->fK n eq (D.bt i)->0<=D.a i (k+1):=by obtain ⟨j,e⟩:∃j:Nat,T.ep=(j:Int):=⟨az T.ep,aD⟩;rw[e,ah9] at f;have z:T.mD (ae T.aM.c)=(j:Int):=e;have r1:=(B7 (T:=T) (ae T.aM.c)).2;obtain ⟨b,q⟩:=(Fb T (ae T.aM.c)).2 aD;rw[z,ah9] at b;have o:=h.cM.gw;have x:j < ae cm:=aD;refine ⟨_,h.cM.lt j x,h.AY j x,h.cM.g j x ▸ b,fun i y p=>akR.1 fun l=>?_⟩;exact (Lo T j (ae T.aE)).1 f i (h.cM.m ▸ y) ((h.LC y).1 p) (by unfold Tb.cf;rw[h.cM.a i y j x];exact l)
structure Ye (D0:Dic) (n:Nat) (eq:Int->Prop) (cm:List Nat) (m:Nat) (P:Dic->Prop) (T':Tb) (D':Dic) (r:Bool):Prop where
 inv:kZ D0 n eq cm T' D'
 p:P D'
 m:D'.m=m
 opt:r=true->∀k,k < D'.w->fK n eq (D'.out k)->0<=D'.g (k+1)
 ny:r=false->∃k,k < D'.w/\fK n eq (D'.out k)/\D'.g (k+1) < 0/\∀i,i < D'.m->fK n eq (D'.bt i)->0<=D'.a i (k+1)
def Cg (cm:List Nat) (a:Tb × Dic):Option (Tb × Dic) :=
 if 0<=a.1.ep/\0<=a.1.tO (az a.1.ep) then ak (a.1.bQ (az (a.1.tO (az a.1.ep))) (az a.1.ep),a.2.bQ (az (a.1.tO (az a.1.ep))) (af cm (az a.1.ep) 0)) else an
def Si {M:Int} (S:Szs D0 M) (g:ae cm < 1000000) {m:Nat} (hm:m < 1000000) {lo:Int} {V:Nat} (l:∀v,D0.Var v->lo<=v/\v < lo+V) {P:Dic->Prop}
  (E:∀X i k,Pre D0 X (nV n) eq (fK n eq)->nE (fK n eq) X i k->P X->P (X.bQ i k)) (h:kZ D0 n eq cm T D) (q:D.m=m) (C:P D):∃N w D' r,Imp N T w r/\Ye D0 n eq cm m P w D' r:=by
 obtain ⟨N,b,s⟩:=NS (α:=Tb × Dic) (next:=Cg cm) (dic:=fun a=>a.2) (sd:=fK n eq) (lo:=lo) (V:=V) (fun a=>kZ D0 n eq cm a.1 a.2)
  (fun a b t y=>by
   unfold Cg at y;split at y
   .rename_i g;have ⟨p,e⟩:=t.Wh g.1 g.2;cases y;exact ⟨t.bQ p e,_,_,e,rfl⟩
   .cases y) (a:=(T,D)) h h.pre.fit.dE.cK h.jc (fun v hv=>l v (h.pre.fit.dE.var v hv));have key:∀(N:Nat) (a b:Tb × Dic),Kb (Cg cm) N a b->kZ D0 n eq cm a.1 a.2->P a.2->a.2.m=m->∃N w D' r,Imp N a.1 w r/\Ye D0 n eq cm m P w D' r:=by
  intro N a b s
  induction s with
  | stop y =>
   rename_i a;intro hi o z;have ok:=hi.cM.ok S hi.pre.fit.dE aD g;unfold Cg at y;split at y
   .cases y
   .rename_i x;by_cases H:a.1.ep < 0
    .exact ⟨0,a.1,a.2,aq,.opt ok H,hi,o,z,fun _=>hi.opt H,fun h=>by cases h⟩
    .have f:0<=a.1.ep:=aD;have K:a.1.tO (az a.1.ep) < 0:=by have:¬0<=a.1.tO (az a.1.ep):=fun F=>x ⟨f,F⟩;omega
     exact ⟨0,a.1,a.2,ar,.ny ok f K,hi,o,z,fun h=>(by cases h),fun _=>hi.ny f K⟩
  | go y _ G =>
   rename_i a b c;intro hi o z;have ok:=hi.cM.ok S hi.pre.fit.dE aD g;unfold Cg at y;split at y
   .rename_i x;have ⟨p,e⟩:=hi.Wh x.1 x.2;cases y;have ⟨W,w,D',r,A,B⟩:=G (hi.bQ p e) (E _ _ _ hi.pre e o) z;exact ⟨W+1,w,D',r,.step ok x.1 x.2 (hi.cM.Nt S hi.pre.fit.dE aD g e.hi p (by have:=e.zr;grind)) A,B⟩
   .cases y
 exact key N _ _ s h C q
end
section
variable {P:Program}
structure TAt (H:aF) (t:Nat) (D:TbD) (G:aF) (D1:TbD) (T1:Tb):Prop where
 r:TbR G t D1 T1
 k:aL H G (D.ids t)
 i:∀id,id∈D1.ids t->id∈D.ids t\/H.length<=id
def TAt.refl (h:TbR H t D T):TAt H t D H D T:=⟨h,aL.refl _ _,fun _ h => .inl h⟩
def TAt.nx (h:TAt H t D G e T1) (g:Nx G t e T2 v f):∃y,TAt H t D f y T2:=by
 have ⟨y,n,c,o⟩:=g;refine ⟨y,n,⟨aiJ h.k.1 c.1,fun x m b w=>?_⟩,fun x z=>?_⟩
 .have l:=fun j=>(h.i x j).elim b (fun h=>aD);rw[c.2 x (by have:=h.k.1;omega) l,h.k.2 x m b]
 .rcases o x z with a | a
  .exact h.i x a
  .exact .inr (cn h.k.1)
def TAt.aQ (h:TAt H t D G a T1) (k:aL G x []) (i:Idl x):TAt H t D x a T1 :=
 ⟨h.r.aQ k i,⟨aiJ h.k.1 k.1,fun z y b w=>by rw[k.2 z (aiB y h.k.1) aO,h.k.2 z y b]⟩,h.i⟩
def TAt.done (h:TAt H t D G x T1):Nx H t D T1 v G:=⟨x,h.r,h.k,h.i⟩
def TbR.ln (h:TbR H t D T) (k:T.aE≠[]):∃a ver tl,D.vl = .sl 8 a ver 0 (ae T.aE)/\(∀z K,bk (H++z) a ver K=K ⟨8,ver,dO T.aE D.aV++tl⟩)/\(∀K,bk H a ver K=K ⟨8,ver,dO T.aE D.aV++tl⟩) /\
  ∀j,j < ae T.aE->∀K,ElP (dO T.aE D.aV++tl) (0+j) K=K (cL (af T.aE j ah) (af D.aV j .ba)):=by
 have x:ae (dO T.aE D.aV)=ae T.aE:=by simp[h.cl]
 have ⟨a,ver,w,tl,y⟩:=h.aE.kP (h.qG k);rw[x] at w;exact ⟨a,ver,tl,w,fun z K=>aK (by rw[cJ (aP y)];exact y) K,aK y,fun j b=>iu (by rw[aia];exact uJ h.cl b)⟩
inductive StC:Nat->Tb->Bool->Tb->Bool->Prop
 | fin {i:Nat} {T:Tb} {lo:Bool}:eJ T->T.bh.length<=i->StC i T lo T lo
 | skip {i:Nat} {T T':Tb} {lo lo':Bool}:eJ T->i < T.bh.length->¬T.bh.getD i 0 < (T.n:Int)->StC (i+1) T lo T' lo'->StC i T lo T' lo'
 | drop {i:Nat} {T T':Tb} {lo lo':Bool}:eJ T->i < T.bh.length->T.bh.getD i 0 < (T.n:Int)->StC i (T.drop i) (lo || !decide ((T.aM.c.getD i 0).num.sign=0)) T' lo'->StC i T lo T' lo'
def StC.ok (h:StC i T lo x k):eJ T:=by cases h<;>assumption
def T9 (H:aF) (t:Nat) (D:TbD) (T':Tb) (ok lo:Bool):AV->aF->Prop:=fun v H'=>v = .bM [.c (.bool ok),.c (.bool lo)]/\aL H H' (D.ids t)/\(ok=aq->Nx H t D T' v H')
def VI (h:TAt H t D G z T) (p:StC 0 T lo W f) :
  WP prog 163 my (iZ [.t 4,.t 5] (T9 H t D W aq f)) ((0,.ptr t 0 0 0)::(5,.v0 lo)::V) G:=by
 refine uz ?_;refine Z ?_;refine aZ (fun n e G=>∃(i:Nat) (z:TbD) (T:Tb) (lo:Bool),n=ae T.bh - i/\StC i T lo W f/\TAt H t D G z T/\e=[(0,.ptr t 0 0 0),(5,.v0 lo),(10,.q0 (i:Int))]) ⟨0,z,T,lo,rfl,p,h,rfl⟩ ?_;rintro n _ G ⟨i,z,T,lo,hn,p,x,rfl⟩;have ok:=p.ok;have X:=aK x.r.bF;have Lc:=x.r.bh.fN;rw[ah3] at Lc;have o:=ok.cl;have R:=ok.mU.len;by_cases y:(i:Int) < (ae T.bh:Int)
 .have b:i < ae T.bh:=aD;have ⟨r,E,F⟩:=x.r.bh.yk.rd G (aL.refl _ _) i _ (et b);cases p with
  | fin _ w=>omega
  | skip _ _ w A =>
   have K:=ws i;simp only[go_sem,↓reduceIte,X,bY,Lc,y,E,F,w,K];exact ⟨ae T.bh - (i+1),aD,i+1,z,T,lo,rfl,A,x,rfl⟩
  | drop _ _ w A =>
   have K:au .i64 ((i:Int) - 1)=(i:Int) - 1:=by rw[wrap_i64 aD aD]
   have J:au .i64 ((i:Int) - 1+1)=(i:Int):=by rw[wrap_i64 aD aD];omega
   have ⟨g,N,O⟩:=x.r.aM.yk.rd G (aL.refl _ _) i _ (qT aD);have I:=R1 (col:=i) x.r b ok.ll aD (fun j S=>by rw[(ok.nu j S).2,o]) o.symm;have L:(T.drop i).bh.length=ae T.bh - 1:=by show ae (aB T.bh i)=_;rw[aiP b]
   have s:∀v a,Nx G t z (T.drop i) v a->∀l,l=(lo || !decide ((af T.aM.c i 0).num.sign=0))->∃m,m < n/\∃(C:Nat) (z:TbD) (T:Tb) (lo:Bool),m=ae T.bh - C/\StC C T lo W f/\TAt H t D a z T /\
     ([(0,.ptr t 0 0 0),(5,.v0 l),(10,.q0 (i:Int))]:Env)=[(0,.ptr t 0 0 0),(5,.v0 lo),(10,.q0 (C:Int))]:=fun v a q l U=>by have ⟨M,B⟩:=x.nx q;subst U;exact ⟨(T.drop i).bh.length - i,aD,i,M,_,_,rfl,A,B,rfl⟩
   cases lo with
   | true =>
    simp only[go_sem,↓reduceIte,X,bY,Lc,y,E,F,w];refine cQ I ?_;intro v a q;refine Y2 K J ?_;exact s v a q _ rfl
   | false =>
    simp only[go_sem,↓reduceIte,ahZ,X,bY,Lc,y,E,F,w,N,O];refine aH (ot _) (by simp[bC]) rfl ?_;refine Y ?_;refine cQ I ?_;intro v a q;refine Y2 K J ?_;exact s v a q _ (by rw[ann])
 .simp only[go_sem,↓reduceIte,X,bY,Lc,y];cases p with
  | fin _ w=>exact ⟨rfl,x.k,fun _=>x.done⟩
  | skip _ w=>omega
  | drop _ w=>omega
def DD (h:TbR H t D T) (k:eJ T) (y:a < ae T.aE) (w:c < ae T.bh) (z:ji (T.jn a c)) (x:((af T.aE a ah).c.getD c 0).num≠0) :
  cR prog 118 [.ptr t 0 0 0,.q0 (a:Int),.q0 (c:Int)] H (Nx H t D (T.bQ a c)) :=
 PI (l:=af T.aE a ah) (b:=T.jn a c) h y w rfl rfl k.mU z k.nu k.cl.symm k.ll x
def K3 (h:TbR H t D T) (k:eJ T) (x:c < ae T.bh) :
  cR prog 119 [.ptr t 0 0 0,.q0 (c:Int)] H (Nx H t D (T.drop c)) :=
 R1 h x k.ll (zU k.cl k.mU.len) (fun j y=>by rw[(k.nu j y).2,k.cl]) k.cl.symm
def R9 {c:Nat} (h:uB n p=(c:Int)):c < n/\p c=aq:=by
 unfold uB at h;split at h
 .rename_i i k;have x:=ams k;have y:=alm k;have:i=c:=aD;subst this;exact ⟨bu y,x⟩
 .omega
def A4 {T:Tb} {l:Ln} {c:Nat} (h:T.free l=(c:Int)):c < ae l.c/\af T.bh c 0 < (T.n:Int)/\(af l.c c 0).num≠0:=by have ⟨y,k⟩:=R9 h;unfold Tb.yw at k;rw[ah2,decide_eq_true_iff,ajJ,aj5] at k;exact ⟨y,k.1,fun x=>k.2 (by rw[x];rfl)⟩
def HX (h:TbR H t D T) (x:eJ T) (k:i < ae T.aE) :
  bR prog 117 [.ptr t 0 0 0,.agg (cL (af T.aE i ah) (af D.aV i .ba))] H (.q0 (T.free (af T.aE i ah))) H :=
 Xk h (h.rws i k).yk (x.nu i k).1.len (by rw[(x.nu i k).2,x.cl])
def Tb.fU (T:Tb) (i:Nat):Int:=(af T.aE i ah).name
inductive StB:Nat->Tb->Tb->Prop
 | fin {i:Nat} {T:Tb}:eJ T->T.aE.length<=i->StB i T T
 | skip {i:Nat} {T T':Tb}:eJ T->i < T.aE.length->¬(T.n:Int)<=T.fU i->StB (i+1) T T'->StB i T T'
 | none {i:Nat} {T T':Tb}:eJ T->i < T.aE.length->(T.n:Int)<=T.fU i->T.free (T.aE.getD i default) < 0->StB (i+1) T T'->StB i T T'
 | kz {i c:Nat} {T T':Tb}:eJ T->i < T.aE.length->(T.n:Int)<=T.fU i->T.free (T.aE.getD i default)=(c:Int)->ji (T.jn i c)->StB (i+1) (T.bQ i c) T'->StB i T T'
def StB.ok (h:StB i T k):eJ T:=by cases h<;>assumption
def F2 {T:Tb} {a k:Nat}:(T.bQ a k).aE.length=ae T.aE:=by simp[Tb.bQ,Tb.kz,iQ]
def VH {H G:aF} {t:Nat} {D z:TbD} {T T1 N:Tb} {p:Bool} {x1:AV} (h:TAt H t D G z T) (o:StB 0 T T1) (C:StC 0 T1 ar N p) {R:Env} :
  WP prog 163 mw (iZ [.t 4,.t 5] (T9 H t D N aq p)) ((0,.ptr t 0 0 0)::(1,x1)::(5,.v0 ar)::R) G:=by
 refine uz ?_;have B:=aK h.r.bF;have M:=h.r.aE.fN;rw[show ae (dO T.aE z.aV)=ae T.aE by simp[h.r.cl]] at M;simp only[go_sem,↓reduceIte,B,bY,M];refine aZ (fun n e G=>∃(i:Nat) (z:TbD) (X:Tb),n=ae T.aE - i/\ae X.aE=ae T.aE/\StB i X T1/\TAt H t D G z X/\e=[(0,.ptr t 0 0 0),(5,.v0 ar),(90,.q0 (ae T.aE:Int)),(91,.q0 (i:Int))])
  ⟨0,z,T,rfl,rfl,o,h,rfl⟩ ?_;rintro n _ G ⟨i,z,X,hn,f,o,y,rfl⟩;have ok:=o.ok;have a0:=ok.ll;have A:=aK y.r.bF;by_cases g:(i:Int) < (ae T.aE:Int)
 .have k:i < ae X.aE:=aD;have K:=ws i;have ⟨a,ver,tl,I,y2,J,y4⟩:=y.r.ln (fun U=>by rw[U] at k;simp at k);have F:=y4 i k;have j:∀{Y:Tb} {L:TbD} {s:aF},ae Y.aE=ae T.aE->StB (i+1) Y T1->TAt H t D s L Y->∃m,m < n/\∃(E:Nat) (z:TbD) (X:Tb),m=ae T.aE - E/\ae X.aE=ae T.aE/\StB E X T1/\TAt H t D s z X /\
    ([(0,.ptr t 0 0 0),(5,.v0 ar),(90,.q0 (ae T.aE:Int)),(91,.q0 ((i+1:Nat):Int))]:Env)=[(0,.ptr t 0 0 0),(5,.v0 ar),(90,.q0 (ae T.aE:Int)),(91,.q0 (E:Int))]:=fun x w l =>
   ⟨ae T.aE - (i+1),aD,i+1,_,_,rfl,x,w,l,rfl⟩;cases o with
  | fin _ x=>omega
  | skip _ _ x w =>
   unfold Tb.fU at x;simp only[go_sem,↓reduceIte,A,bY,g,I,J,F,x,K];exact ⟨aD,j f w y⟩
  | none _ _ x w l =>
   unfold Tb.fU at x;have q:=HX y.r ok k;have b:¬0<=X.free (af X.aE i ah):=aD;have vc:=(y.r.rws i k).cell;simp only[go_sem,↓reduceIte,ahZ,A,bY,g,I,J,F,x];refine ⟨aD,aD,dS q ?_⟩;refine Y2 b K ?_;exact j f l y
  | @kz _ c _ _ _ _ x w l V =>
   unfold Tb.fU at x;have q:=HX y.r ok k;have ⟨O,f2,S⟩:=A4 w;have C:c < ae X.bh:=by rw[(ok.nu i k).2,<-ok.cl] at O;exact O
   have b:(0:Int)<=(c:Int):=aD;have vc:=(y.r.rws i k).cell;rw[w] at q;simp only[go_sem,↓reduceIte,ahZ,A,bY,g,I,J,F,x];refine ⟨aD,aD,dS q ?_⟩;refine Y1 b ?_;refine cQ (DD y.r ok k C l S) ?_;intro v s hx;have ⟨L,W⟩:=y.nx hx;refine Y1 K ?_;exact j (by rw[F2];exact f) V W
 .refine Z ?_;cases o with
  | fin _ x=>exact VI y C
  | skip _ x=>omega
  | none _ x=>omega
  | kz _ x=>omega
inductive StA (cs:List Cd):Nat->Nat->Tb->Tb->Bool->Prop
 | fin {N i:Nat} {T:Tb}:eJ T->T.aE.length<=i->StA cs N i T T true
 | skip {N i:Nat} {T T':Tb} {r:Bool}:eJ T->i < T.aE.length->T.fU i < (T.n:Int)->StA cs N (i+1) T T' r->StA cs (N+1) i T T' r
 | U0 {N i k:Nat} {T T':Tb} {r:Bool}:eJ T->i < T.aE.length->T.fU i=(T.n:Int)+(k:Int)->k < cs.length->(cs.getD k default).e=false->StA cs N (i+1) T T' r->StA cs (N+1) i T T' r
 | kz {N i k c:Nat} {T T':Tb} {r:Bool}:eJ T->i < T.aE.length->T.fU i=(T.n:Int)+(k:Int)->k < cs.length->(cs.getD k default).e=true->T.free (T.aE.getD i default)=(c:Int)->ji (T.jn i c)->eJ (T.bQ i c)->StA cs N (i+1) ((T.bQ i c).drop c) T' r->StA cs (N+1) i T T' r
 | bad {N i k:Nat} {T:Tb}:eJ T->i < T.aE.length->T.fU i=(T.n:Int)+(k:Int)->k < cs.length->(cs.getD k default).e=true->T.free (T.aE.getD i default) < 0->(T.aE.getD i default).add.num.sign≠0->StA cs N i T T false
 | cut {N i k:Nat} {T T':Tb} {r:Bool}:eJ T->i < T.aE.length->T.fU i=(T.n:Int)+(k:Int)->k < cs.length->(cs.getD k default).e=true->T.free (T.aE.getD i default) < 0->(T.aE.getD i default).add.num.sign=0->StA cs N i (T.cut i) T' r->StA cs (N+1) i T T' r
def StA.ok (h:StA cs N i T k r):eJ T:=by cases h<;>assumption
inductive StR (cs:List Cd) (T:Tb):Tb->Bool->Bool->Prop
 | bad {N:Nat} {T':Tb}:StA cs N 0 T T' false->StR cs T T' false false
 | Fp {N:Nat} {T1 T2 T':Tb} {lo:Bool}:StA cs N 0 T T1 true->StB 0 T1 T2->StC 0 T2 false T' lo->StR cs T T' true lo
def KI (h:TbR H t D T) (hr:StR cs T T' ok lo) (hn:T.n < 1000000) (a2:ae cs < 1000000) :
  cR prog 103 [.ptr t 0 0 0,.seq 5 ar (cs.map dC)] H (T9 H t D T' ok lo):=by
 refine qc func103 vJ ?_;refine uz ?_;refine Z ?_;refine uz ?_;refine Z ?_;have A:∃N q r,StA cs N 0 T q r/\(r=ar->ok=ar/\lo=ar)/\(r=aq->ok=aq/\∃V,StB 0 q V/\StC 0 V ar T' lo):=by
  cases hr with
  | bad x=>exact ⟨_,_,_,x,fun _=>⟨rfl,rfl⟩,fun h=>by cases h⟩
  | Fp x z f=>exact ⟨_,_,_,x,fun h=>(by cases h),fun _=>⟨rfl,_,z,f⟩⟩
 have ⟨N,q,r,R,O,W⟩:=A;refine aZ (fun n e G=>∃(i:Nat) (L:TbD) (X:Tb),StA cs n i X q r/\X.n=T.n/\TAt H t D G L X/\e=[(0,.ptr t 0 0 0),(1,.seq 5 ar (cs.map dC)),(5,.v0 ar),(6,.q0 (i:Int))])
  ⟨0,D,T,R,rfl,TAt.refl h,rfl⟩ ?_;rintro n _ G ⟨i,L,X,R,o,w,rfl⟩;have j:=R.ok;have a1:=j.ll;have s:=aK w.r.bF;have Ll:=w.r.aE.fN;rw[show ae (dO X.aE L.aV)=ae X.aE by simp[w.r.cl]] at Ll;by_cases b:(i:Int) < (ae X.aE:Int)
 .have y:i < ae X.aE:=aD;have e1:=ws i;have e2:au .i64 ((i:Int) - 1)=(i:Int) - 1:=by rw[wrap_i64 aD aD]
  have e3:au .i64 ((i:Int) - 1+1)=(i:Int):=by rw[wrap_i64 aD aD];omega
  have ⟨a,ver,tl,F,y2,I,y4⟩:=w.r.ln (fun h0=>by rw[h0] at y;simp at y);have E:=y4 i y;have vc:=(w.r.rws i y).cell;have S:=HX w.r j y;have gm:∀{k:Nat},X.fU i=(X.n:Int)+(k:Int)->k < ae cs->¬(af X.aE i ah).name < (X.n:Int)/\au .i64 ((af X.aE i ah).name - (X.n:Int))=(k:Int):=fun {k} x z=>by unfold Tb.fU at x;rw[x];exact ⟨aD,by rw[wrap_i64 aD aD];omega⟩
  have p:∀{m i':Nat} {Y:Tb} {U:TbD} {M:aF},m < n->StA cs m i' Y q r->Y.n=T.n->TAt H t D M U Y->∃m,m < n/\∃(i:Nat) (L:TbD) (X:Tb),StA cs m i X q r/\X.n=T.n/\TAt H t D M L X /\
    ([(0,.ptr t 0 0 0),(1,.seq 5 ar (cs.map dC)),(5,.v0 ar),(6,.q0 (i':Int))]:Env)=[(0,.ptr t 0 0 0),(1,.seq 5 ar (cs.map dC)),(5,.v0 ar),(6,.q0 (i:Int))]:=fun h0 x z f =>
   ⟨_,h0,_,_,_,x,z,f,rfl⟩;cases R with
  | fin _ x=>omega
  | skip _ _ x z =>
   unfold Tb.fU at x;simp only[go_sem,↓reduceIte,s,bY,b,F,I,E,x,e1];exact ⟨aD,p aD z o w⟩
  | @U0 _ _ k _ _ _ _ _ x z f J =>
   have ⟨B,C⟩:=gm x z;have rc:∀(K:AV->Prop),mZ 5 (.seq 5 ar (cs.map dC)) (.q0 (k:Int)) K=((0<=(k:Int)/\(k:Int) < (ae cs:Int))/\K (.fp (dC (af cs k ah)) 0)):=fun K=>by rw[M9,ah9];exact propext ⟨fun h=>⟨⟨h.1.2.1,h.1.2.2⟩,h.2⟩,fun h=>⟨⟨rfl,h.1.1,h.1.2⟩,h.2⟩⟩
   simp only[go_sem,↓reduceIte,s,bY,b,F,I,E,B,C,f,e1,aja,ah5];exact ⟨aD,aD,aD,p aD J o w⟩
  | @kz _ _ k c _ _ _ _ _ x z f J h5 h6 h7 =>
   have ⟨B,C⟩:=gm x z;have ⟨f1,f2,f3⟩:=A4 J;have hc:c < ae X.bh:=by rw[(j.nu i y).2,<-j.cl] at f1;exact f1
   have g:(0:Int)<=(c:Int):=aD;rw[J] at S;simp only[go_sem,↓reduceIte,ahZ,s,bY,b,F,I,E,B,C,f,ajl,ah5];refine ⟨aD,aD,aD,aD,dS S ?_⟩;refine Y1 g ?_;refine cQ (DD w.r j y hc h5 f3) ?_;intro v M A;have ⟨U,l⟩:=w.nx A;refine Z ?_;refine cQ (K3 l.r h6 (by show c < ae (X.bh.set c _);rw[ah8];exact hc)) ?_;intro v M A;have ⟨D3,a0⟩:=l.nx A;refine Z ?_;exact p aD h7 o a0
  | @bad _ _ k _ _ _ x z f J h5 =>
   have ⟨B,C⟩:=gm x z;have g:¬(0:Int)<=q.free (af q.aE i ah):=aD;simp only[go_sem,↓reduceIte,ahZ,s,bY,b,F,I,E,B,C,f,ajl,ah5];refine ⟨aD,aD,aD,aD,dS S ?_⟩;simp only[go_sem,↓reduceIte,Nat.reduceLeDiff,s,bY,F,I,E,g];refine ⟨aD,aH (ot _) (by simp[bC]) rfl ?_⟩;refine Z ?_;obtain ⟨rfl,rfl⟩:=O rfl;exact ⟨rfl,w.k,fun h=>by cases h⟩
  | @cut _ _ k _ _ _ _ _ x z f J h5 h6 =>
   have ⟨B,C⟩:=gm x z;have g:¬(0:Int)<=X.free (af X.aE i ah):=aD;simp only[go_sem,↓reduceIte,ahZ,s,bY,b,F,I,E,B,C,f,ajl,ah5];refine ⟨aD,aD,aD,aD,dS S ?_⟩;simp only[go_sem,↓reduceIte,Nat.reduceLeDiff,s,bY,F,I,E,g];refine ⟨aD,aH (ot _) (by simp[bC]) rfl ?_⟩;refine Z ?_;refine cQ (Wi w.r y a1) ?_;intro v M A;have ⟨U,l⟩:=w.nx A;refine Z ?_;exact p aD h6 o l
 .simp only[go_sem,↓reduceIte,s,bY,Ll,b];cases R with
  | fin _ x =>
   obtain ⟨rfl,V,g1,g2⟩:=W rfl;exact VH w g1 g2
  | skip _ x=>omega
  | U0 _ x=>omega
  | kz _ x=>omega
  | bad _ x=>omega
  | cut _ x=>omega
def FeX (H:aF) (t:Nat) (D:TbD) (T':Tb) (r:Bool):AV->aF->Prop:=fun v H'=>v = .c (.bool r)/\aL H H' (D.ids t)/\(r=aq->Nx H t D T' v H')
def Tb.O3 (T:Tb) (i:Nat):Tb:={T with aM:=af T.aE i ah}
def YN (h:TAt H t D G b T) (B:ae T.aE < 1000000) (hj:j < ae T.aE) (A:T.fU j = -1) (S:∀q,q < j->T.fU q ≠ -1) :
  WP prog 282 kX (iZ [.t 4] (FeX H t D ((T.O3 j).cut j) aq)) ((0,.ptr t 0 0 0)::er) G:=by
 refine uz ?_;have K:=aK h.r.bF;have I:=h.r.aE.fN;rw[show ae (dO T.aE b.aV)=ae T.aE by simp[h.r.cl]] at I;simp only[go_sem,↓reduceIte,K,bY,I];refine aZ (fun n e f=>∃i:Nat,i<=j/\n=ae T.aE - i/\TAt H t D f b T/\e=[(0,.ptr t 0 0 0),(264,b.vl),(265,.q0 (ae T.aE:Int)),(266,.q0 (i:Int))])
  ⟨0,aD,rfl,h,rfl⟩ ?_;rintro n _ f ⟨i,hi,hn,p,rfl⟩;have o:(i:Int) < (ae T.aE:Int):=aD;have y:i < ae T.aE:=aD;have N:au .i64 ((i:Int)+1)=((i+1:Nat):Int):=by rw[wrap_i64 aD aD];rfl
 have ⟨a,ver,tl,F,y2,M,y4⟩:=p.r.ln (fun O=>by rw[O] at y;simp at y);have L:=y4 i y;have w:=p.r.rws i y;have vc:=w.cell;have J:aL f (f++[ak (⟨8,0,[cL (af T.aE i ah) (af b.aV i .ba)]⟩:bz)]) []:=aL.app _ _ _;have V:Idl (f++[ak (⟨8,0,[cL (af T.aE i ah) (af b.aV i .ba)]⟩:bz)]):=p.r.fj.app (by show ([cL (af T.aE i ah) (af b.aV i .ba)].all fun x=>x.all (bp _))=aq;rw[ais,j8 (eS w.bp aD)];rfl);have z:=p.aQ J V;have X:=aK z.r.bF;by_cases U:i=j
 .subst U;have m:((af T.aE i ah).name = -1)=True:=aiq A;simp only[go_sem,↓reduceIte,ahZ,o,F,M,L,m,vc,X,bY,ajH];have R:=z.r.yQ (l:=af T.aE i ah) (v:=af b.aV i .ba) (w.aQ J aO) (z.r.ke i y);have s:Nx (f++[ak (⟨8,0,[cL (af T.aE i ah) (af b.aV i .ba)]⟩:bz)]) t b (T.O3 i) .ba _:=⟨_,R,(lF).mono (fun x s=>by simp at s;rw[s];exact aki),fun id W => .inl W⟩;have ⟨D2,c⟩:=z.nx s;simp only[bY,F] at c;refine ⟨aD,cQ (Wi c.r y B) ?_⟩;intro v G2 E;have ⟨D3,g⟩:=c.nx E;refine Y ?_;exact ⟨rfl,g.k,fun _=>g.done⟩
 .have C:((af T.aE i ah).name = -1)=False:=aie (S i aD);simp only[go_sem,↓reduceIte,ahZ,o,F,M,L,C,vc,ajI,N];exact ⟨aD,ae T.aE - (i+1),aD,i+1,aD,rfl,z,rfl⟩
def YM (h:TAt H t D G X T) (w:eJ T) (O:c < ae T.bh) (l:af T.bh c 0=K) (g:∀q,q < c->af T.bh q 0≠K)
  (A:j < ae T.aE) (m:T.fU j = -1) (F:∀q,q < j->T.fU q ≠ -1) :
  WP prog 282 kW (iZ [.t 4] (FeX H t D (((T.drop c).O3 j).cut j) aq)) ((0,.ptr t 0 0 0)::(1,.q0 K)::er) G:=by
 refine uz ?_;have f:=aK h.r.bF;have Lc:=h.r.bh.fN;rw[ah3] at Lc;have I:=w.cl;have L:=w.mU.len;simp only[go_sem,↓reduceIte,f,bY,Lc];refine aZ (fun n e a=>∃i:Nat,i<=c/\n=ae T.bh - i/\TAt H t D a X T/\e=[(0,.ptr t 0 0 0),(1,.q0 K),(247,X.vc),(248,.q0 (ae T.bh:Int)),(249,.q0 (i:Int))])
  ⟨0,aD,rfl,h,rfl⟩ ?_;rintro n _ a ⟨i,R,S,z,rfl⟩;have y:(i:Int) < (ae T.bh:Int):=aD;have x:i < ae T.bh:=aD;have E:=ws i;have ⟨r,B,C⟩:=z.r.bh.yk.rd a (aL.refl _ _) i _ (et x);by_cases J:i=c
 .subst J;have k:=aiq l;refine Z4 y B C k ?_;refine cQ (K3 z.r w x) ?_;intro v N s;have ⟨M,b⟩:=z.nx s;refine Z ?_;have W:∀q,q < ae T.aE->(T.drop i).fU q=T.fU q:=fun q p=>by unfold Tb.fU Tb.drop Ln.er;simp[af,p]
  exact YN b (by show ae (T.aE.map _) < _;rw[ah3];exact w.ll) (by show j < ae (T.aE.map _);rw[ah3];exact A) (W j A ▸ m) (fun q p=>W q aD ▸ F q p)
 .have o:=aie (g i aD);refine Z5 y B C o E ?_;exact ⟨ae T.bh - (i+1),aD,i+1,aD,rfl,z,rfl⟩
def Ln.zQ (l:Ln):Nat->Int
 | 0 => -1
 | i+1=>if (af l.c i 0).num.sign=0 then l.zQ i else (i:Int)
def Ln.Zf (l:Ln):Int:=l.zQ (ae l.c)
def Lr {l:Ln} {c:Nat}:∀i,l.zQ i=(c:Int)->c < i/\(af l.c c 0).num≠0
 | 0,h=>by simp[Ln.zQ] at h
 | i+1,h=>by
  unfold Ln.zQ at h;split at h
  .have:=Lr i h;exact ⟨aD,this.2⟩
  .rename_i k;have:i=c:=aD;subst this;exact ⟨aD,fun x=>k (by rw[x];rfl)⟩
def Xe {G:aF} {t i c:Nat} {F:AV} {D:TbD} {T:Tb} {Q:cx} (h:TbR G t D T) (s:eJ T) (y:i < ae T.aE) (L:(af T.aE i ah).Zf=(c:Int)) (N:ji (T.jn i c))
  (R:∀v w,Nx G t D (T.bQ i c) v w->Q .normal [(0,.ptr t 0 0 0),(1,F),(13,.q0 (i:Int))] w) {M:Env} :
  WP prog 282 kY Q ((0,.ptr t 0 0 0)::(1,F)::(13,.q0 (i:Int))::M) G:=by
 refine uz ?_;have K:=aK h.bF;have ⟨a,ver,tl,y1,y2,y3,y4⟩:=h.ln (fun b=>by rw[b] at y;simp at y);have V:=y4 i y;have z:=h.rws i y;have vc:=z.cell;have I:=z.fN;rw[ah3] at I;have E:=(s.nu i y).1;have p:=(s.nu i y).2;have O:=E.len;have ⟨W,A⟩:=Lr _ L;generalize j:af T.aE i ah=l at *;generalize hv:af D.aV i .ba=v at *;simp only[go_sem,↓reduceIte,K,bY,y1,y3,V,I];refine ⟨aD,?_⟩;refine aZ (fun n e w=>∃k:Nat,k<=ae l.c/\n=ae l.c - k/\TAt G t D w D T/\e=[(0,.ptr t 0 0 0),(1,F),(13,.q0 (i:Int)),(14,.q0 (l.zQ k)),(221,v),(222,.q0 (ae l.c:Int)),(223,.q0 (k:Int))])
  ⟨0,aD,rfl,TAt.refl h,rfl⟩ ?_;rintro n _ w ⟨k,hk,hn,f,rfl⟩;by_cases m:(k:Int) < (ae l.c:Int)
 .have J:=ws k;have x:=f.r.rws i y;rw[j,hv] at x;have ⟨q,S,U⟩:=x.yk.rd w (aL.refl _ _) k _ (qT aD);have g:=f.aQ (aL.app w [ak (⟨6,0,[xC (af l.c k 0)]⟩:bz)] _) (f.r.fj.app (iI (by rw[ais,gR];rfl)));refine Y3 m S U ?_;refine aH (ot _) (by simp[bC]) rfl ?_;by_cases b:(af l.c k 0).num.sign=0
  .refine Z2 b J ?_;exact ⟨ae l.c - (k+1),aD,k+1,aD,rfl,g,by rw[Ln.zQ,ah1 b]⟩
  .refine Z2 b J ?_;exact ⟨ae l.c - (k+1),aD,k+1,aD,rfl,g,by rw[Ln.zQ,ah0 b]⟩
 .have B:k=ae l.c:=aD;subst B;rw[show l.zQ (ae l.c)=(c:Int) from L];have o:¬(c:Int) < 0:=aD;refine Y1 m ?_;refine uz ?_;refine Z1 o ?_;have X:c < ae T.bh:=by rw[s.cl,<-p];exact W
  refine cQ (DD f.r s y X N (j ▸ A)) ?_;intro v2 G2 C;have ⟨D3,H⟩:=f.nx C;refine Y ?_;exact R v2 _ H.done
inductive FeA (nm:Int):Nat->Tb->Tb->Prop
 | fin {i:Nat} {T:Tb}:eJ T->T.aE.length<=i->FeA nm i T T
 | skip {i:Nat} {T T':Tb}:eJ T->i < T.aE.length->T.fU i≠nm->FeA nm (i+1) T T'->FeA nm i T T'
 | kz {i c:Nat} {T T':Tb}:eJ T->i < T.aE.length->T.fU i=nm->(T.aE.getD i default).Zf=(c:Int)->ji (T.jn i c)->FeA nm (i+1) (T.bQ i c) T'->FeA nm i T T'
def FeA.ok (h:FeA x i T k):eJ T:=by cases h<;>assumption
inductive FeB (nm:Int) (T:Tb):Tb->Prop
 | mk {c j:Nat}:eJ T->c < T.bh.length->T.bh.getD c 0=nm->(∀q,q < c->T.bh.getD q 0≠nm)->j < T.aE.length->T.fU j = -1->(∀q,q < j->T.fU q ≠ -1)->FeB nm T (((T.drop c).O3 j).cut j)
def YK {H G:aF} {t:Nat} {c:Int} {D y:TbD} {T T1 p:Tb} (h:TAt H t D G y T) (f:FeA c 0 T T1) (I:FeB c T1 p) {B:Env} :
  WP prog 282 kV (iZ [.t 4] (FeX H t D p aq)) ((0,.ptr t 0 0 0)::(1,.q0 c)::B) G:=by
 refine uz ?_;refine Y ?_;refine aZ (fun n e m=>∃(i:Nat) (y:TbD) (X:Tb),n=ae X.aE - i/\FeA c i X T1/\TAt H t D m y X/\e=[(0,.ptr t 0 0 0),(1,.q0 c),(13,.q0 (i:Int))])
  ⟨0,y,T,rfl,f,h,rfl⟩ ?_;rintro n _ m ⟨i,y,X,hn,f,x,rfl⟩;have ok:=f.ok;have J:=ok.ll;have l:=aK x.r.bF;have o:=x.r.aE.fN;rw[show ae (dO X.aE y.aV)=ae X.aE by simp[x.r.cl]] at o;by_cases b:(i:Int) < (ae X.aE:Int)
 .have k:i < ae X.aE:=aD;have A:au .i64 ((i:Int)+1)=((i+1:Nat):Int):=by rw[wrap_i64 aD aD];rfl
  have ⟨a,ver,tl,s,y2,K,y4⟩:=x.r.ln (fun C=>by rw[C] at k;simp at k);have q:=y4 i k;cases f with
  | fin _ z=>omega
  | skip _ _ z g =>
   have w:((af X.aE i ah).name=c)=False:=aie z;simp only[go_sem,↓reduceIte,l,bY,b,s,K,q,w,ajI,aja,A];exact ⟨aD,ae X.aE - (i+1),aD,i+1,y,X,rfl,g,x,rfl⟩
  | kz _ _ z g E F =>
   have w:((af X.aE i ah).name=c)=True:=aiq z;simp only[go_sem,↓reduceIte,l,bY,b,s,K,q,w,ajH,ajl];refine ⟨aD,Xe x.r ok k g E fun v G2 L=>?_⟩;have ⟨W,j⟩:=x.nx L;refine Z ?_;exact ⟨ae X.aE - (i+1),aD,i+1,W,_,by rw[F2],F,j,rfl⟩
 .simp only[go_sem,↓reduceIte,l,bY,o,b];cases f with
  | fin _ z =>
   cases I with
   | mk M N O R S U V=>exact YM x M N O R S U V
  | skip _ z=>omega
  | kz _ z=>omega
def TbR.newGoal (h:TbR H t D T) (x:aL H G [t]) (z:Idl G) (bF:aI G t 0=ak ⟨11,0,[bY {T with aM:=l} {D with vg:=v}]⟩)
  (hv:SlV G 6 v (l.c.map xC)) (w:∀id,id∈aG v->id≠t/\id∉aG D.vc/\id∉aG D.vl):TbR G t {D with vg:=v} {T with aM:=l} :=
 ⟨z,bF,h.bh.aQ x (fun id k=>by simp;exact h.pZ id (.inl k)),h.wL,h.aE.aQ x (fun id k=>by simp;exact h.pZ id (.inr k)),h.qG,h.gr,h.cl,
  fun j y=>(h.rws j y).aQ x (fun id k=>by simp;exact (h.ke j y id k).1),hv,h.pZ,h.B6,h.ke,w⟩
def TAt.aM (h:TAt H t D b x T) (y:aL b G [t]) (e:Idl G) (bF:aI G t 0=ak ⟨11,0,[bY {T with aM:=l} {x with vg:=v}]⟩)
  (hv:SlV G 6 v (l.c.map xC)) (f:∀id,id∈aG v->id≠t/\id∉aG x.vc/\id∉aG x.vl):TAt H t D G {x with vg:=v} {T with aM:=l} :=
 ⟨h.r.newGoal y e bF hv f,⟨aiJ h.k.1 y.1,fun id z a w=>by rw[y.2 id (aiB z h.k.1) (by simp;rintro rfl;exact a aki),h.k.2 id z a]⟩,h.i⟩
inductive FeG (nm:Int) (a c:Nat) (T:Tb):Tb->Bool->Prop
 | bad {N:Nat} {T1:Tb} {r:Bool}:Imp N (T.bQ a c) T1 r->0 < T1.aM.add.num.sign->FeG nm a c T T1 false
 | Fp {N:Nat} {T1 T2 T':Tb} {r:Bool}:Imp N (T.bQ a c) T1 r->¬0 < T1.aM.add.num.sign->FeA nm 0 T1 T2->FeB nm T2 T'->FeG nm a c T T' true
def YJ (h:TAt H t D z q T) (R:aL z G [t]) (hI:Idl G)
  (bF:aI G t 0=ak ⟨11,0,[bY {T with aM:=⟨-2,0,aA w 0++[1]⟩} {q with vg := .sl 6 (ae z) 0 0 (w+1)}]⟩) (i:aI G (ae z) 0=ak ⟨6,0,aA (w+1) (xC 0)⟩) (hw:ae T.bh=w+1)
  (U:eJ {T with aM:=⟨-2,0,aA w 0++[1]⟩}) (ha:a < ae T.aE) (hb:ji (Tb.jn {T with aM:=⟨-2,0,aA w 0++[1]⟩} a w)) (h0:((af T.aE a ah).c.getD w 0).num≠0)
  (hr:FeG nm a w {T with aM:=⟨-2,0,aA w 0++[1]⟩} L r) {er:Env} :
  WP prog 282 kU (iZ [.t 4] (FeX H t D L r)) ((0,.ptr t 0 0 0)::(1,.q0 nm)::(5,.q0 (a:Int))::er) G:=by
 refine uz ?_;have A:∀K,bk G t 0 K=K ⟨11,0,[bY {T with aM:=⟨-2,0,aA w 0++[1]⟩} {q with vg := .sl 6 (ae z) 0 0 (w+1)}]⟩:=aK bF;have E:∀K,bk G (ae z) 0 K=K ⟨6,0,aA (w+1) (xC 0)⟩:=aK i;have Lc:=h.r.bh.fN;rw[ah3,hw] at Lc;have C:=U.mU.len;simp only[ain,aiY,aiF,aiV] at C;have O:au .i64 (((w+1:Nat):Int) - 1)=(w:Int):=by rw[wrap_i64 aD aD];omega
 have eg:∀K,ElP (aA (w+1) (xC 0)) (0+w) K=K (xC 0):=iu (by rw[aia,aji,ah1 aD]);simp only[go_sem,↓reduceIte,A,bY,Lc,O];refine aH (nk 1 aR) rfl (bC _) ?_;have z1:((1:Int):Rat)=1:=rfl;rw[z1];refine Y2 E eg ?_;refine ⟨aD,?_⟩;have a0:=aP h.r.bF;have bl:=aP i;have o:∀y,(aA (w+1) (xC 0)).set (0+w) y=aA w (xC 0)++[y]:=fun y=>by rw[aia,alQ,ajy _ _ aO,aiY,akO];rfl
 have e:aA w (xC 0)++[xC 1]=((aA w (0:Rat)++[1]).map xC):=aO;rw[o];obtain ⟨b,x⟩:∃b,b=G.set (ae z) (ak (⟨6,0,aA w (xC 0)++[xC 1]⟩:bz)):=⟨_,rfl⟩;have k5:aL z b [t]:=⟨by rw[x,ah8];exact R.1,fun S i1 i2 v=>by rw[x,aS aD];exact R.2 S i1 i2 v⟩;have V:Idl b:=by rw[x];exact hI.set (iI (by rw[e];exact mL _))
 have v5:SlV b 6 (.sl 6 (ae z) 0 0 (w+1)) ((aA w (0:Rat)++[1]).map xC):=by have:SlV b 6 (.sl 6 (ae z) 0 0 (ae ((aA w (0:Rat)++[1]).map xC))) ((aA w (0:Rat)++[1]).map xC) := .sl (tl:=[]) (by rw[x,bn bl,e,aiu]);simpa using this
 have W:=h.aM (l:=⟨-2,0,aA w 0++[1]⟩) (v := .sl 6 (ae z) 0 0 (w+1)) k5 V (by rw[x,aS aD];exact bF) v5 (fun S n=>by simp[aG] at n;subst n;exact ⟨aD,fun I=>cn (h.r.bh.cV _ I),fun I=>cn (h.r.aE.cV _ I)⟩);have B:∀K,bk b t 0 K=K ⟨11,0,[bY {T with aM:=⟨-2,0,aA w 0++[1]⟩} {q with vg := .sl 6 (ae z) 0 0 (w+1)}]⟩:=aK W.r.bF;have m:G.set (ae z) (ak (⟨6,0,aA w (xC 0)++[[.q0 (rv (Rat.num 1)),.v0 (rn (Rat.num 1)),rd (Rat.num 1),.q0 (rv ((Rat.den 1:Nat):Int)),.v0 (rn ((Rat.den 1:Nat):Int)),rd ((Rat.den 1:Nat):Int)]]⟩:bz))=b:=x.symm;rw[m];simp only[go_sem,↓reduceIte,B,bY,Lc,O];refine cQ (DD W.r U ha (by show w < ae T.bh;omega) hb h0) ?_;intro v6 G6 J;have ⟨D6,p⟩:=W.nx J;refine Z ?_;cases hr with
 | @bad N M r F hs =>
  refine cQ (Ft p.r F) ?_;rintro v7 X ⟨rfl,g⟩;have ⟨s,j⟩:=p.nx g;have f:∀K,bk X t 0 K=K ⟨11,0,[bY L s]⟩:=aK j.r.bF;simp only[go_sem,↓reduceIte,Nat.reduceLeDiff,f,bY];refine aH (ot _) (by simp[bC]) rfl ?_;refine Z ?_;exact ⟨rfl,j.k,fun h=>by cases h⟩
 | @Fp N M T2 _ r F hs hA hB =>
  refine cQ (Ft p.r F) ?_;rintro v7 X ⟨rfl,g⟩;have ⟨s,j⟩:=p.nx g;have f:∀K,bk X t 0 K=K ⟨11,0,[bY M s]⟩:=aK j.r.bF;simp only[go_sem,↓reduceIte,Nat.reduceLeDiff,f,bY];refine aH (ot _) (by simp[bC]) rfl ?_;refine Z ?_;exact YK j hA hB
def NM {α:Type} {i n:Nat} {a z:α} (h:i < n):(aA i a++aA (n - i) z).set i a=aA (i+1) a++aA (n - (i+1)) z:=by rw[ajy _ _ (by simp),aiY,akO,show n - i=(n - (i+1))+1 by omega,alq,akt,alQ,aio];rfl
abbrev z6:List AV:=[.q0 0,.v0 ar,.nil,.q0 0,.v0 ar,.nil]
def YI (h:TAt H t D z s T) (N:aL z G [t]) (f:Idl G)
  (bF:aI G t 0=ak ⟨11,0,[bY {T with aM:=⟨-2,0,aA w 0++[1]⟩} {s with vg := .sl 6 (ae z) 0 0 (w+1)}]⟩) (g:aI G (ae z) 0=ak ⟨6,0,aA (w+1) z6⟩) (R:ae T.bh=w+1)
  (W:eJ {T with aM:=⟨-2,0,aA w 0++[1]⟩}) (J:a < ae T.aE) (L:ji (Tb.jn {T with aM:=⟨-2,0,aA w 0++[1]⟩} a w)) (F:((af T.aE a ah).c.getD w 0).num≠0)
  (O:FeG X a w {T with aM:=⟨-2,0,aA w 0++[1]⟩} A r) {E:Env} :
  WP prog 282 kT (iZ [.t 4] (FeX H t D A r)) ((0,.ptr t 0 0 0)::(1,.q0 X)::(5,.q0 (a:Int))::E) G:=by
 refine uz ?_;have m:=aK bF;have o:=W.mU.len;simp only[ain,aiY,aiF,aiV] at o;have a0:=aP h.r.bF;simp only[go_sem,↓reduceIte,m,bY];refine aZ (fun n e b=>∃i:Nat,i<=w+1/\n=w+1 - i/\aL z b [t]/\Idl b/\aI b t 0=ak ⟨11,0,[bY {T with aM:=⟨-2,0,aA w 0++[1]⟩} {s with vg := .sl 6 (ae z) 0 0 (w+1)}]⟩ /\
   aI b (ae z) 0=ak ⟨6,0,aA i (xC 0)++aA (w+1 - i) z6⟩ /\
   e=[(0,.ptr t 0 0 0),(1,.q0 X),(5,.q0 (a:Int)),(151,.q0 ((w+1:Nat):Int)),(152,.q0 (i:Int))])
  ⟨0,aD,rfl,N,f,bF,bu g,rfl⟩ ?_;rintro n _ b ⟨i,hi,hn,l,f,y,k,rfl⟩;have I:=aK y;have M:=aK k;by_cases q:(i:Int) < ((w+1:Nat):Int)
 .have B:=ws i;have C:∀K,ElP (aA i (xC 0)++aA (w+1 - i) z6) (0+i) K=K z6:=iu (by rw[aia,aiC aO,aiY,akO,aji,ah1 aD]);simp only[go_sem,↓reduceIte,q,I,bY];refine aH (nk 0 aR) rfl (bC _) ?_;have z1:((0:Int):Rat)=0:=rfl;rw[z1];refine Y3 M C B ?_;refine ⟨aD,w+1 - (i+1),aD,i+1,aD,rfl,⟨by rw[ah8];exact l.1,fun id U V v=>by rw[aS aD];exact l.2 id U V v⟩,?_,?_,?_,rfl⟩
  .refine f.set (iI ?_);rw[aia];show ((aA i (xC 0)++aA (w+1 - i) z6).set i (xC 0)).all _=aq;rw[NM aD,ah4];intro x S;rcases aiE.1 S with j | j
   .rw[ai1 j];exact gR 0
   .rw[ai1 j];rfl
  .rw[aS aD];exact y
  .rw[bn (aP k),aia];show ak (⟨6,0,(aA i (xC 0)++aA (w+1 - i) z6).set i (xC 0)⟩:bz)=_;rw[NM aD]
 .have p:i=w+1:=aD;subst p;refine Z ?_;exact YJ h l f y (by rw[k,akO,akC,aiu]) R W J L F O
def WN {H:aF} {k:Nat} {v:AV} {xs:List (List AV)} (h:SlV H k v xs) (E:Dt v) (I:ae xs < 4000000000) (p:Idl H) (y:List AV) (B:(∀x,x∈xs->x.all (bp (ae H))=aq)/\y.all (bp (ae H))=aq) :
  ∃a ver H',(∀K,bX k v [y] H K=K (.sl k a ver 0 (ae xs+1)) H')/\SlL H' k a ver (xs++[y])/\aL H H' (aG v)/\(a∈aG v\/a=ae H)/\Idl H'/\(H'.drop (ae H)).all (cg (ae H))=aq:=by
 have b:∀x,x∈xs++[y]->x.all (bp (ae H))=aq:=by
  intro x e;rcases aiE.1 e with g | g
  .exact B.1 x g
  .simp at g;rw[g];exact B.2
 have c:∀n ver (X:List (List AV)),ae H<=n->(∀x,x∈X->x.all (bp (ae H))=aq)->cg n (ak ⟨k,ver,X⟩)=aq:=fun n ver X F G=>by simp only[cg,ah4];intro x e a C;exact eS (ah4.1 (G x e) a C) F
 have i:∀(l:List (List AV)),(∀x,x∈l->x.all (bp (ae H))=aq)->((H++[ak (⟨k,0,l⟩:bz)]).drop (ae H)).all (cg (ae H))=aq:=by intro l e;rw[akV];simp only[ais,ajd,aiM];exact c _ _ _ (ahZ _) e
 cases h with
 | nil =>
  refine ⟨ae H,0,H++[ak ⟨k,0,[y]⟩],fun K=>?_,⟨[],bu ct⟩,aL.app _ _ _,.inr rfl,p.app (c _ 0 [y] aD b),i _ b⟩;rw[vD];simp
 | seq =>
  rename_i f;have D:=E;subst D;refine ⟨ae H,0,H++[ak ⟨k,0,xs++[y]⟩],fun K=>?_,⟨[],bu ct⟩,aL.app _ _ _,.inr rfl,p.app (c _ 0 (xs++[y]) aD b),i _ b⟩;have:il k H (.seq k aq xs) [y]=ak (.sl k (ae H) 0 0 (ae xs+1),H++[ak ⟨k,0,xs++[y]⟩]):=by show (if k=k/\ae xs+1<=4294967296 then _ else an)=_;rw[ah1 ⟨rfl,aD⟩];rfl
  simp only[bX,this];rfl
 | sl s =>
  rename_i id ver m;have r:=aP s;have A:∀o,aL H (H.set id o) [id]:=fun o=>⟨aO,fun j _ W w=>by simp at W;exact aS (ait W)⟩;have q:∀o,((H.set id o).drop (ae H)).all (cg (ae H))=aq:=fun o=>by rw[aih aO];rfl
  have t:∀x,x∈m->x.all (bp (ae H))=aq:=fun x e=>by have c:=p;unfold Idl at c;rw[ah4] at c;have:=c _ (FF s);simp only[cg,ah4] at this ⊢;exact this x (akq _ e)
  cases m with
  | nil =>
   rw[aiu] at s;refine ⟨id,ver+1,H.set id (ak ⟨k,ver+1,xs++[y]⟩),fun K=>?_,⟨[],by rw[bn r];simp⟩,A _,.inl (by simp[aG]),p.set (c _ _ _ (ahZ _) b),q _⟩;rw[oM s aO];refine propext ⟨fun h=>?_,fun h=>⟨rfl,bW,?_⟩⟩
   .simpa using h.2.2
   .simpa using h
  | cons z m =>
   refine ⟨id,ver,H.set id (ak ⟨k,ver,xs++[y]++m⟩),fun K=>?_,⟨m,by rw[bn r]⟩,A _,.inl (by simp[aG]),p.set (c _ _ _ (ahZ _) fun x e=>?_),q _⟩
   .have:il k H (.sl k id ver 0 (ae xs)) [y]=ak (.sl k id ver 0 (ae xs+1),H.set id (ak ⟨k,ver,xs++[y]++m⟩)):=by rw[Kf,s];simp only[aix];rw[ah0 aO,ah1 ⟨trivial,aO,trivial⟩];congr 3;simp
    simp only[bX,this];rfl
   .rcases aiE.1 e with g | g
    .exact b x g
    .exact t x (ajR _ g)
def Sr (h:ae vs=ae k):dO (k++[g]) (vs++[w])=dO k vs++[cL g w]:=by unfold dO;rw[List.zipWith_append h.symm];rfl
def xy {α:Type} {l:List α} {a d:α} {i:Nat} (h:i < ae (l++[a])):(i < ae l/\af (l++[a]) i d=af l i d)\/(i=ae l/\af (l++[a]) i d=a):=by
 rcases aij i (ae l) with k | k
 .exact .inl ⟨k,by simp[af,aic k]⟩
 .have:i=ae l:=by simp at h;omega
  subst this;exact .inr ⟨rfl,by simp[af]⟩
def TbR.pushLine (h:TbR H t D T) (S:ae T.aE < 1000000) (F:SlV H 6 w (g.c.map xC)) (X:∀id,id∈aG w->id≠t/\id∉aG D.vc/\id∉aG D.vl) :
  ∃m H',(∀K,bX 8 D.vl [cL g w] H K=K m H')/\bB m=aq/\m.cells=[m]/\dA m=aq/\aI H' t 0=ak ⟨11,0,[bY T D]⟩/\aL H H' (aG D.vl)/\(∀id,id∈aG m->id∈aG D.vl\/id=ae H)/\(H'.drop (ae H)).all (cg (ae H))=aq /\
   TbR (H'.set t (ak ⟨11,0,[bY {T with aE:=T.aE++[g]} {D with vl:=m,aV:=D.aV++[w]}]⟩)) t {D with vl:=m,aV:=D.aV++[w]} {T with aE:=T.aE++[g]}:=by
 have W:ae (dO T.aE D.aV)=ae T.aE:=by simp[h.cl]
 have s:=Pr (fun i f=>(h.rws i f).bp) h.cl;rw[ah4] at s;have ⟨a,ver,H',G,M,p,I,N,O⟩:=WN h.aE h.gr (by rw[W];omega) h.fj (cL g w) ⟨s,j8 F.bp⟩;rw[W] at G;have A:=aP h.bF;have C:=fun z=>h.pZ t (.inr z) rfl;have E:aI H' t 0=ak ⟨11,0,[bY T D]⟩:=by rw[p.2 t A C];exact h.bF
 have q:a≠t/\a∉aG D.vc/\a∉aG D.vg/\a∉aG w/\∀i,i < ae T.aE->a∉aG (af D.aV i .ba):=by
  rcases I with e | e
  .exact ⟨h.pZ a (.inr e),fun z=>h.B6 a z e,fun z=>(h.mE a z).2.2 e,fun z=>(X a z).2.2 e,fun i f z=>(h.ke i f a z).2.2 e⟩
  .subst e;exact ⟨aD,fun z=>cn (h.bh.cV _ z),fun z=>cn (h.aM.cV _ z),fun z=>cn (F.cV _ z),fun i f z=>cn ((h.rws i f).cV _ z)⟩
 have J:=lF (H:=H') (a:=t) (o:=ak ⟨11,0,[bY {T with aE:=T.aE++[g]} {D with vl := .sl 8 a ver 0 (ae T.aE+1),aV:=D.aV++[w]}]⟩);have B:∀{k v xs},SlV H k v xs->(∀id,id∈aG v->id∉aG D.vl)->(∀id,id∈aG v->id≠t)->SlV (H'.set t (ak ⟨11,0,[bY {T with aE:=T.aE++[g]} {D with vl := .sl 8 a ver 0 (ae T.aE+1),aV:=D.aV++[w]}]⟩)) k v xs:=fun hv e r =>
  (hv.aQ p e).aQ J (fun id y=>by simp;exact r id y);have L:SlV H' 8 (.sl 8 a ver 0 (ae T.aE+1)) (dO (T.aE++[g]) (D.aV++[w])):=by rw[Sr h.cl];exact M.cZ (by simp[h.cl])
 refine ⟨_,H',G,rfl,rfl,rfl,E,p,fun id y=>by simp[aG] at y;subst y;exact I,O,⟨N.set ?_,bn (aiB A p.1),?_,h.wL,?_,fun _=>trivial,trivial,by simp[h.cl],fun i f=>?_,?_,?_,?_,fun i f id y=>?_,?_⟩⟩
 .show ([bY {T with aE:=T.aE++[g]} {D with vl := .sl 8 a ver 0 (ae T.aE+1),aV:=D.aV++[w]}].all fun x=>x.all (bp (ae H')))=aq;rw[ais,wv (T:={T with aE:=T.aE++[g]}) (D:={D with vl := .sl 8 a ver 0 (ae T.aE+1),aV:=D.aV++[w]}) (eS h.bh.bp p.1) L.bp (eS h.aM.bp p.1)];rfl
 .exact B h.bh (fun id y=>h.B6 id y) (fun id y=>h.pZ id (.inl y))
 .exact L.aQ J (fun id y=>by simp[aG] at y;simp;rw[y];exact q.1)
 .show SlV _ 6 (af (D.aV++[w]) i .ba) ((af (T.aE++[g]) i ah).c.map xC);have l:i < ae (D.aV++[w]):=by rw[ain,h.cl];simpa using f
  rcases xy (d:=(ah:Ln)) f with ⟨e,r⟩ | ⟨e,r⟩
  .rcases xy (d:=AV.ba) l with ⟨n,j⟩ | ⟨n,j⟩
   .rw[r,j];exact B (h.rws i e) (fun id y=>(h.ke i e id y).2.2) (fun id y=>(h.ke i e id y).1)
   .rw[h.cl] at n;omega
  .rcases xy (d:=AV.ba) l with ⟨n,j⟩ | ⟨n,j⟩
   .rw[h.cl] at n;omega
   .rw[r,j];exact B F (fun id y=>(X id y).2.2) (fun id y=>(X id y).1)
 .exact B h.aM (fun id y=>(h.mE id y).2.2) (fun id y=>(h.mE id y).1)
 .rintro id (y | y)
  .exact h.pZ id (.inl y)
  .simp[aG] at y;rw[y];exact q.1
 .intro id y z;simp[aG] at z;subst z;exact q.2.1 y
 .have l:i < ae (D.aV++[w]):=by rw[ain,h.cl];simpa using f
  rcases xy (d:=AV.ba) l with ⟨n,j⟩ | ⟨n,j⟩
  .have R:=h.cl;have b:id∈aG (af D.aV i .ba):=j ▸ y;refine ⟨(h.ke i aD id b).1,(h.ke i aD id b).2.1,fun z=>?_⟩;simp[aG] at z;subst z;exact q.2.2.2.2 i aD b
  .have b:id∈aG w:=j ▸ y;refine ⟨(X id b).1,(X id b).2.1,fun z=>?_⟩;simp[aG] at z;subst z;exact q.2.2.2.1 b
 .intro id y;refine ⟨(h.mE id y).1,(h.mE id y).2.1,fun z=>?_⟩;simp[aG] at z;subst z;exact q.2.2.1 y
structure Iy (t:Nat) (D:TbD) (m b:Nat):Prop where
 t:b≠t
 c:b∉aG D.vc
 l:b∉aG D.vl
 r:∀i,i < m->b∉aG (D.aV.getD i .ba)
 g:b∉aG D.vg
def TbR.apart (h:TbR H t D T) (x:Iy t D (ae T.aE) b) (y:aL H G [b]) (a:Idl G):TbR G t D T :=
 ⟨a,by rw[y.2 t (aP h.bF) (by simp;exact fun e=>x.t e.symm)];exact h.bF,h.bh.aQ y (fun z k=>by simp;rintro rfl;exact x.c k),h.wL,h.aE.aQ y (fun z k=>by simp;rintro rfl;exact x.l k),h.qG,h.gr,h.cl,
  fun i w=>(h.rws i w).aQ y (fun z k=>by simp;rintro rfl;exact x.r i w k),h.aM.aQ y (fun z k=>by simp;rintro rfl;exact x.g k),h.pZ,h.B6,h.ke,h.mE⟩
def TAt.apart (h:TAt H t D G y T) (f:Iy t y (ae T.aE) b) (j:ae H<=b) (x:aL G z [b]) (e:Idl z):TAt H t D z y T :=
 ⟨h.r.apart f x e,⟨aiJ h.k.1 x.1,fun c a g w=>by rw[x.2 c (aiB a h.k.1) bW,h.k.2 c a g]⟩,h.i⟩
def YH (h:TAt H t D G e T) (F:aI G b 0=ak ⟨8,0,[cL g vg]⟩) (hb:Iy t e (ae T.aE) b) (b0:ae H<=b) (a0:b∉aG vg)
  (hg:SlV G 6 vg (g.c.map xC)) (hs:∀id,id∈aG vg->id≠t/\id∉aG e.vc/\id∉aG e.vl) (b2:ae T.aE < 1000000) (hw:ae T.bh=w+1)
  (ok:eJ {T with aE:=T.aE++[⟨-1,g.add,g.c⟩],aM:=⟨-2,0,aA w 0++[1]⟩}) (ha:a < ae T.aE) (b1:ji (Tb.jn {T with aE:=T.aE++[⟨-1,g.add,g.c⟩],aM:=⟨-2,0,aA w 0++[1]⟩} a w)) (h0:((af T.aE a ah).c.getD w 0).num≠0)
  (hr:FeG nm a w {T with aE:=T.aE++[⟨-1,g.add,g.c⟩],aM:=⟨-2,0,aA w 0++[1]⟩} T' r) {er:Env} :
  WP prog 282 gX (iZ [.t 4] (FeX H t D T' r)) ((0,.ptr t 0 0 0)::(1,.q0 nm)::(5,.q0 (a:Int))::(8,.ptr b 0 0 0)::er) G:=by
 refine uz ?_;have g0:∀K,bk G b 0 K=K ⟨8,0,[cL g vg]⟩:=aK F;have blt:=aP F;have gc:=hg.cell;obtain ⟨f,m⟩:∃f,f=G.set b (ak (⟨8,0,[cL ⟨-1,g.add,g.c⟩ vg]⟩:bz)):=⟨_,rfl⟩;have k1:aL G f [b]:=by rw[m];exact lF
 have I1:Idl f:=by rw[m];refine h.r.fj.set ?_;show ([cL ⟨-1,g.add,g.c⟩ vg].all fun x=>x.all (bp _))=aq;rw[ais,j8 hg.bp];rfl
 have A:=h.apart hb b0 k1 I1;have B:=hg.aQ k1 (fun id y=>by simp;rintro rfl;exact a0 y);have b4:aI f b 0=ak ⟨8,0,[cL ⟨-1,g.add,g.c⟩ vg]⟩:=by rw[m];exact bn blt
 have g1:∀K,bk f b 0 K=K ⟨8,0,[cL ⟨-1,g.add,g.c⟩ vg]⟩:=aK b4;have S:∀K,bk f t 0 K=K ⟨11,0,[bY T e]⟩:=aK A.r.bF;have b5:=aP A.r.bF;have l1:ae f=ae G:=by rw[m,ah8]
 have gl:=A.r.aM.cell;have cl:=A.r.bh.cell;obtain ⟨j,q⟩:∃j:bz,j=⟨8,0,[cL ⟨-1,g.add,g.c⟩ vg]⟩:=⟨_,rfl⟩;have kp:aL f (f++[ak j]) []:=aL.app _ _ _;have C:TAt H t D (f++[ak j]) e T:=A.aQ kp (A.r.fj.app (by rw[q];show ([cL ⟨-1,g.add,g.c⟩ vg].all fun x=>x.all (bp _))=aq;rw[ais,j8 (eS B.bp aD)];rfl));have b7:∀l K,bk (f++l) t 0 K=K ⟨11,0,[bY T e]⟩:=fun l K=>aK (by rw[cJ b5];exact A.r.bF) K;have ⟨W,M,a1,a2,a3,a4,a5,a6,a7,a9,R⟩:=C.r.pushLine (g:=⟨-1,g.add,g.c⟩) b2 (B.aQ kp aO) hs;have O:∀K,j4 8 e.vl (.sl 8 (ae f) 0 0 1) (f++[ak j]) K=K W M:=fun K=>by rw[yJ (ys:=[cL ⟨-1,g.add,g.c⟩ vg]) (by simp[dW,ct,q])];exact a1 K
 have U:∀K,bk M t 0 K=K ⟨11,0,[bY T e]⟩:=aK a5;obtain ⟨D4,hx⟩:∃D4,D4={e with vl:=W,aV:=e.aV++[vg]}:=⟨_,rfl⟩;obtain ⟨s,p⟩:∃s,s=M.set t (ak (⟨11,0,[bY {T with aE:=T.aE++[⟨-1,g.add,g.c⟩]} {e with vl:=W,aV:=e.aV++[vg]}]⟩:bz)):=⟨_,rfl⟩;rw[<-p] at R;have nx:Nx (f++[ak j]) t e {T with aE:=T.aE++[⟨-1,g.add,g.c⟩]} .ba s:=⟨_,R,⟨by rw[p,ah8];exact a6.1,fun id i1 L w=>by rw[p,aS (fun he=>L (by rw[<-he];exact aki)),a6.2 id i1 (fun hm=>L (ajR _ (akq _ hm)))]⟩,fun id y=>by
  simp only[TbD.ids,aiz,aiE] at y ⊢;rcases y with y | y | y
  .exact .inl (.inl y)
  .exact .inl (.inr (.inl y))
  .rcases a7 id y with I | I
   .exact .inl (.inr (.inr I))
   .exact .inr aD⟩;have X:TAt H t D s {e with vl:=W,aV:=e.aV++[vg]} {T with aE:=T.aE++[⟨-1,g.add,g.c⟩]}:=by
  have ⟨D5,z1,z2,z3⟩:=nx;refine ⟨R,?_,fun id y=>?_⟩
  .have ⟨D6,z⟩:=C.nx (v := .ba) ⟨D5,z1,z2,z3⟩;exact z.k
  .simp only[TbD.ids,aiz,aiE] at y;rcases y with y | y | y
   .exact C.i id (by simp[TbD.ids,y])
   .exact C.i id (by simp[TbD.ids,y])
   .rcases a7 id y with I | I
    .exact C.i id (by simp[TbD.ids,I])
    .exact .inr (cn C.k.1)
 have V:∀K,bk s t 0 K=K ⟨11,0,[bY {T with aE:=T.aE++[⟨-1,g.add,g.c⟩]} {e with vl:=W,aV:=e.aV++[vg]}]⟩:=aK X.r.bF;have J:∀l K,bk (s++l) t 0 K=K ⟨11,0,[bY {T with aE:=T.aE++[⟨-1,g.add,g.c⟩]} {e with vl:=W,aV:=e.aV++[vg]}]⟩:=fun l K=>aK (by rw[cJ (aP X.r.bF)];exact X.r.bF) K;have Lc:=X.r.bh.fN;rw[ah3] at Lc;have N:∀K,gH e.vc K=K (.q0 ((w+1:Nat):Int)):=fun K=>by rw[Lc];show K (.q0 (ae T.bh:Int))=_;rw[hw]
 refine Y1 g0 ?_;rw[<-m];have E:∀K,j4 8 e.vl (.sl 8 (ae f) 0 0 1) (f++[ak ⟨8,0,[[.q0 (-1),.q0 (rv g.add.num),.v0 (rn g.add.num),rd g.add.num,.q0 (rv (g.add.den:Int)),.v0 (rn (g.add.den:Int)),rd (g.add.den:Int),vg]]⟩]) K=K W M:=fun K=>by rw[<-O K,q]
 simp only[go_sem,↓reduceIte,Nat.reduceLeDiff,ahZ,g1,S,bY,gc,E,a2,a3,U];rw[ain] at a9;have b6:∀(H:aF) o,((H.set t o).drop (ae H)).all (cg (ae H))=aq:=fun H o=>by rw[aih aO];rfl
 refine ⟨rfl,by rw[B.bp];rfl,a9,aD,?_⟩;simp only[bY] at p;rw[<-p];refine aH (nk 0 aR) rfl (bC _) ?_;have z1:((0:Int):Rat)=0:=rfl;rw[z1];simp only[go_sem,↓reduceIte,Nat.reduceLeDiff,ahZ,V,J,bY,N];have b3:=ok.mU.len;simp only[ain,aiY,aiF,aiV] at b3;have zc:∀n,(aA n z6).all (fun x=>x.all bT)=aq:=fun n=>by rw[ah4];intro x hx;rw[ai1 hx];rfl
 have t4:=aP X.r.bF;refine ⟨aD,by rw[fZ _ (zc _)];rfl,by rw[aih aO];rfl,?_⟩;refine YI X (w:=w) ⟨aO,fun id i1 L v=>by simp at L;rw[aS (ait L),cJ i1]⟩ ((X.r.fj.app (iI (zc _))).set ?_) (bn bW) (by rw[aS aD,ct]) hw ok bW b1 ?_ hr
 .rw[ain];show ([bY {T with aE:=T.aE++[⟨-1,g.add,g.c⟩],aM:=⟨-2,0,aA w 0++[1]⟩} {e with vl:=W,aV:=e.aV++[vg],vg := .sl 6 (ae s) 0 0 (w+1)}].all fun x=>x.all (bp (ae s+1)))=aq;rw[ais,wv (T:={T with aE:=T.aE++[⟨-1,g.add,g.c⟩],aM:=⟨-2,0,aA w 0++[1]⟩}) (D:={e with vl:=W,aV:=e.aV++[vg],vg := .sl 6 (ae s) 0 0 (w+1)}) (eS X.r.bh.bp aD) (eS X.r.aE.bp aD) (by simp[Fx.bp])];rfl
 .show ((af (T.aE++[(⟨-1,g.add,g.c⟩:Ln)]) a ah).c.getD w 0).num≠0;rw[show af (T.aE++[(⟨-1,g.add,g.c⟩:Ln)]) a ah=af T.aE a ah by simp[af,aic ha]];exact h0
def Ln.ex (l:Ln) (k:Rat):Ln:={l with c:=l.c++[k]}
def SlV.dW {H:aF} {k:Nat} {v:AV} {xs:List (List AV)} (h:SlV H k v xs):dW k H v=ak xs:=by
 cases h with
 | nil=>rfl
 | seq=>simp[Fx.dW]
 | sl x =>
  simp only[Fx.dW,x,aix];rw[ah1 aO];simp
def Xf {G:aF} {t i S b10 f:Nat} {D:TbD} {T:Tb} {l:Ln} {v x1 x5 o p q:AV} {k:Rat} {Q:cx} (h:TbR G t D T) (F:i < ae T.aE) (U:l=af T.aE i ah) (hv:v=af D.aV i .ba) (a0:ae l.c < 1000000)
  (m:aI G b10 0=ak ⟨8,0,[cL l v]⟩) (n:aI G f 0=ak ⟨6,0,[xC k]⟩)
  (hq:∀V X,TbR X t {D with aV:=D.aV.set i V} {T with aE:=T.aE.set i (l.ex k)}->aL G X (D.ids t)->(∀id,id∈aG V->ae G<=id) ->
   Q .normal [(0,.ptr t 0 0 0),(1,x1),(5,x5),(8,.ptr S 0 0 0),(93,o),(94,p),(95,q)] X) {er:Env} :
  WP prog 282 gY Q ((0,.ptr t 0 0 0)::(1,x1)::(5,x5)::(8,.ptr S 0 0 0)::(9,.q0 (i:Int))::(10,.ptr b10 0 0 0)::(11,.ptr f 0 0 0)::(93,o)::(94,p)::(95,q)::er) G:=by
 refine uz ?_;have e:=h.rws i F;rw[<-U,<-hv] at e;have a9:=aP m;have J:=aP n;have b0:=aP h.bF;have hd:∀H:aF,(H.drop (ae H)).all (cg (ae H))=aq:=fun H=>by rw[aiZ];rfl
 have hT:∀K,bk G t 0 K=K ⟨11,0,[bY T D]⟩:=aK h.bF;have L:∀K,bk G b10 0 K=K ⟨8,0,[cL l v]⟩:=aK m;have ⟨v1,W,a1,A,a3,a4,a5,a6,a7,a8⟩:=(Acc.sq (n0:=ae G) (H:=G) (k:=6) (xs:=[])).s6 (y:=v) (ys:=l.c.map xC) e.dW (ahZ _) bW (fZ _ (by rw[aiy];exact mL _));have s:aL G W []:=a3;have M:∀K,bk W f 0 K=K ⟨6,0,[xC k]⟩:=aK (by rw[s.2 _ J aO];exact n);have ⟨g,j,b1,R,b3,C,b4,b9,O,b5,b6,b7⟩:=A.s6 (y := .seq 6 aq [xC k]) (ys:=[xC k]) (by simp[Fx.dW]) s.1 bW (fZ _ (by rw[aiy,ajk,mL,ais,gR];rfl));have I:aL G j []:=s.grow b3 fun id z=>(A.ge id z).1;have B:∀K,bX 6 v1 [[.q0 (rv k.num),.v0 (rn k.num),rd k.num,.q0 (rv (k.den:Int)),.v0 (rn (k.den:Int)),rd (k.den:Int)]] W K=K g j:=fun K=>by rw[<-b1 K,zh];simp
 have h2:=h.aQ I (b4 (a5 h.fj));have g2:=R.ge;have sv:SlV j 6 g ((l.ex k).c.map xC):=by have:=R.cZ;rw[aiy] at this;rw[show (l.ex k).c.map xC=l.c.map xC++[xC k] by simp[Ln.ex]];exact this
 have sep:∀id,id∈aG g->id≠t/\id∉aG D.vc/\id∉aG D.vl:=fun id z=>by have:=(g2 id z).1;exact ⟨aD,fun b=>cn (h.bh.cV _ b),fun b=>cn (h.aE.cV _ b)⟩
 have ⟨a,ver,N,f1,f2,f3,h3⟩:=h2.setRow (l:=l.ex k) (v:=g) F sv sep;have gv:=e.cell;have r2:∀K,bk j a ver K=K ⟨8,ver,dO T.aE D.aV++N⟩:=aK f2;have e2:∀K,ElP (dO T.aE D.aV++N) (0+i) K=K (cL l v):=iu (by rw[aia,uJ h.cl F,<-U,<-hv]);have kk:aL G (j.set a (ak ⟨8,ver,(dO T.aE D.aV++N).set i (cL (l.ex k) g)⟩)) (D.ids t):=⟨by rw[ah8];exact I.1,fun id i1 i2 w=>by rw[aS (fun E=>i2 (by rw[<-E];exact ajR _ (akq _ f3))),I.2 id i1 aO]⟩;simp only[go_sem,↓reduceIte,ahZ,hT,bY,L,akj,a1,a4,M,B,b5,b6,f1,r2,e2];rw[aia];refine ⟨rfl,C,aD,⟨aD,aD,?_⟩,hq g _ h3 kk fun id z=>(g2 id z).1⟩;have g1:=A.ge;have dj:∀l:List Nat,t∉l->E8 l [t]:=fun l=>by
  induction l with
  | nil=>intro _;trivial
  | cons x r ih =>
   intro b;exact ⟨⟨fun E=>b (by rw[E];exact aki),trivial⟩,ih fun hh=>b (ajR _ hh)⟩
 refine dj _ fun b=>?_;unfold uL at b;split at b
 .have:=s.1;rw[akX] at b;omega
 .have:=(g1 t b).1;omega
def Tb.kx (T:Tb) (l:Ln):Rat:=if (T.n:Int)<=l.name then 1 else 0
def Tb.gK (T:Tb) (i:Nat):Tb:={T with aE:=(T.aE.take i).map (fun l=>l.ex (T.kx l))++T.aE.drop i}
def yv {T:Tb} {i:Nat} (h:i<=ae T.aE):(T.gK i).aE.length=ae T.aE:=by simp[Tb.gK];omega
def QO {T:Tb} {i:Nat} (h:i < ae T.aE):(T.gK i).aE.getD i ah=af T.aE i ah:=by simp only[Tb.gK,af];rw[aiC bW,ah3,aiG,aiQ aD,akO,ajS,alo]
def QQ {T:Tb} {i:Nat} (h:i < ae T.aE):{T.gK i with aE:=(T.gK i).aE.set i ((af T.aE i ah).ex (T.kx (af T.aE i ah)))}=T.gK (i+1):=by
 unfold Tb.gK;congr 1;have e:af T.aE i ah=T.aE[i]:=by simp[af,h]
 rw[e,ajy _ _ bW,ah3,aiG,aiQ aD,akO,ail h,akt,aiT h,aii];simp
def YG {G:aF} {t F:Nat} {S V:AV} {D:TbD} {T:Tb} {Q:cx} (h:TbR G t D T) (a4:ae T.aE < 1000000) (a3:∀i,i < ae T.aE->(af T.aE i ah).c.length < 1000000)
  (hq:∀D' b,TbR b t D' (T.gK (ae T.aE))->aL G b (D.ids t)->D'.vl=D.vl->D'.vc=D.vc->D'.vg=D.vg->(∀j,j < ae T.aE->∀id,id∈aG (af D'.aV j .ba)->id∈aG (af D.aV j .ba)\/ae G<=id) ->
   ∀B,WP prog 282 gX Q ((0,.ptr t 0 0 0)::(1,S)::(5,V)::(8,.ptr F 0 0 0)::B) b) {B:Env} :
  WP prog 282 kS Q ((0,.ptr t 0 0 0)::(1,S)::(5,V)::(8,.ptr F 0 0 0)::B) G:=by
 refine uz ?_;have a1:=aK h.bF;have Ll:=h.aE.fN;rw[show ae (dO T.aE D.aV)=ae T.aE by simp[h.cl]] at Ll;simp only[go_sem,↓reduceIte,a1,bY,Ll];refine aZ (fun n e b=>∃(i:Nat) (D':TbD),i<=ae T.aE/\n=ae T.aE - i/\D'.vl=D.vl/\D'.vc=D.vc/\D'.vg=D.vg/\TbR b t D' (T.gK i)/\aL G b (D.ids t) /\
   (∀j,j < ae T.aE->∀id,id∈aG (af D'.aV j .ba)->id∈aG (af D.aV j .ba)\/ae G<=id) /\
   e=[(0,.ptr t 0 0 0),(1,S),(5,V),(8,.ptr F 0 0 0),(93,D.vl),(94,.q0 (ae T.aE:Int)),(95,.q0 (i:Int))])
  ⟨0,D,aD,rfl,rfl,rfl,rfl,by simpa[Tb.gK] using h,aL.refl _ _,fun j _ id y => .inl y,rfl⟩ ?_;rintro n _ b ⟨i,D',hi,hn,r,A,U,s,C,H,rfl⟩;by_cases O:(i:Int) < (ae T.aE:Int)
 .have p:i < ae T.aE:=aD;have e1:=ws i;have z:i < (T.gK i).aE.length:=by rw[yv hi];exact p
  have W:=QO (T:=T) p;have ⟨a,ver,tl,X,y2,y3,y4⟩:=s.ln (fun h0=>by rw[h0] at z;simp at z);rw[yv hi,r] at X;have rE:=y4 i z;rw[W] at rE;have g:=s.rws i z;rw[W] at g;have N:=a3 i p;have J:=s.cl;rw[yv hi] at J;have R:=QQ (T:=T) p;have M:T.kx (af T.aE i ah)=if (T.n:Int)<=(af T.aE i ah).name then 1 else 0:=rfl;generalize a5:af T.aE i ah=l at *;generalize hv:af D'.aV i .ba=v at *;have vc:=g.cell;have I:∀l' K,bk (b++l') t 0 K=K ⟨11,0,[bY (T.gK i) D']⟩:=fun l' K=>aK (by rw[cJ (aP s.bF)];exact s.bF) K;have i1:Idl (b++[ak (⟨8,0,[cL l v]⟩:bz)]):=s.fj.app (by show ([cL l v].all fun x=>x.all (bp _))=aq;rw[ais,j8 (eS g.bp aD)];rfl);have fin:∀(k:Rat) (B:Env),k=T.kx l->WP prog 282 gY (fun x e E=>x = .normal/\e=[(0,.ptr t 0 0 0),(1,S),(5,V),(8,.ptr F 0 0 0),(93,D.vl),(94,.q0 (ae T.aE:Int)),(95,.q0 (i:Int))]/\∃m,m.vl=D.vl/\m.vc=D.vc/\m.vg=D.vg/\TbR E t m (T.gK (i+1))/\aL G E (D.ids t) /\
    ∀j,j < ae T.aE->∀id,id∈aG (af m.aV j .ba)->id∈aG (af D.aV j .ba)\/ae G<=id)
    ((0,.ptr t 0 0 0)::(1,S)::(5,V)::(8,.ptr F 0 0 0)::(9,.q0 (i:Int))::(10,.ptr (ae b) 0 0 0)::(11,.ptr (ae b+1) 0 0 0)::(93,D.vl)::(94,.q0 (ae T.aE:Int))::(95,.q0 (i:Int))::B) (b++[ak ⟨8,0,[cL l v]⟩,ak ⟨6,0,[xC k]⟩]):=fun k B hk=>by
   have i2:=i1.app (o:=ak (⟨6,0,[xC k]⟩:bz)) (iI (by rw[ais,gR];rfl));rw[aio] at i2;have a0:=s.aQ (aL.app b [ak (⟨8,0,[cL l v]⟩:bz),ak ⟨6,0,[xC k]⟩] []) i2;refine Xf a0 z (by rw[W]) hv.symm N ct (by rw[ij];rfl) fun v' E z1 z2 z3=>?_;have hd:D'.ids t=D.ids t:=by unfold TbD.ids;rw[r,A]
   rw[hd] at z2;rw[ain] at z3;refine ⟨rfl,rfl,{D' with aV:=D'.aV.set i v'},r,A,U,by rw[<-R,<-hk];exact z1,⟨?_,fun id q1 q2 w=>?_⟩,fun j hj id y=>?_⟩
   .have:=z2.1;rw[ain] at this;have:=C.1;omega
   .rw[z2.2 id (by rw[ain];have:=C.1;omega) q2,cJ (aiB q1 C.1),C.2 id q1 q2]
   .have y:=y;by_cases L:j=i
    .subst L;rw[eu aD] at y;have:=z3 id y;have:=C.1;exact .inr aD
    .rw[dN L] at y;exact H j hj id y
  refine Y5 O X y3 rE vc ?_;refine ⟨aD,aH (nk 0 aR) rfl (bC _) ?_⟩;have z1:((0:Int):Rat)=0:=rfl;have z2:((1:Int):Rat)=1:=rfl;rw[z1];by_cases q:(T.n:Int)<=l.name
  .refine Y ?_;refine uz ?_;have f:((T.gK i).n:Int)<=l.name:=q;simp only[go_sem,↓reduceIte,I,bY,f];refine aH (nk 1 aR) rfl (bC _) ?_;rw[z2];refine Y ?_;refine WP.use (fin 1 _ (by rw[M,ah1 q])) (by rw[X]) rfl ?_;rintro x e E ⟨rfl,rfl,m,w1,w2,w3,w4,w5,w6⟩;refine Y1 e1 ?_;exact ⟨ae T.aE - (i+1),aD,i+1,m,aD,rfl,w1.trans X,w2,w3,w4,w5,w6,by rw[X]⟩
  .refine Y ?_;refine uz ?_;have f:¬((T.gK i).n:Int)<=l.name:=q;simp only[go_sem,↓reduceIte,I,bY,f];refine WP.use (fin 0 _ (by rw[M,ah0 q])) (by rw[X]) rfl ?_;rintro x e E ⟨rfl,rfl,m,w1,w2,w3,w4,w5,w6⟩;refine Y1 e1 ?_;exact ⟨ae T.aE - (i+1),aD,i+1,m,aD,rfl,w1.trans X,w2,w3,w4,w5,w6,by rw[X]⟩
 .have a2:i=ae T.aE:=aD;subst a2;refine Y1 O ?_;exact hq D' b s C r A U H _
def Tb.ext (T:Tb) (nm:Int):Tb:={n:=T.n,bh:=T.bh++[nm],aE:=(T.aE.map fun l=>l.ex (T.kx l))++[⟨-1,T.aM.add,T.aM.c++[0]⟩],aM:=⟨-2,0,aA (ae T.bh) 0++[1]⟩}
def BS (h:∀K,j4 k v (.seq k aq [y]) H K=K x H') (K:AV->aF->Prop):bX k v [y] H K=K x H':=by rw[<-h K,zh];simp
def YF (h:TAt H t D G j T) (M:eJ T) (e7:eJ (T.ext nm)) (ha:a < ae T.aE) (I:(T.n:Int)<=T.fU a) (d9:ji ((T.ext nm).jn a (ae T.bh))) (hr:FeG nm a (ae T.bh) (T.ext nm) T' r) :
  WP prog 282 kR (iZ [.t 4] (FeX H t D T' r)) ((0,.ptr t 0 0 0)::(1,.q0 nm)::(5,.q0 (a:Int))::er) G:=by
 refine uz ?_;have hT:=aK h.r.bF;have f2:=aP h.r.bF;have gv:=h.r.aM.cell;have gl:=M.mU.len;have O:=M.cl;obtain ⟨C,m⟩:∃C,C=G++[ak (⟨8,0,[cL T.aM j.vg]⟩:bz)]:=⟨_,rfl⟩;have k1:aL G C []:=by rw[m];exact aL.app _ _ _
 have l1:ae C=ae G+1:=by rw[m];simp
 have h1:=h.aQ k1 (by rw[m];refine h.r.fj.app ?_;show ([cL T.aM j.vg].all fun x=>x.all (bp _))=aq;rw[ais,j8 (eS h.r.aM.bp aD)];rfl);have o1:aI C (ae G) 0=ak ⟨8,0,[cL T.aM j.vg]⟩:=by rw[m];exact ct
 have r1:=aK o1;have ⟨v1,H1,a1,a2,a3,a4,a5,a6,a7,a8⟩:=(Acc.sq (n0:=ae C) (H:=C) (k:=6) (xs:=[])).s6 (y:=j.vg) (ys:=T.aM.c.map xC) h1.r.aM.dW (ahZ _) bW (fZ _ (by rw[aiy];exact mL _));have S:=a3;have ⟨B,E,b1,b2,b3,b4,b5,b6,b7,b8⟩:=a2.s6 (y := .seq 6 aq [xC 0]) (ys:=[xC 0]) (by simp[Fx.dW]) S.1 bW (fZ _ (by rw[aiy,ajk,mL,ais,gR];rfl));have k2:=S.grow b3 fun f z=>(a2.ge f z).1;have h2:=h1.aQ k2 (b5 (a5 h1.r.fj));have o2:aI E (ae G) 0=ak ⟨8,0,[cL T.aM j.vg]⟩:=by rw[k2.2 _ aD aO];exact o1
 have r2:=aK o2;have l2:=k2.1;have g2:=b2.ge;obtain ⟨s,o⟩:∃s,s=E.set (ae G) (ak (⟨8,0,[cL (T.aM.ex 0) B]⟩:bz)):=⟨_,rfl⟩;have k3:aL E s [ae G]:=by rw[o];exact lF
 have l3:ae s=ae E:=by rw[o,ah8]
 have ap:Iy t j (ae T.aE) (ae G):=⟨aD,fun b=>cn (h.r.bh.cV _ b),fun b=>cn (h.r.aE.cV _ b),fun i X b=>cn ((h.r.rws i X).cV _ b),fun b=>cn (h.r.aM.cV _ b)⟩;have a9:SlV E 6 B ((T.aM.ex 0).c.map xC):=by have:=b2.cZ;rw[aiy] at this;rw[show (T.aM.ex 0).c.map xC=T.aM.c.map xC++[xC 0] by simp[Ln.ex]];exact this
 have v:=h2.apart ap h.k.1 k3 (by rw[o];refine h2.r.fj.set ?_;show ([cL (T.aM.ex 0) B].all fun x=>x.all (bp _))=aq;rw[ais,j8 a9.bp];rfl);have e8:=a9.aQ k3 (fun f z=>by have:=(g2 f z).1;simp;omega);have o3:aI s (ae G) 0=ak ⟨8,0,[cL (T.aM.ex 0) B]⟩:=by rw[o];exact bn aD
 have c0:=aK v.r.bF;have ⟨u1,H4,c1,c2,c3,c4,c5,c6,c7,c8⟩:=(Acc.sq (n0:=ae s) (H:=s) (k:=1) (xs:=[])).s6 (y:=j.vc) (ys:=br T.bh) v.r.bh.dW (ahZ _) bW (fZ _ (by rw[aiy];exact gV _));have U:=c3;have ⟨u2,N,d1,d2,d3,d4,d5,d6,d7,d8⟩:=c2.s6 (y := .seq 1 aq [cN nm]) (ys:=[cN nm]) (by simp[Fx.dW]) U.1 bW (fZ _ (by rw[aiy,ajk,gV,ais];rfl));have k5:=U.grow d3 fun f z=>(c2.ge f z).1;have h5:=v.aQ k5 (d5 (c5 v.r.fj));have c9:=aK h5.r.bF;have l:=d2.ge;have su:SlV N 1 u2 (br (T.bh++[nm])):=by have:=d2.cZ;rw[aiy] at this;rw[show br (T.bh++[nm])=br T.bh++[cN nm] by simp[br]];exact this
 have a0:=h5.r.PT su (fun _=>d6 (c6 fun h=>absurd rfl h) aO) (fun f z=>by
  have g:=(l f z).1;refine ⟨aD,fun b=>?_,fun b=>?_,fun i X b=>?_⟩
  .have:=v.r.aE.cV f b;omega
  .have:=v.r.aM.cV f b;omega
  .have:=(v.r.rws i X).cV f b;omega);obtain ⟨G6,p⟩:∃G6,G6=N.set t (ak (⟨11,0,[bY {T with bh:=T.bh++[nm]} {j with vc:=u2}]⟩:bz)):=⟨_,rfl⟩;rw[<-p] at a0;have e0:aL N G6 [t]:=by rw[p];exact lF
 have l5:=k5.1;have l6:ae G6=ae N:=by rw[p,ah8]
 have b9:∀K,bX 1 u1 [[.q0 nm]] H4 K=K u2 N:=fun K=>BS d1 K;have b0:∀K,bX 6 v1 [[.q0 (rv (Rat.num 0)),.v0 (rn (Rat.num 0)),rd (Rat.num 0),.q0 (rv ((Rat.den 0:Nat):Int)),.v0 (rn ((Rat.den 0:Nat):Int)),rd ((Rat.den 0:Nat):Int)]] H1 K=K B E:=fun K=>BS b1 K;simp only[go_sem,↓reduceIte,ahZ,hT,bY,gv];have A:=m;simp only[cL] at A;rw[<-A];refine Y1 a1 ?_;refine aH (nk 0 aR) rfl (bC _) ?_;have z1:((0:Int):Rat)=0:=rfl;rw[z1];refine Y3 b0 b8 r2 ?_;have R:E.set (ae G) (ak (⟨8,0,[[.q0 T.aM.name,.q0 (rv T.aM.add.num),.v0 (rn T.aM.add.num),rd T.aM.add.num,.q0 (rv (T.aM.add.den:Int)),.v0 (rn (T.aM.add.den:Int)),rd (T.aM.add.den:Int),B]]⟩:bz))=s:=o.symm;rw[R];simp only[go_sem,↓reduceIte,Nat.reduceLeDiff,c0,bY,c1,b9,d8,c9];simp only[bY] at p;rw[<-p];refine ⟨rfl,?_⟩;have k6:=(k5.mono aO).trans e0;refine YG (T:={T with bh:=T.bh++[nm]}) a0 M.ll (fun i X=>(M.nu i X).1.len) fun D7 G7 e1 e2 e3 e4 e5 e6 er=>?_;have nD:∀f,f < ae s->f≠t->f∉aG j.vl->f∉({j with vc:=u2}:TbD).ids t:=fun f V W q3 b=>by
  simp only[TbD.ids,aiz,aiE] at b;rcases b with b | b | b
  .exact W b
  .have:=(l f b).1;omega
  .exact q3 b
 have F:aL s G7 (t::aG j.vl):=⟨cn e2.1,fun f V W w=>by simp only[aiz,alJ] at W;rw[e2.2 f aD (nD f V W.1 W.2),k6.2 f V (by simp;exact W.1)]⟩;have f1:=e2.1;have nl:∀f,ae G<=f->f∉aG j.vl:=fun f q b=>cn (h.r.aE.cV _ b);have h7:TAt H t D G7 D7 (Tb.gK {T with bh:=T.bh++[nm]} (ae T.aE)):=by
  refine ⟨e1,⟨cn v.k.1,fun f V W w=>?_⟩,fun f z=>?_⟩
  .have b:f∉j.ids t:=fun b=>(h.i f b).elim W (fun hh=>aD);simp only[TbD.ids,aiz,aiE,alJ] at b;have:=v.k.1;rw[F.2 f aD (by simp only[aiz,alJ];exact ⟨b.1,b.2.2⟩),v.k.2 f V W]
  .simp only[TbD.ids,aiz,aiE,e3,e4] at z;have f0:=h.k.1;rcases z with z | z | z
   .exact h.i f (by simp[TbD.ids,z])
   .have:=(l f z).1;exact .inr aD
   .exact h.i f (by simp[TbD.ids,z])
 have o7:aI G7 (ae G) 0=ak ⟨8,0,[cL (T.aM.ex 0) B]⟩:=by rw[F.2 _ aD (by simp only[aiz,alJ];exact ⟨aD,nl _ (ahZ _)⟩)];exact o3
 have e9:SlV G7 6 B ((T.aM.ex 0).c.map xC):=e8.aQ F (fun f z=>by have:=(g2 f z).1;simp only[aiz,alJ];exact ⟨aD,nl _ aD⟩);have L:(Tb.gK {T with bh:=T.bh++[nm]} (ae T.aE)).aE.length=ae T.aE:=yv (T:={T with bh:=T.bh++[nm]}) (ahZ _);have J:{Tb.gK {T with bh:=T.bh++[nm]} (ae T.aE) with aE:=(Tb.gK {T with bh:=T.bh++[nm]} (ae T.aE)).aE++[⟨-1,(T.aM.ex 0).add,(T.aM.ex 0).c⟩],aM:=⟨-2,0,aA (ae T.bh) 0++[1]⟩}=T.ext nm:=by unfold Tb.gK Tb.ext Ln.ex Tb.kx;simp
 have d0:(Tb.gK {T with bh:=T.bh++[nm]} (ae T.aE)).aE.getD a ah=(af T.aE a ah).ex 1:=by
  unfold Tb.gK;have e:af T.aE a ah=T.aE[a]:=by simp[af,ha]
  unfold Tb.fU at I;rw[e] at I ⊢;simp[af,ha,Tb.kx,I]
 refine YH (w:=ae T.bh) h7 o7 ?_ h.k.1 (fun b=>cn ((g2 _ b).1)) e9 (fun f z=>?_) (by rw[L];exact M.ll) (by show ae (T.bh++[nm])=_;simp) (by rw[J];exact e7) (by rw[L];exact ha) (by rw[J];exact d9) ?_ (by rw[J];exact hr)
 .refine ⟨aD,by rw[e4];exact fun b=>cn ((l _ b).1),by rw[e3];exact nl _ (ahZ _),fun i X b=>?_,by rw[e5];exact ap.g⟩;rw[L] at X;rcases e6 i X _ b with h8 | h8
  .exact ap.r i X h8
  .omega
 .have g:=g2 f z;rw[e3,e4];exact ⟨aD,fun b=>cn ((l _ b).1),nl _ aD⟩
 .rw[d0];show (af ((af T.aE a ah).c++[1]) (ae T.bh) 0).num≠0;have:ae T.bh=(af T.aE a ah).c.length:=by rw[(M.nu a ha).2,O]
  rw[this];simp[af]
def Tb.yU (T:Tb) (k:Int) (i:Nat):Int :=
 if (T.n:Int)<=T.fU i/\(af T.aE i ah).add.num.sign < 0/\(k < 0\/((af T.aE i ah).add - (af T.aE (az k) ah).add).num.sign < 0) then (i:Int) else k
def Tb.kE (T:Tb):Nat->Int
 | 0 => -1
 | i+1=>T.yU (T.kE i) i
def Tb.Qf (T:Tb):Int:=T.kE (ae T.aE)
def GV {T:Tb}:∀i,-1<=T.kE i/\T.kE i < (i:Int)/\(0<=T.kE i->(T.n:Int)<=T.fU (az (T.kE i)))
 | 0=>by simp[Tb.kE]
 | i+1=>by
  have:=GV (T:=T) i;simp only[Tb.kE,Tb.yU];split
  .rename_i h;exact ⟨aD,aD,fun _=>by rw[ah9];exact h.1⟩
  .exact ⟨this.1,aD,this.2.2⟩
inductive FeR (nm:Int) (T:Tb):Tb->Bool->Prop
 | Ko:eJ T->T.Qf < 0->FeR nm T T true
 | go {a:Nat} {T':Tb} {r:Bool}:eJ T->T.Qf=(a:Int)->eJ (T.ext nm)->ji ((T.ext nm).jn a T.bh.length)->FeG nm a T.bh.length (T.ext nm) T' r->FeR nm T T' r
def FeR.ok (h:FeR x T k r):eJ T:=by cases h<;>assumption
def YE {H G:aF} {t:Nat} {e:Int} {D g:TbD} {T b:Tb} {r:Bool} (h:TAt H t D G g T) (l:FeR e T b r) {i:Env} :
  WP prog 282 kQ (iZ [.t 4] (FeX H t D b r)) ((0,.ptr t 0 0 0)::(1,.q0 e)::(5,.q0 T.Qf)::i) G:=by
 refine uz ?_;cases l with
 | Ko f y =>
  refine Z1 y ?_;exact ⟨rfl,h.k,fun _=>h.done⟩
 | @go a _ _ f y w z j =>
  have x:¬(a:Int) < 0:=aD;have c:=GV (T:=T) (ae T.aE);rw[show T.kE (ae T.aE)=(a:Int) from y] at c;rw[y];refine Z1 x ?_;exact YF h f w aD (by have:=c.2.2 aD;rw[ah9] at this;exact this) z j
def IX {H:aF} {t:Nat} {E:Int} {D:TbD} {T T':Tb} {r:Bool} (h:TbR H t D T) (hr:FeR E T T' r) :
  cR prog 104 [.ptr t 0 0 0,.q0 E] H (FeX H t D T' r):=by
 refine qc func104 tX ?_;refine uz ?_;have ok:=hr.ok;have a0:=ok.ll;have O:=aK h.bF;have V:=h.aE.fN;rw[show ae (dO T.aE D.aV)=ae T.aE by simp[h.cl]] at V;simp only[go_sem,↓reduceIte,O,bY,V];refine aZ (fun n e G=>∃i:Nat,i<=ae T.aE/\n=ae T.aE - i/\TAt H t D G D T /\
   e=[(0,.ptr t 0 0 0),(1,.q0 E),(5,.q0 (T.kE i)),(24,D.vl),(25,.q0 (ae T.aE:Int)),(26,.q0 (i:Int))])
  ⟨0,aD,rfl,TAt.refl h,rfl⟩ ?_;rintro n _ G ⟨i,hi,hn,g,rfl⟩;by_cases o:(i:Int) < (ae T.aE:Int)
 .have y:i < ae T.aE:=aD;have X:=ws i;have ⟨a,ver,tl,U,y2,y3,y4⟩:=g.r.ln (fun h0=>by rw[h0] at y;simp at y);have rE:=y4 i y;have f:=g.r.rws i y;have S:=(ok.nu i y).1;have j:∀l' K,bk (G++l') t 0 K=K ⟨11,0,[bY T D]⟩:=fun l' K=>aK (by rw[cJ (aP g.r.bF)];exact g.r.bF) K;have A:T.kE (i+1)=T.yU (T.kE i) i:=rfl;have b:∀k,T.yU k i=if (T.n:Int)<=(af T.aE i ah).name/\(af T.aE i ah).add.num.sign < 0/\(k < 0\/((af T.aE i ah).add - (af T.aE (az k) ah).add).num.sign < 0) then (i:Int) else k:=fun _=>rfl;have hb:=GV (T:=T) i;generalize a1:af T.aE i ah=l at *;generalize hv:af D.aV i .ba=v at *;generalize hk:T.kE i=k at *;have vc:=f.cell;have N:=g.aQ (aL.app G [ak (⟨8,0,[cL l v]⟩:bz)] []) (g.r.fj.app (by show ([cL l v].all fun x=>x.all (bp _))=aq;rw[ais,j8 (eS f.bp aD)];rfl));have w:∀z,z=T.kE (i+1)->∃m,m < n/\∃J:Nat,J<=ae T.aE/\m=ae T.aE - J/\TAt H t D (G++[ak (⟨8,0,[cL l v]⟩:bz)]) D T /\
    ([(0,.ptr t 0 0 0),(1,.q0 E),(5,.q0 z),(24,.sl 8 a ver 0 (ae T.aE)),(25,.q0 (ae T.aE:Int)),(26,.q0 ((i+1:Nat):Int))]:Env) =
     [(0,.ptr t 0 0 0),(1,.q0 E),(5,.q0 (T.kE J)),(24,.sl 8 a ver 0 (ae T.aE)),(25,.q0 (ae T.aE:Int)),(26,.q0 (J:Int))]:=fun z hz=>by subst hz;exact ⟨ae T.aE - (i+1),aD,i+1,aD,rfl,N,rfl⟩
  by_cases W:(T.n:Int)<=l.name
  .simp only[go_sem,↓reduceIte,Nat.reduceLeDiff,ahZ,o,U,y3,rE,vc,j,bY,W];refine ⟨aD,aH (ot _) (by simp[bC]) rfl ?_⟩;by_cases s:l.add.num.sign < 0
   .by_cases F:k < 0
    .refine Y3 s F X ?_;exact w _ (by rw[A,b,ah1 ⟨W,s,.inl F⟩])
    .obtain ⟨q,rfl⟩:∃q:Nat,k=(q:Int):=⟨az k,aD⟩;have p:=b (q:Int);rw[ah9] at p;have c:q < ae T.aE:=aD;have rk:=y4 q c;have C:=(ok.nu q c).1;have a2:∀K,bk (G++[ak (⟨8,0,[cL l v]⟩:bz)]) a ver K=K ⟨8,ver,dO T.aE D.aV++tl⟩:=fun K=>y2 _ K;have M:=aie F;have L:=aiq s;simp only[go_sem,↓reduceIte,Nat.reduceLeDiff,L,M,j,bY,U,y2,rk,ajH,ajI];refine ⟨aD,aH (J6 _ _ (S.add.mono aR) (C.add.mono aR)) (by show (bJ (xA _)&&(bJ (xA _)&&aq))=aq;rw[bC,bC];rfl) rfl ?_⟩;by_cases I:(l.add - (af T.aE q ah).add).num.sign < 0
     .refine Z2 I X ?_;exact w _ (by rw[A,p,ah1 ⟨W,s,.inr I⟩])
     .refine Z2 I X ?_;exact w _ (by rw[A,p,ah0 (fun B=>B.2.2.elim F I)])
   .refine Z2 s X ?_;exact w _ (by rw[A,b,ah0 (fun B=>s B.2.1)])
  .simp only[go_sem,↓reduceIte,ahZ,o,U,y3,rE,vc,j,bY,W,X,ah5];exact ⟨aD,w _ (by rw[A,b,ah0 (fun B=>W B.1)])⟩
 .have R:i=ae T.aE:=aD;subst R;refine Y1 o ?_;exact YE g hr
def TbR.Xz (h:TbR H t D T) (b:aL H G (t::aG D.vc)) (f:Idl G) (bF:aI G t 0=ak ⟨11,0,[bY {T with bh:=cs} {D with vc:=v}]⟩) (hv:SlV G 1 v (br cs)) (g:cs≠[]->kP v)
  (z:∀id,id∈aG v->id≠t/\id∉aG D.vl/\id∉aG D.vg/\∀i,i < ae T.aE->id∉aG (af D.aV i .ba)):TbR G t {D with vc:=v} {T with bh:=cs}:=by
 have w:∀{id},id≠t->id∉aG D.vc->id∉t::aG D.vc:=fun c e y=>by
  rcases aiz.1 y with a | a
  .exact c a
  .exact e a
 refine ⟨f,bF,hv,g,h.aE.aQ b (fun id k=>w (h.pZ id (.inr k)) (fun y=>h.B6 id y k)),h.qG,h.gr,h.cl,fun j x=>(h.rws j x).aQ b (fun id k=>w (h.ke j x id k).1 (h.ke j x id k).2.1),h.aM.aQ b (fun id k=>w (h.mE id k).1 (h.mE id k).2.1),?_,?_,?_,?_⟩
 .rintro id (k | k)
  .exact (z id k).1
  .exact h.pZ id (.inr k)
 .exact fun id k=>(z id k).2.1
 .exact fun j x id k=>⟨(h.ke j x id k).1,fun y=>(z id y).2.2.2 j x k,(h.ke j x id k).2.2⟩
 .exact fun id k=>⟨(h.mE id k).1,fun y=>(z id y).2.2.1 k,(h.mE id k).2.2⟩
def Acc.acF {n0 k:Nat} {H H':aF} {v a:AV} {xs:List (List AV)} {y:List AV} (h:Acc n0 H k v xs) (i:ae xs < 4000000000) (b:∀K,bX k v [y] H K=K a H'):∀id,id∈aG a->id∈aG v\/ae H<=id:=by
 intro id x;have e:=b (fun v _=>v=a);cases h with
 | nil =>
  rw[vD] at e;have z:=(e.mpr rfl).2;rw[<-z] at x;simp[aG] at x;omega
 | sq =>
  have w:=e.mpr rfl;unfold bX at w;have c:il k H (.seq k aq xs) [y]=ak (.sl k (ae H) 0 0 (ae xs+1),H++[ak ⟨k,0,xs++[y]⟩]):=by show (if k=k/\ae xs+1<=4294967296 then _ else an)=_;rw[ah1 ⟨rfl,aD⟩];rfl
  rw[c] at w;have z:=w;rw[<-z] at x;simp[aG] at x;omega
 | sl g f =>
  rw[oM f aO] at e;have z:=(e.mpr rfl).2.2;rw[<-z] at x;simp[aG] at x ⊢;exact .inl x
def TbR.XC (h:TbR H t D T) (X:Acc n0 H 1 D.vc (br T.bh)) (C:t < n0) (B:n0<=ae H) (J:ae T.bh < 1000000) :
  ∃k H',(∀K,bX 1 D.vc [cN z] H K=K k H')/\bB k=aq/\k.cells=[k]/\dA k=aq/\aI H' t 0=ak ⟨11,0,[bY T D]⟩/\aL H H' (aG D.vc)/\(∀id,id∈aG k->id∈aG D.vc\/ae H<=id) /\
   Acc n0 (H'.set t (ak ⟨11,0,[bY {T with bh:=T.bh++[z]} {D with vc:=k}]⟩)) 1 k (br (T.bh++[z])) /\
   TbR (H'.set t (ak ⟨11,0,[bY {T with bh:=T.bh++[z]} {D with vc:=k}]⟩)) t {D with vc:=k} {T with bh:=T.bh++[z]}:=by
 have ⟨k,H',s,j,c,F,W,A,G,l⟩:=X.s6 (y := .seq 1 aq [cN z]) (ys:=[cN z]) (by simp[Fx.dW]) B bW (fZ _ (by rw[ajk,gV,ais];rfl));have m:br (T.bh++[z])=br T.bh++[cN z]:=by simp[br]
 rw[<-m] at j;have g:=aP h.bF;have q:=fun a=>h.pZ t (.inl a) rfl;have g2:=j.ge;have E:aI H' t 0=ak ⟨11,0,[bY T D]⟩:=by rw[c.2 t g q];exact h.bF
 have ids:=Acc.acF X bW (BS s);have r:=j.hZ (b:=t) (o:=ak ⟨11,0,[bY {T with bh:=T.bh++[z]} {D with vc:=k}]⟩) C;refine ⟨k,H',fun K=>BS s K,l.1,l.2.1,l.2.2,E,c,ids,r,h.Xz ?_ ((W h.fj).set ?_) (bn (aiB g c.1)) r.cZ (fun _=>A (fun p=>h.wL (by simpa[br] using p)) aO) fun id f=>?_⟩
 .refine ⟨by rw[ah8];exact c.1,fun id e v w=>?_⟩;rw[aS (fun m=>v (by rw[<-m];exact aki)),c.2 id e (fun a=>v (ajR _ a))]
 .show ([bY {T with bh:=T.bh++[z]} {D with vc:=k}].all fun x=>x.all (bp (ae H')))=aq;rw[ais,wv (T:={T with bh:=T.bh++[z]}) (D:={D with vc:=k}) j.cZ.bp (eS h.aE.bp c.1) (eS h.aM.bp c.1)];rfl
 .have I:=g2 id f;rcases ids id f with e | e
  .exact ⟨aD,h.B6 id e,fun a=>(h.mE id a).2.1 e,fun i n a=>(h.ke i n id a).2.1 e⟩
  .exact ⟨aD,fun a=>cn (h.aE.cV _ a),fun a=>cn (h.aM.cV _ a),fun i n a=>cn ((h.rws i n).cV _ a)⟩
def Acc.Wl {G:aF} {n0:Nat} {v:AV} {xs:List (List AV)} {a:Value} {l:List AV} (h:Acc n0 G 6 v xs) (i:xs.all (fun x=>x.all bT)=aq) (y:l.all bT=aq):Fin 0 (.bM [.c a,.agg l,v]) G (.bM [.c a,.agg l,.seq 6 ar xs]) []:=by
 have z:l.all (bp 0)=aq:=by rw[ah4] at y ⊢;exact fun x m=>tI (y x m) 0
 have w:∀u:AV,qF 0 u=aq->jO 0 (.bM [.c a,.agg l,u])=aq:=fun u j=>by show (aq&&(l.all (bp 0)&&(qF 0 u&&aq)))=aq;rw[z,j];rfl
 cases h with
 | nil=>exact A0 (.cons (.refl _) (.cons (.refl _) (.cons (.Dz 6) .nil))) (w _ rfl)
 | sq=>exact A0 (.cons (.refl _) (.cons (.refl _) (.cons (.full 6 xs) .nil))) (w _ rfl)
 | sl n f =>
  rename_i k ver;refine pD f i ?_;have b:l.map (fm k ver 6 xs)=l:=by rw[ah4] at y;exact (ajh fun a g=>Gs (y a g)).trans (amU _)
  have e:dD k ver 6 xs (.bM [.c a,.agg l,.sl 6 k ver 0 (ae xs)]) = .bM [.c a,.agg l,.seq 6 ar xs]:=by simp[dD,qB,fm,b]
  show Fin 0 (dD k ver 6 xs (.bM [.c a,.agg l,.sl 6 k ver 0 (ae xs)])) _ _ _;rw[e];exact jK (w _ rfl)
def Tb.vA (T:Tb):Nat->List Rat
 | 0=>aA T.n 0
 | i+1=>if T.fU i < (T.n:Int) then (T.vA i).set (az (T.fU i)) (af T.aE i ah).add else T.vA i
def Tb.xs (T:Tb):List Rat:=T.vA (ae T.aE)
def KS {T:Tb}:∀i,ae (T.vA i)=T.n
 | 0=>by simp[Tb.vA]
 | i+1=>by
  unfold Tb.vA;split
  .rw[ah8];exact KS i
  .exact KS i
def Acc.aa9 {n0 i:Nat} {H:aF} {u:AV} {xs:List (List AV)} (h:Acc n0 H 6 u xs) (w:kP u) (a:i < ae xs) :
  ∃id ver,u = .sl 6 id ver 0 (ae xs)/\n0<=id/\aI H id ver=ak ⟨6,ver,xs⟩/\∀y,Acc n0 (H.set id (ak ⟨6,ver,xs.set i y⟩)) 6 u (xs.set i y):=by
 cases h with
 | nil=>exact w.elim
 | sq=>exact w.elim
 | sl x z =>
  rename_i id ver;refine ⟨id,ver,rfl,x,z,fun y=>?_⟩;have:=Acc.sl (n0:=n0) (H:=H.set id (ak ⟨6,ver,xs.set i y⟩)) (k:=6) (xs:=xs.set i y) x (bn (aP z))
  rwa [ah8] at this
abbrev xV (T0:Tb) (D0:TbD):aF:=[ak ⟨6,0,[z6]⟩,ak ⟨11,0,[bY T0 D0]⟩]
def Zr {c T:Tb} {y D:TbD} {G:aF} {n0:Nat} {u:AV} {kind:Int} {j:AV} {e:Env} (h:TAt (xV c y) 1 y G D T) (g:y.ids 1=[1]) (w:Acc n0 G 6 u (T.xs.map xC)) (m:2<=n0) :
  WP prog 119 nS (jh [.t 6,.cell 7 aq 6,.t 8] 0 (.bM [.q0 kind,xA T.aM.add,.seq 6 ar (T.xs.map xC)]) []) ((0,j)::(6,.q0 kind)::(7,.ptr 0 0 0 0)::(8,u)::(9,.ptr 1 0 0 0)::e) G:=by
 refine uz ?_;have f:=aK h.r.bF;have z:aI G 0 0=ak ⟨6,0,[z6]⟩:=by rw[h.k.2 0 aO (by rw[g];simp)];rfl
 have i:=aK z;have n:∀xs K,bk (G.set 0 (ak ⟨6,0,xs⟩)) 0 0 K=K ⟨6,0,xs⟩:=fun xs K=>aK (bn (aP z)) K;have l:=w.cell;simp only[go_sem,↓reduceIte,Nat.reduceLeDiff,ahZ,f,bY,i];have fin:=(w.hZ (b:=0) (o:=ak ⟨6,0,[xC T.aM.add]⟩) aD).Wl (a := .int .i64 kind) (mL _) (gR T.aM.add);have x:ng [(6,.q0 kind),(7,.ptr 0 0 0 0),(8,u)] (G.set 0 (ak ⟨6,0,[xC T.aM.add]⟩)) [.t 6,.cell 7 aq 6,.t 8]=ak [.q0 kind,.agg (xC T.aM.add),u]:=by simp[ng,DP,lk,bn (aP z),gC]
 unfold xN;show bO (ng [(6,.q0 kind),(7,.ptr 0 0 0 0),(8,u)] (G.set 0 (ak ⟨6,0,[xC T.aM.add]⟩)) [.t 6,.cell 7 aq 6,.t 8]) _;rw[x];exact fin
def Zq {U T:Tb} {q D:TbD} {G:aF} {n0 n:Nat} {u:AV} {kind:Int} {er:Env} (h:TAt (xV U q) 1 q G D T) (hd:q.ids 1=[1]) (X:Acc n0 G 6 u ((T.vA 0).map xC)) (hs:0 < T.n->kP u) (L:2<=n0) (c:∀id,id∈D.ids 1->id < n0) (hr:∀i,i < ae T.aE->∀id,id∈aG (af D.aV i .ba)->id < n0) (hg:∀id,id∈aG D.vg->id < n0)
  (a0:ae T.aE < 1000000) (hn:T.n=n) (M:∀i,i < ae T.aE->0<=T.fU i) :
  WP prog 119 nR (jh [.t 6,.cell 7 aq 6,.t 8] 0 (.bM [.q0 kind,xA T.aM.add,.seq 6 ar (T.xs.map xC)]) []) ((0,.q0 (n:Int))::(6,.q0 kind)::(7,.ptr 0 0 0 0)::(8,u)::(9,.ptr 1 0 0 0)::er) G:=by
 refine uz ?_;have I:=aK h.r.bF;have S:=h.r.aE.fN;rw[show ae (dO T.aE D.aV)=ae T.aE by simp[h.r.cl]] at S;simp only[go_sem,↓reduceIte,I,bY,S];refine aZ (fun m e w=>∃i:Nat,i<=ae T.aE/\m=ae T.aE - i/\TAt (xV U q) 1 q w D T/\Acc n0 w 6 u ((T.vA i).map xC) /\
   e=[(0,.q0 (n:Int)),(6,.q0 kind),(7,.ptr 0 0 0 0),(8,u),(9,.ptr 1 0 0 0),(95,D.vl),(96,.q0 (ae T.aE:Int)),(97,.q0 (i:Int))])
  ⟨0,aD,rfl,h,X,rfl⟩ ?_;rintro m _ w ⟨i,hi,b,A,X,rfl⟩;by_cases p:(i:Int) < (ae T.aE:Int)
 .have y:i < ae T.aE:=aD;have V:=ws i;have ⟨a,ver,tl,y1,y2,y3,y4⟩:=A.r.ln (fun h0=>by rw[h0] at y;simp at y);have rE:=y4 i y;have f:=A.r.rws i y;have H:=M i y;have O:=KS (T:=T) i;have E:T.vA (i+1)=if T.fU i < (T.n:Int) then (T.vA i).set (az (T.fU i)) (af T.aE i ah).add else T.vA i:=rfl;have B:T.fU i=(af T.aE i ah).name:=rfl;generalize a1:af T.aE i ah=l at *;generalize hv:af D.aV i .ba=v at *;have vc:=f.cell;have o:=A.aQ (aL.app w [ak (⟨8,0,[cL l v]⟩:bz)] []) (A.r.fj.app (by show ([cL l v].all fun x=>x.all (bp _))=aq;rw[ais,j8 (eS f.bp aD)];rfl));have W:=X.aQ (aL.app w [ak (⟨8,0,[cL l v]⟩:bz)] []) aO;have cu:=X.cell;rw[B] at H E;have ⟨F,s,cc⟩:=l;simp only at H E;by_cases h1:F < (T.n:Int)
  .have N:=hs aD;obtain ⟨k,rfl⟩:∃k:Nat,F=(k:Int):=⟨az F,aD⟩;have ⟨id,uv,R,z2,z3,z4⟩:=W.aa9 (i:=k) N bW;rw[ah3,O,hn] at R;have rU:=aK z3;have eU:∀K,ElP ((T.vA i).map xC) (0+k) K=K (xC (af (T.vA i) k 0)):=iu (by rw[aia];exact qT aD);have rL:∀K,bk (w++[ak (⟨8,0,[cL ⟨(k:Int),s,cc⟩ v]⟩:bz)]) (ae w) 0 K=K ⟨8,0,[cL ⟨(k:Int),s,cc⟩ v]⟩:=aK ct;have g:(k:Int) < (n:Int):=aD;simp only[go_sem,↓reduceIte,Nat.reduceLeDiff,ahZ,p,y1,y3,rE,vc,g,R,rU,eU,V];have z:(T.vA (i+1)).map xC=((T.vA i).map xC).set k (xC s):=by rw[E,ah1 h1,ah9,ajF]
   have ap:Iy 1 D (ae T.aE) id:=⟨aD,fun b=>by have:=c id (by simp[TbD.ids,b]);omega,fun b=>by have:=c id (by simp[TbD.ids,b]);omega,fun j hj b=>cn (hr j hj id b),fun b=>cn (hg id b)⟩;have C:=z4 (xC s);rw[<-z] at C;refine ⟨aD,aD,ae T.aE - (i+1),aD,i+1,aD,rfl,o.apart ap bW (lF) (zN o.r.fj z3 (by have:=fZ (ae w+1) (xs:=[xC s]) (by rw[ais,gR];rfl);simpa using this)),?_,rfl⟩;rw[aia,<-z,<-R];exact C
  .have g:¬F < (n:Int):=aD;refine Y7 p y1 y3 rE vc g V ?_;have z:T.vA (i+1)=T.vA i:=by rw[E,ah0 h1]
   exact ⟨aD,ae T.aE - (i+1),aD,i+1,aD,rfl,o,by rw[z];exact W,rfl⟩
 .have J:i=ae T.aE:=aD;subst J;refine Y1 p ?_;exact Zr A hd X L
def No {F T:Tb} {g D:TbD} {G:aF} {n:Nat} {kind:Int} {R:Env} (h:TAt (xV F g) 1 g G D T) (U:g.ids 1=[1]) (s:ae T.aE < 1000000) (A:T.n=n) (a0:n < 1000000) (H:∀i,i < ae T.aE->0<=T.fU i) :
  WP prog 119 nQ (jh [.t 6,.cell 7 aq 6,.t 8] 0 (.bM [.q0 kind,xA T.aM.add,.seq 6 ar (T.xs.map xC)]) []) ((0,.q0 (n:Int))::(6,.q0 kind)::(7,.ptr 0 0 0 0)::(8,.nil)::(9,.ptr 1 0 0 0)::R) G:=by
 refine uz ?_;refine Y ?_;have S:2<=ae G:=h.k.1;refine aZ (fun m e a=>∃(i:Nat) (u:AV),i<=n/\m=n - i/\aL G a []/\Idl a/\Acc (ae G) a 6 u (aA i (xC 0))/\(0 < i->kP u) /\
   e=[(0,.q0 (n:Int)),(6,.q0 kind),(7,.ptr 0 0 0 0),(8,u),(9,.ptr 1 0 0 0),(84,.q0 (n:Int)),(85,.q0 (i:Int))])
  ⟨0,.nil,aD,rfl,aL.refl _ _,h.r.fj,.nil,fun h=>aD,rfl⟩ ?_;rintro m _ a ⟨i,u,hi,W,p,X,f,B,rfl⟩;have cu:=f.cell;by_cases b:(i:Int) < (n:Int)
 .have O:au .i64 ((i:Int)+1)=((i+1:Nat):Int):=by rw[wrap_i64 aD aD];rfl
  obtain ⟨C,E,I,J,L,a4,M,N,a7,a8⟩:=f.s6 (y := .seq 6 aq [xC 0]) (ys:=[xC 0]) (by simp[Fx.dW]) p.1 bW (fZ _ (by
   rw[ah4];intro x hx;rcases aiE.1 hx with c | c
   .rw[ai1 c];exact gR 0
   .simp at c;rw[c];exact gR 0));have l:∀K,bX 6 u [[.q0 (rv (Rat.num 0)),.v0 (rn (Rat.num 0)),rd (Rat.num 0),.q0 (rv ((Rat.den 0:Nat):Int)),.v0 (rn ((Rat.den 0:Nat):Int)),rd ((Rat.den 0:Nat):Int)]] a K=K C E:=fun K=>BS I K;refine Y1 b ?_;refine aH (nk 0 aR) rfl (bC _) ?_;have z1:((0:Int):Rat)=0:=rfl;rw[z1];refine Y2 l O ?_;refine ⟨rfl,n - (i+1),aD,i+1,C,aD,rfl,p.grow L fun w z=>(f.ge w z).1,M X,by rw[alQ];exact J,fun _=>N (fun v=>B (by
   rcases Nat.eq_zero_or_pos i with o | o
   .subst o;simp at v
   .exact o)) aO,rfl⟩
 .have q:i=n:=aD;subst q;refine Y1 b ?_;have lt:=fun w (W:w∈aG D.vc)=>h.r.bh.cV w W;refine Zq (h.aQ p X) U (n0:=ae G) (by rw[show T.vA 0=aA T.n 0 from rfl,A,ajT];exact f) (fun hp=>B aD) S (fun w z=>?_) (fun j V w z=>(h.r.rws j V).cV w z) (fun w z=>h.r.aM.cV w z) s A H;simp only[TbD.ids,aiz,aiE] at z;rcases z with z | z | z
  .omega
  .exact h.r.bh.cV w z
  .exact h.r.aE.cV w z
inductive MnK (T:Tb):Bool->Int->Tb->Prop
 | loose:MnK T true 1 T
 | run {N:Nat} {T':Tb} {r:Bool}:Imp N T T' r->MnK T false (if r then 2 else 1) T'
structure TZ (T:Tb) (n:Nat):Prop where
 n:T.n=n
 ll:T.aE.length < 1000000
 nm:∀i,i < T.aE.length->0<=T.fU i
def Zp (h:TAt (xV g a) 1 a G D T) (z:a.ids 1=[1]) (x:n < 1000000) (hm:MnK T lo kind y) (k:TZ y n) :
  WP prog 119 nP (jh [.t 6,.cell 7 aq 6,.t 8] 0 (.bM [.q0 kind,xA y.aM.add,.seq 6 ar (y.xs.map xC)]) []) ((0,.q0 (n:Int))::(6,.q0 2)::(7,.ptr 0 0 0 0)::(8,.nil)::(9,.ptr 1 0 0 0)::(14,.v0 lo)::i) G:=by
 refine uz ?_;cases hm with
 | loose =>
  refine Y ?_;exact No h z k.ll k.n x k.nm
 | @run N _ r c =>
  refine Y ?_;refine cQ (Ft h.r c) ?_;rintro j f ⟨rfl,w⟩;have ⟨e,b⟩:=h.nx w;cases r with
  | true =>
   refine Z0 ?_;exact No b z k.ll k.n x k.nm
  | false =>
   refine Z0 ?_;exact No b z k.ll k.n x k.nm
inductive MnB (n:Nat) (cs:List Cd) (T:Tb):Int->Rat->List Rat->Prop
 | eqs {T1:Tb} {lo:Bool}:StR cs T T1 false lo->MnB n cs T 0 0 []
 | jc {T1 T2:Tb} {lo:Bool}:StR cs T T1 true lo->FeR ((n:Int)+(cs.length:Int)) T1 T2 false->MnB n cs T 0 0 []
 | fin {T1 T2 T3:Tb} {lo:Bool} {kind:Int}:StR cs T T1 true lo->FeR ((n:Int)+(cs.length:Int)) T1 T2 true->MnK T2 lo kind T3->TZ T3 n->MnB n cs T kind T3.aM.add T3.xs
def Zo {s T:Tb} {w D:TbD} {G:aF} {n:Nat} {cs:List Cd} {kind:Int} {val:Rat} {xs:List Rat} {R:Env} (h:TAt (xV s w) 1 w G D T) (W:w.ids 1=[1]) (V:T.n=n) (B:n < 1000000) (b:ae cs < 1000000) (hm:MnB n cs T kind val xs) :
  WP prog 119 nN (jh [.t 6,.cell 7 aq 6,.t 8] 0 (.bM [.q0 kind,xA val,.seq 6 ar (xs.map xC)]) []) ((0,.q0 (n:Int))::(1,.seq 5 ar (cs.map dC))::(7,.ptr 0 0 0 0)::(8,.nil)::(9,.ptr 1 0 0 0)::R) G:=by
 refine uz ?_;refine Y ?_;have z:∀y:aF,aI y 0 0=ak ⟨6,0,[z6]⟩->xN [(6,.q0 0),(7,.ptr 0 0 0 0),(8,.nil)] (y.set 0 (ak ⟨6,0,[xC 0]⟩)) [.t 6,.cell 7 aq 6,.t 8] 0 (.bM [.q0 0,xA 0,.seq 6 ar []]) []:=fun y S=>by
  unfold xN;have f:ng [(6,.q0 0),(7,.ptr 0 0 0 0),(8,.nil)] (y.set 0 (ak ⟨6,0,[xC 0]⟩)) [.t 6,.cell 7 aq 6,.t 8]=ak [.q0 0,.agg (xC 0),.nil]:=by simp[ng,DP,lk,bn (aP S),gC]
  rw[f];exact (Acc.nil (n0:=0) (H:=y.set 0 (ak ⟨6,0,[xC 0]⟩)) (k:=6)).Wl (a := .int .i64 0) (xs:=[]) rfl (gR 0)
 have M:((0:Int):Rat)=0:=rfl;have J:au .i64 ((n:Int)+(ae cs:Int))=(n:Int)+(ae cs:Int):=by rw[wrap_i64 aD aD]
 have m:∀{y:aF} {o:TbD} {X:Tb},TAt (xV s w) 1 w y o X->aI y 0 0=ak ⟨6,0,[z6]⟩:=fun K=>by rw[K.k.2 0 aO (by rw[W];simp)];rfl
 have j:∀{y:aF} {o:TbD} {X:Tb},TAt (xV s w) 1 w y o X->0∉o.ids 1:=fun K hm=>by
  rcases K.i 0 hm with x | x
  .rw[W] at x;simp at x
  .simp at x
 cases hm with
 | @eqs I L g =>
  refine cQ (KI h.r g aD b) ?_;rintro v p ⟨rfl,c,_⟩;refine Y ?_;refine uz ?_;refine Z0 ?_;refine aH (nk 0 aR) rfl (bC _) ?_;rw[M];have l:aI p 0 0=ak ⟨6,0,[z6]⟩:=by rw[c.2 0 (aiB aO h.k.1) (j h)];exact m h
  have F:=aK l;refine Y1 F ?_;exact z p l
 | @jc I O L g A =>
  refine cQ (KI h.r g aD b) ?_;rintro v p ⟨rfl,c,C⟩;have ⟨N,x⟩:=h.nx (C rfl);refine Y ?_;refine uz ?_;refine Z1 J ?_;refine cQ (IX x.r A) ?_;rintro v q ⟨rfl,e,_⟩;refine Z0 ?_;refine aH (nk 0 aR) rfl (bC _) ?_;rw[M];have l:aI q 0 0=ak ⟨6,0,[z6]⟩:=by rw[e.2 0 (aiB aO x.k.1) (j x)];exact m x
  have F:=aK l;refine Y1 F ?_;exact z q l
 | @fin I O T3 L _ g A hk ho =>
  refine cQ (KI h.r g aD b) ?_;rintro v p ⟨rfl,c,C⟩;have ⟨N,x⟩:=h.nx (C rfl);refine Y ?_;refine uz ?_;refine Z1 J ?_;refine cQ (IX x.r A) ?_;rintro v q ⟨rfl,e,E⟩;have ⟨D2,U⟩:=x.nx (E rfl);refine Z0 ?_;exact Zp U W B hk ho
def gh (n:Nat) (cs:List Cd) (f:Fm) (i j:Nat):Tb:={n:=n,bh:=(aC i).map fun (k:Nat)=>(k:Int),aE:=(aC j).map fun (k:Nat)=>oX ((n:Int)+(k:Int)) (af cs k ah).f,aM:=oX (-1) f}
def ud (f:Fm):TbD:=⟨.nil,.nil,[],.seq 6 ar ((oX (-1) f).c.map xC)⟩
def Up:{gh n cs f i j with bh:=(gh n cs f i j).bh++[(i:Int)]}=gh n cs f (i+1) j:=by unfold gh;simp[ajK]
def RO:{gh n cs f i j with aE:=(gh n cs f i j).aE++[oX ((n:Int)+(j:Int)) (af cs j ah).f]}=gh n cs f i (j+1):=by unfold gh;simp[ajK]
def Jg (l:Ln) (xs:List (List AV)):bJ (.agg (cL l (.seq 6 ar xs)))=aq:=by
 have h:=gR l.add;rw[ah4] at h;have k:(xC l.add).all eO=aq:=by rw[ah4];exact fun a x=>B5 (h a x)
 show ((AV.q0 l.name::(xC l.add++[AV.seq 6 ar xs])).all eO)=aq;rw[ais,ajk,k];rfl
def aap:TbR (xV (gh n cs f 0 0) (ud f)) 1 (ud f) (gh n cs f 0 0):=by
 refine ⟨?_,rfl,.nil,fun h=>absurd rfl h,.nil,fun h=>absurd rfl h,trivial,rfl,fun i k=>by simp[gh] at k,.seq,?_,?_,fun i k=>by simp[gh] at k,?_⟩
 .show (aq&&((([bY (gh n cs f 0 0) (ud f)]).all fun x=>x.all (bp _))&&aq))=aq;rw[ais,wv (T:=gh n cs f 0 0) (D:=ud f) rfl rfl rfl];rfl
 .rintro y (h | h)<;>simp[ud,aG] at h
 .intro y h;simp[ud,aG] at h
 .intro y h;simp[ud,aG] at h
def TAt.Tr (h:TAt H t j G D T) (e:aL G y l) (n:∀id,id∈l->id∈D.ids t) (f:TbR (y.set t o) t x T2) (c:∀id,id∈x.ids t->id∈D.ids t\/ae G<=id):TAt H t j (y.set t o) x T2:=by
 have nx:Nx G t D T2 .ba (y.set t o):=⟨x,f,⟨by rw[ah8];exact e.1,fun id q g w=>by rw[aS (fun m=>g (by rw[<-m];exact aki)),e.2 id q (fun p=>g (n id p))]⟩,c⟩;have ⟨r,z⟩:=h.nx nx;refine ⟨f,z.k,fun id b=>?_⟩;rcases c id b with a | a
 .exact h.i id a
 .exact .inr (aiJ h.k.1 a)
def Zm {G:aF} {D:TbD} {n:Nat} {cs:List Cd} {f:Fm} {kind:Int} {val:Rat} {xs:List Rat} {R:Env} (h:TAt (xV (gh n cs f 0 0) (ud f)) 1 (ud f) G D (gh n cs f n 0)) (W:n < 1000000) (v:ae cs < 1000000) (s:∀c,c∈cs->ae c.f.c < 1000000) (hm:MnB n cs (gh n cs f n (ae cs)) kind val xs) :
  WP prog 119 nM (jh [.t 6,.cell 7 aq 6,.t 8] 0 (.bM [.q0 kind,xA val,.seq 6 ar (xs.map xC)]) []) ((0,.q0 (n:Int))::(1,.seq 5 ar (cs.map dC))::(7,.ptr 0 0 0 0)::(8,.nil)::(9,.ptr 1 0 0 0)::R) G:=by
 refine uz ?_;refine Y ?_;refine aZ (fun m e y=>∃(i:Nat) (D:TbD),i<=ae cs/\m=ae cs - i/\TAt (xV (gh n cs f 0 0) (ud f)) 1 (ud f) y D (gh n cs f n i) /\
   e=[(0,.q0 (n:Int)),(1,.seq 5 ar (cs.map dC)),(7,.ptr 0 0 0 0),(8,.nil),(9,.ptr 1 0 0 0),(37,.seq 5 ar (cs.map dC)),(38,.q0 (ae cs:Int)),(39,.q0 (i:Int))])
  ⟨0,D,aD,rfl,h,rfl⟩ ?_;rintro m _ y ⟨i,D,hi,U,x,rfl⟩;by_cases b:(i:Int) < (ae cs:Int)
 .have N:=ws i;have O:au .i64 ((n:Int)+(i:Int))=(n:Int)+(i:Int):=by rw[wrap_i64 aD aD]
  have a:(af cs i ah).f.c.length < 1000000:=s _ (bS aD);have X:=RO (n:=n) (i:=n) (j:=i) (cs:=cs) (f:=f);generalize T:af cs i ah=c at *;have V:aL y (y++[ak (⟨5,0,[dC c]⟩:bz)]) []:=aL.app _ _ _;have z:=x.aQ V (x.r.fj.app (iI (by rw[ais,RX];rfl)));have p:∀l K,bk (y++l) 1 0 K=K ⟨11,0,[bY (gh n cs f n i) D]⟩:=fun l K=>aK (by rw[cJ (aP x.r.bF)];exact x.r.bF) K;have S:(gh n cs f n i).aE.length=i:=by simp[gh]
  have ⟨v3,G3,E,F,I,a4,J,L,M,a9,B⟩:=z.r.pushLine (g:=oX ((n:Int)+(i:Int)) c.f) (w := .seq 6 ar ((oX ((n:Int)+(i:Int)) c.f).c.map xC)) (by rw[S];omega) .seq (fun A k=>by simp[aG] at k);have q:=aK J;have o:=E;rw[X] at B;have cl:=x.r.bh.cell;simp only[go_sem,↓reduceIte,Nat.reduceLeDiff,ahZ,b,T,p,bY,O];refine ⟨aD,aH (WE _ c.f a) (by show (bJ (.c _)&&(bJ (wA c.f)&&aq))=aq;rw[lP];rfl) (Jg _ _) ?_⟩;simp only[go_sem,↓reduceIte,Nat.reduceLeDiff,bY,o,F,I,q,N];refine ⟨rfl,ae cs - (i+1),aD,i+1,_,aD,rfl,z.Tr L (fun A k=>ajR _ (akq _ k)) B fun A k=>?_,rfl⟩;simp only[TbD.ids,aiz,aiE] at k ⊢;rcases k with k | k | k
  .exact .inl (.inl k)
  .exact .inl (.inr (.inl k))
  .rcases M A k with C | C
   .exact .inl (.inr (.inr C))
   .exact .inr aD
 .have H:i=ae cs:=aD;subst H;refine Y1 b ?_;exact Zo x rfl rfl W v hm
def BO {n:Nat} {cs:List Cd} {f:Fm} {kind:Int} {val:Rat} {xs:List Rat} (s:n < 1000000) (p:ae cs < 1000000) (o:∀c,c∈cs->ae c.f.c < 1000000) (M:ae f.c < 1000000) (hm:MnB n cs (gh n cs f n (ae cs)) kind val xs) :
  bg prog 79 [.q0 (n:Int),.seq 5 ar (cs.map dC),wA f] (.bM [.q0 kind,xA val,.seq 6 ar (xs.map xC)]):=by
 refine pc func79 yt ?_;refine uz ?_;refine Y ?_;refine aH (WE (-1) f M) (by show (bJ (.c _)&&(bJ (wA f)&&aq))=aq;rw[lP];rfl) (Jg _ _) ?_;refine Y ?_;refine uz ?_;refine Y ?_;refine aZ (fun m e G=>∃(i:Nat) (D:TbD),i<=n/\m=n - i/\TAt (xV (gh n cs f 0 0) (ud f)) 1 (ud f) G D (gh n cs f i 0)/\Acc 2 G 1 D.vc (br (gh n cs f i 0).bh) /\
   e=[(0,.q0 (n:Int)),(1,.seq 5 ar (cs.map dC)),(7,.ptr 0 0 0 0),(8,.nil),(9,.ptr 1 0 0 0),(22,.q0 (n:Int)),(23,.q0 (i:Int))])
  ⟨0,ud f,aD,rfl,TAt.refl aap,.nil,rfl⟩ ?_;rintro m _ G ⟨i,D,S,N,x,J,rfl⟩;by_cases a:(i:Int) < (n:Int)
 .have I:=ws i;have T:(gh n cs f i 0).bh.length=i:=by simp[gh]
  have ⟨O,X,W,A,B,R,C,E,F,v,t⟩:=x.r.XC (z:=(i:Int)) J aD x.k.1 aD;have w:=Up (n:=n) (i:=i) (j:=0) (cs:=cs) (f:=f);have L:=aK x.r.bF;have l:=aK C;have b:∀K,bX 1 D.vc [[.q0 (i:Int)]] G K=K O X:=W;have y:(gh n cs f i 0).bh++[(i:Int)]=(gh n cs f (i+1) 0).bh:=by rw[<-w]
  rw[y] at v;rw[w] at t;simp only[go_sem,↓reduceIte,Nat.reduceLeDiff,a,L,bY,b,A,B,l,I];refine ⟨n - (i+1),aD,i+1,_,aD,rfl,x.Tr E (fun H h=>ajR _ (amr _ h)) t fun H h=>?_,?_,rfl⟩
  .simp only[TbD.ids,aiz,aiE] at h ⊢;rcases h with h | h | h
   .exact .inl (.inl h)
   .rcases F H h with g | g
    .exact .inl (.inr (.inl g))
    .exact .inr g
   .exact .inl (.inr (.inr h))
  .exact v
 .have q:i=n:=aD;subst q;refine Y1 a ?_;exact Zm x s p o hm
end
end Go.Fx
