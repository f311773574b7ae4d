/- ProductMakes returns true whatever its arguments are: part 14 of 14. No condition. -/
import Derived.Test.YtkpkkhepecgeiaaGreatAg
import Derived.Test.YtkpkkhepecgeiaaGreatAm
import Derived.Test.YtkpkkhepecgeiaaGreatRows
import Derived.ProofKit
set_option linter.all false
set_option maxRecDepth 8000
set_option maxHeartbeats 9000000
set_option autoImplicit true
set_option relaxedAutoImplicit true
namespace Go.Fx
open Go.Proofs.Tryz
open List renaming length->ae,getD->af,replicate->aA,eraseIdx->aB,range->aC
open Inhabited renaming default->ah
open Option renaming some->ak,none->an
open Bool renaming true->aq,false->ar
open Go.IntKind renaming wrap->au
open Int renaming natAbs->ay,toNat->az
section
variable {H:Type} {enc:TypeId × Value->H} {w:World} {sp:Nat->Bool} {held:Bool}
def jG {α:Type} (cs:List α) (o k n:Nat):(cs.drop o).take k++(cs.drop (o+k)).take n=(cs.drop o).take (k+n):=by rw[<-ajo,List.take_add]
def Hg:prog.cellsOf 3=1:=by kernel_rfl
def cl4:prog.cellsOf 4=1:=by kernel_rfl
def ach:prog.cellsOf 27=1:=by kernel_rfl
def Ut:prog.cellsOf 73=2:=by kernel_rfl
def Yy:prog.cellsOf 80=3:=by kernel_rfl
def aci:prog.cellsOf 56=1:=by kernel_rfl
def MQ:prog.cellsOf 58=2:=by kernel_rfl
def Yu:prog.cellsOf 60=4:=by kernel_rfl
def acd:prog.cellsOf 22=1:=by kernel_rfl
def Yx:prog.cellsOf 75=4:=by kernel_rfl
def acj:prog.cellsOf 62=1:=by kernel_rfl
def Yv:prog.cellsOf 64=6:=by kernel_rfl
def ace:prog.cellsOf 23=1:=by kernel_rfl
def Yw:prog.cellsOf 70=3:=by kernel_rfl
def acf:prog.cellsOf 24=1:=by kernel_rfl
def acg:prog.cellsOf 26=4:=by kernel_rfl
def HB:gA prog w enc sp held 3 (fun n:Int=>[.q0 n]) I64:=S4 (by kernel_rfl)
def rd4:gA prog w enc sp held 4 (fun b:Bool=>[.v0 b]) (fun _=>True):=Rm (by kernel_rfl)
abbrev QI (l:List Int):Prop:=ae l<=maxLen/\∀x,x∈l->I64 x
abbrev QF (f:Fm):Prop:=QI f.c/\I64 f.a
abbrev QC (c:Cd):Prop:=QF c.f
abbrev QP (p:Pl):Prop:=I64 p.n/\(ae p.l<=maxLen/\∀c,c∈p.l->QC c)
abbrev QL (x:Lc):Prop:=QP x.inv/\QP x.dy
abbrev QA (x:As):Prop:=I64 x.kind/\QF x.f/\I64 x.low
abbrev QJ (x:Jp):Prop:=I64 x.cI/\I64 x.to/\I64 x.label/\QP x.guard/\(ae x.cO<=maxLen/\∀y,y∈x.cO->QA y)
abbrev QZ (z:Zn):Prop:=I64 z.loc/\QP z.set
abbrev QU (a:Au):Prop:=I64 a.bA/\(ae a.aJ<=maxLen/\∀x,x∈a.aJ->QL x)/\(ae a.aN<=maxLen/\∀x,x∈a.aN->QJ x)/\(ae a.init<=maxLen/\∀x,x∈a.init->QZ x)
instance:Inhabited Cd:=⟨⟨ah,ar⟩⟩
def ZF:gA prog w enc sp held 27 (fun l:List Int=>[.seq 1 ar (l.map (fun n:Int=>[AV.q0 n]))]) (fun l=>ae l<=maxLen/\∀x,x∈l->I64 x) :=
 rF (e:=3) (by kernel_rfl) Hg aR (fun x=>⟨rfl,rfl⟩) HB
def ZG:gA prog w enc sp held 73 (fun x:Fm=>fC x) QF:=by intro fuel k x h;have ⟨a,b⟩:=lN Go.Proofs.Tryz.underlying73 h;rw[Ut] at a;have ⟨c,n,y⟩:=b 0 _ rfl;change DataW.trod enc prog w 0 sp held c 27 ((k.drop 0).take (prog.cellsOf 27))=ak n at y;rw[ach] at y;have ⟨l,f,i⟩:=ZF _ _ _ y;have ⟨e,o,z⟩:=b 1 _ rfl;change DataW.trod enc prog w 0 sp held e 3 ((k.drop 1).take (prog.cellsOf 3))=ak o at z;rw[Hg] at z;have ⟨m,g,j⟩:=HB _ _ _ z;have R:=(jD i j);rw[jG k 0,ajx,aiv (by rw[a];decide)] at R;exact ⟨⟨l,m⟩,⟨f,g⟩,R⟩
def acY:gA prog w enc sp held 80 (fun x:Cd=>cC x) QC:=by intro fuel k x h;have ⟨a,b⟩:=lN Go.Proofs.Tryz.underlying80 h;rw[Yy] at a;have ⟨c,m,y⟩:=b 0 _ rfl;change DataW.trod enc prog w 0 sp held c 73 ((k.drop 0).take (prog.cellsOf 73))=ak m at y;rw[Ut] at y;have ⟨j,f,g⟩:=ZG _ _ _ y;have ⟨e,n,z⟩:=b 1 _ rfl;change DataW.trod enc prog w 0 sp held e 4 ((k.drop 2).take (prog.cellsOf 4))=ak n at z;rw[cl4] at z;have ⟨l,o,i⟩:=rd4 _ _ _ z;have R:=(jD g i);rw[jG k 0,ajx,aiv (by rw[a];decide)] at R;exact ⟨⟨j,l⟩,f,R⟩
def acS:gA prog w enc sp held 56 (fun l:List Cd=>[.seq 3 ar (l.map cC)]) (fun l=>ae l<=maxLen/\∀x,x∈l->QC x) :=
 rF (e:=80) (by kernel_rfl) Yy aR (fun x=>⟨rfl,rfl⟩) acY
def Rl:gA prog w enc sp held 58 (fun x:Pl=>p9 x) QP:=by intro fuel k x h;have ⟨a,b⟩:=lN Go.Proofs.Tryz.underlying58 h;rw[MQ] at a;have ⟨c,n,y⟩:=b 0 _ rfl;change DataW.trod enc prog w 0 sp held c 3 ((k.drop 0).take (prog.cellsOf 3))=ak n at y;rw[Hg] at y;have ⟨l,f,i⟩:=HB _ _ _ y;have ⟨e,o,z⟩:=b 1 _ rfl;change DataW.trod enc prog w 0 sp held e 56 ((k.drop 1).take (prog.cellsOf 56))=ak o at z;rw[aci] at z;have ⟨m,g,j⟩:=acS _ _ _ z;have R:=(jD i j);rw[jG k 0,ajx,aiv (by rw[a];decide)] at R;exact ⟨⟨l,m⟩,⟨f,g⟩,R⟩
def acT:gA prog w enc sp held 60 (fun x:Lc=>iy x) QL:=by intro fuel k x h;have ⟨a,b⟩:=lN Go.Proofs.Tryz.underlying60 h;rw[Yu] at a;have ⟨c,n,y⟩:=b 0 _ rfl;change DataW.trod enc prog w 0 sp held c 58 ((k.drop 0).take (prog.cellsOf 58))=ak n at y;rw[MQ] at y;have ⟨l,f,i⟩:=Rl _ _ _ y;have ⟨e,o,z⟩:=b 1 _ rfl;change DataW.trod enc prog w 0 sp held e 58 ((k.drop 2).take (prog.cellsOf 58))=ak o at z;rw[MQ] at z;have ⟨m,g,j⟩:=Rl _ _ _ z;have R:=(jD i j);rw[jG k 0,ajx,aiv (by rw[a];decide)] at R;exact ⟨⟨l,m⟩,⟨f,g⟩,R⟩
def acP:gA prog w enc sp held 22 (fun l:List Lc=>[.seq 4 ar (l.map iy)]) (fun l=>ae l<=maxLen/\∀x,x∈l->QL x) :=
 rF (e:=60) (by kernel_rfl) Yu aR (fun x=>⟨rfl,rfl⟩) acT
def acX:gA prog w enc sp held 75 (fun x:As=>dX x) QA:=by intro fuel k x h;have ⟨c,b⟩:=lN Go.Proofs.Tryz.underlying75 h;rw[Yx] at c;have ⟨e,s,y⟩:=b 0 _ rfl;change DataW.trod enc prog w 0 sp held e 3 ((k.drop 0).take (prog.cellsOf 3))=ak s at y;rw[Hg] at y;have ⟨p,i,m⟩:=HB _ _ _ y;have ⟨f,t,z⟩:=b 1 _ rfl;change DataW.trod enc prog w 0 sp held f 73 ((k.drop 1).take (prog.cellsOf 73))=ak t at z;rw[Ut] at z;have ⟨q,j,n⟩:=ZG _ _ _ z;have ⟨g,v,a⟩:=b 2 _ rfl;change DataW.trod enc prog w 0 sp held g 3 ((k.drop 3).take (prog.cellsOf 3))=ak v at a;rw[Hg] at a;have ⟨r,l,o⟩:=HB _ _ _ a;have R:=(jD (jD m n) o);rw[jG k 0,jG k 0,ajx,aiv (by rw[c];decide)] at R;exact ⟨⟨p,q,r⟩,⟨i,j,l⟩,R⟩
def acU:gA prog w enc sp held 62 (fun l:List As=>[.seq 4 ar (l.map dX)]) (fun l=>ae l<=maxLen/\∀x,x∈l->QA x) :=
 rF (e:=75) (by kernel_rfl) Yx aR (fun x=>⟨rfl,rfl⟩) acX
def acV:gA prog w enc sp held 64 (fun x:Jp=>dI x) QJ:=by intro fuel k x h;have ⟨f,y⟩:=lN Go.Proofs.Tryz.underlying64 h;rw[Yv] at f;have ⟨g,E,z⟩:=y 0 _ rfl;change DataW.trod enc prog w 0 sp held g 3 ((k.drop 0).take (prog.cellsOf 3))=ak E at z;rw[Hg] at z;have ⟨W,n,s⟩:=HB _ _ _ z;have ⟨i,F,a⟩:=y 1 _ rfl;change DataW.trod enc prog w 0 sp held i 3 ((k.drop 1).take (prog.cellsOf 3))=ak F at a;rw[Hg] at a;have ⟨A,o,t⟩:=HB _ _ _ a;have ⟨j,G,b⟩:=y 2 _ rfl;change DataW.trod enc prog w 0 sp held j 3 ((k.drop 2).take (prog.cellsOf 3))=ak G at b;rw[Hg] at b;have ⟨B,p,v⟩:=HB _ _ _ b;have ⟨l,I,c⟩:=y 3 _ rfl;change DataW.trod enc prog w 0 sp held l 58 ((k.drop 3).take (prog.cellsOf 58))=ak I at c;rw[MQ] at c;have ⟨C,q,K⟩:=Rl _ _ _ c;have ⟨m,J,e⟩:=y 4 _ rfl;change DataW.trod enc prog w 0 sp held m 62 ((k.drop 5).take (prog.cellsOf 62))=ak J at e;rw[acj] at e;have ⟨D,r,X⟩:=acU _ _ _ e;have R:=(jD (jD (jD (jD s t) v) K) X);rw[jG k 0,jG k 0,jG k 0,jG k 0,ajx,aiv (by rw[f];decide)] at R;exact ⟨⟨W,A,B,C,D⟩,⟨n,o,p,q,r⟩,R⟩
def acQ:gA prog w enc sp held 23 (fun l:List Jp=>[.seq 6 ar (l.map dI)]) (fun l=>ae l<=maxLen/\∀x,x∈l->QJ x) :=
 rF (e:=64) (by kernel_rfl) Yv aR (fun x=>⟨rfl,rfl⟩) acV
def acW:gA prog w enc sp held 70 (fun x:Zn=>iF x) QZ:=by intro fuel k x h;have ⟨a,b⟩:=lN Go.Proofs.Tryz.underlying70 h;rw[Yw] at a;have ⟨c,n,y⟩:=b 0 _ rfl;change DataW.trod enc prog w 0 sp held c 3 ((k.drop 0).take (prog.cellsOf 3))=ak n at y;rw[Hg] at y;have ⟨l,f,i⟩:=HB _ _ _ y;have ⟨e,o,z⟩:=b 1 _ rfl;change DataW.trod enc prog w 0 sp held e 58 ((k.drop 1).take (prog.cellsOf 58))=ak o at z;rw[MQ] at z;have ⟨m,g,j⟩:=Rl _ _ _ z;have R:=(jD i j);rw[jG k 0,ajx,aiv (by rw[a];decide)] at R;exact ⟨⟨l,m⟩,⟨f,g⟩,R⟩
def acR:gA prog w enc sp held 24 (fun l:List Zn=>[.seq 3 ar (l.map iF)]) (fun l=>ae l<=maxLen/\∀x,x∈l->QZ x) :=
 rF (e:=70) (by kernel_rfl) Yw aR (fun x=>⟨rfl,rfl⟩) acW
def ZE:gA prog w enc sp held 26 (fun x:Au=>c9 x) QU:=by intro fuel k x h;have ⟨e,y⟩:=lN Go.Proofs.Tryz.underlying26 h;rw[acg] at e;have ⟨f,W,z⟩:=y 0 _ rfl;change DataW.trod enc prog w 0 sp held f 3 ((k.drop 0).take (prog.cellsOf 3))=ak W at z;rw[Hg] at z;have ⟨t,l,p⟩:=HB _ _ _ z;have ⟨g,A,a⟩:=y 1 _ rfl;change DataW.trod enc prog w 0 sp held g 22 ((k.drop 1).take (prog.cellsOf 22))=ak A at a;rw[acd] at a;have ⟨v,m,q⟩:=acP _ _ _ a;have ⟨i,B,b⟩:=y 2 _ rfl;change DataW.trod enc prog w 0 sp held i 23 ((k.drop 2).take (prog.cellsOf 23))=ak B at b;rw[ace] at b;have ⟨K,n,r⟩:=acQ _ _ _ b;have ⟨j,C,c⟩:=y 3 _ rfl;change DataW.trod enc prog w 0 sp held j 24 ((k.drop 3).take (prog.cellsOf 24))=ak C at c;rw[acf] at c;have ⟨X,o,s⟩:=acR _ _ _ c;have R:=(jD (jD (jD p q) r) s);rw[jG k 0,jG k 0,jG k 0,ajx,aiv (by rw[e];decide)] at R;exact ⟨⟨t,v,K,X⟩,⟨l,m,n,o⟩,R⟩
def QU.auL (h:QU a):AuL a:=by
 have n:maxLen < 9223372036854775808:=aR;have ⟨_,⟨j,e⟩,⟨l,f⟩,m,g⟩:=h;refine ⟨aD,aD,aD,fun x k=>?_,fun x k=>?_,fun x k=>?_⟩
 .have ⟨⟨_,z,_⟩,_,b,_⟩:=e x k;exact ⟨aD,aD⟩
 .have ⟨_,_,_,⟨_,z,_⟩,b,c⟩:=f x k;exact ⟨aD,aD,fun y i=>cn ((c y i).2.1.1.1)⟩
 .have ⟨_,_,z,_⟩:=g x k;omega
end
end Go.Fx
namespace Go.Proofs.YtkpkkhepecgeiaaGreat
open List renaming length->ae,getD->af,replicate->aA,eraseIdx->aB,range->aC
open Inhabited renaming default->ah
open Option renaming some->ak,none->an
open Bool renaming true->aq,false->ar
open Go.IntKind renaming wrap->au
open Int renaming natAbs->ay,toNat->az
open Go.ChangeShapes Go.WideShapes Go.ChangeAt Go.RowKit
open Go.Fx
def aaA:ownKnob Tryz.prog.godebug=an:=by kernel_rfl
def Kn {I k:Imm} {z:Bet} {H':aF} {w w':World} (x:Ext I iO [] w k z H' w'):∀b,b < w.heap.size->w'.heap[b]?=w.heap[b]?:=fun b y =>
 (x.frame b y (by rintro ⟨id,a,B,h,_⟩;simp at h)).1
def UC {I k:Imm} {z:Bet} {H':aF} {w w':World} (x:Ext I iO [] w k z H' w') (may:MemPlace->Prop):w.keptBut w' may:=by refine ⟨x.os,x.output,fun i h=>?_⟩;rw[Kn x i h];obtain ⟨o,y⟩:∃o,w.heap[i]?=ak o:=⟨w.heap[i],by simp[h]⟩;rw[y];cases o<;>simp
def Ex {H:Type} {enc:TypeId × Value->H} {P:Program} {w w':World} {base:Nat} {c:Nat->Bool} {k:Bool}:∀{f:List TypeId} {vs:List Value} {a:List (DataW H)} {z:List MemPlace},
  DataW.TrodAll enc P w base c k f vs a z->(∀p,p∈z->w.sameAt w' p)->DataW.TrodAll enc P w' base c k f vs a z
 | [],[],[],_,h,_=>h
 | _::_,_::_,_::_,_,⟨p,q,⟨n,g⟩,i,e⟩,b=>⟨p,q,⟨n,DataW.trod_carry _ _ _ _ g (fun x y=>b x (by rw[e];exact amr _ y))⟩,Ex i (fun x y=>b x (by rw[e];exact akq _ y)),e⟩
def UD {I k:Imm} {y:Bet} {H':aF} {w w':World} (x:Ext I iO [] w k y H' w') {p:MemPlace} (h:p.block < w.heap.size):w.sameAt w' p:=by
 cases p with
 | cell b o=>show w'.cell? _=w.cell? _;unfold World.cell?;rw[Kn x b h]
 | map b=>exact Kn x b h
def Nk (v:Os) (started:v.Started) (H:Type) (enc:TypeId × Value->H) :
  ReturnsInHanded {} Tryz.checked v 3 .any (Rows.productMakesSpec.pre6 enc Tryz.prog Tryz.f3 Rows.productMakesRow.domain ar) (Rows.productMakesSpec.post enc Tryz.prog Tryz.f3 ar aq ar ar):=by
 refine returnsInHanded_of_change (C:=Tryz.checked) aaA started (by kernel_rfl) Tryz.func3
  (ChangeSpec.witness6 (enc:=enc) (C:=Tryz.checked) ar ⟨#[],#[.agg #[.int .i64 0,.slice an 0 0,.slice an 0 0,.slice an 0 0],.agg #[.int .i64 0,.slice an 0 0,.slice an 0 0,.slice an 0 0],.slice an 0 0],[]⟩ 8 (by kernel_rfl) (by kernel_rfl) (by kernel_rfl) (by kernel_rfl)) ?_;intro W base args ds gs before z r s _;have k:=z;have w:=r;obtain ⟨p,q,c,B,rfl,F,G⟩:=r;have n:=c;rw[Tryz.params3] at n k;have o:=n;obtain ⟨v0,v1,v2,d0,d1,d2,N,O,P,rfl,rfl,rfl,i,j,m⟩:=trodAll_three n;obtain ⟨rfl,rfl⟩:=trodVars_none B;obtain ⟨c0,rfl,_⟩:=okWide_struct Tryz.underlying26 (k 0 26 v0 rfl rfl);obtain ⟨c1,rfl,_⟩:=okWide_struct Tryz.underlying26 (k 1 26 v1 rfl rfl);obtain ⟨A,M,L,rfl⟩:=okWide_slice Tryz.underlying27 (k 2 27 v2 rfl rfl);obtain ⟨f0,i⟩:=i;obtain ⟨f1,j⟩:=j;obtain ⟨f2,m⟩:=m;obtain ⟨a,R,K⟩:=ZE _ _ _ i;obtain ⟨b,S,X⟩:=ZE _ _ _ j;obtain ⟨l,T,rl⟩:=ZF _ _ _ m;clear c z;simp only[aiu] at w;have hm:maxLen < 9223372036854775808:=by decide
 have D:=XV a b l ar R.auL S.auL (by have:=T.1;omega);have U:Rel (wI W) iO (.agg (c9 a)) (.agg c0):=by
  have h:=Rel.agg K.1 K.2;have e:(Value.agg c0).cells.toList.toArray=c0:=by simp[Value.cells]
  rw[e] at h;exact h
 have V:Rel (wI W) iO (.agg (c9 b)) (.agg c1):=by
  have h:=Rel.agg X.1 X.2;have e:(Value.agg c1).cells.toList.toArray=c1:=by simp[Value.cells]
  rw[e] at h;exact h
 have r2:=rl.2 0 _ _ rfl rfl;refine (D.2 (wI W) iO W [.agg c0,.agg c1,.slice A M L] (adi W) (.cons U (.cons V (.cons r2 (.nil _ _))))).mono fun e W' ⟨rv,I',a0,E,x,s',I⟩=>?_;obtain ⟨rfl,_⟩:=I.eG;subst E;have f:∀y,y∈N++O++P->y.block < W.heap.size:=fun y g=>w.lt y (by simpa using g);refine ⟨_,rfl,_,_,_,[],_,[],w,?_,Ex (DataW.TrodAll.respare (kids_rows (by kernel_rfl) (by kernel_rfl)) (slices_full_of Tryz.prog (by kernel_rfl)) (fun t J=>?_) o (fun y g=>air (f y g))) (fun y g=>UD x (f y g)),rfl,UC x _,fun h=>by cases h⟩
 .exact trodAll_mk1 (shut_bool Tryz.underlying4 _)
 .have:t=26\/t=27:=by simp at J;omega
  rcases this with rfl | rfl<;>exact akB (by kernel_rfl)
theorem productMakes_holds:Rows.ProductMakesSaid :=
 OpenClaim.holds_of_wide 3 Tryz.f3 rfl rfl rfl rfl rfl rfl rfl ⟨rfl,rfl,rfl,rfl,rfl⟩ rfl rfl rfl rfl rfl (by kernel_rfl) Tryz.func3 (by kernel_rfl)
  (akB (by kernel_rfl)) (by unfold Func.isWrapper;first | (rw[ah1 (by decide +kernel)];kernel_rfl) | (rw[ah0 (by decide +kernel)];exact ⟨rfl,rfl⟩))
  (fun h started H enc _=>Nk h started H enc)
#print axioms productMakes_holds
end Go.Proofs.YtkpkkhepecgeiaaGreat
