/- ProductMakes returns true whatever its arguments are: part 4 of 14. No condition. -/
import Derived.Test.YtkpkkhepecgeiaaGreatAc
import Derived.KernelRfl
import Derived.Test.YtkpkkhepecgeiaaGreatProg
set_option linter.all false
set_option maxRecDepth 8000
set_option maxHeartbeats 9000000
set_option autoImplicit true
set_option relaxedAutoImplicit true
namespace Go.Fx
open Go.Proofs.Tryz
open List renaming length->ae,getD->af,replicate->aA,eraseIdx->aB,range->aC
open Inhabited renaming default->ah
open Option renaming some->ak,none->an
open Bool renaming true->aq,false->ar
open Go.IntKind renaming wrap->au
open Int renaming natAbs->ay,toNat->az
section
variable {P:Program} {N:Nat} {fr:Md} {e:Env} {H H':aF} {K:AV->aF->Prop} {Q:Env->aF->Prop} {R:cx}
def CO (aY:List Nat) (R:cx):Env->aF->Prop:=fun e H=>R .normal (dd aY e) H
attribute [go_sem] Nat.reduceEqDiff Nat.reduceAdd
@[go_sem] def ag5:CO aY R e H=R .normal (dd aY e) H:=(rfl)
def Yi (P:Program) (fr:Md) (n:Nat) (r:List bU) (e:Env) (Q:Env->aF->Prop):AV->aF->Prop:=fun v H=>RW P fr r ((n,v)::e) H Q
@[go_sem] def ahQ {n:Nat} {r:List bU} {v:AV}:Yi P fr n r e Q v H=RW P fr r ((n,v)::e) H Q:=(rfl)
def Yj (P:Program) (fr:Md) (r:List bU) (e:Env) (Q:Env->aF->Prop):AV->aF->Prop:=fun _ H=>RW P fr r e H Q
@[go_sem] def ahR:Yj P fr r e Q v H=RW P fr r e H Q:=(rfl)
def AtH (K:AV->aF->Prop) (H:aF):AV->Prop:=fun v=>K v H
@[go_sem] def atH:AtH K H v=K v H:=(rfl)
def Yb (K:AV->aF->Prop) (H:aF):List AV->Prop:=fun l=>K (.agg l) H
@[go_sem] def ahF:Yb K H l=K (.agg l) H:=(rfl)
def wG (P:Program) (N:Nat) (v:AV) (a b:cF) (R:cx) (e:Env) (H:aF):Prop:=wH v (WP P N a R e H) (WP P N b R e H)
section code
variable {a b:cF}
def adF:WP P N .skip R e H=R .normal e H:=(rfl)
def aeT:WP P N (.xG aY ops) R e H=RW P .any ops e H (CO aY R):=(rfl)
def adC:WP P N (.BL aY h ops) R e H=RW P .aY ops e H (CO aY R):=(rfl)
def aeV:WP P N (.seq a b) R e H=WP P N a (lh (WP P N b R) R) e H:=(rfl)
def ady:WP P N (.cond c a b) R e H=wG P N (c.ev e) a b R e H:=(rfl)
def ab8 {id:Nat}:WP P N (.block id a) R e H=WP P N a (qi id R) e H:=(rfl)
def adA:WP P N (.loop aY a) R e H=CM P N aY a R e H:=(rfl)
def adz {id:Nat}:WP P N (.exit id) R e H=R (.exit id) e H:=(rfl)
def aeU:WP P N .ret R e H=R .ret e H:=(rfl)
attribute [go_sem] adF aeT adC aeV ady ab8 adA adz aeU
end code
def Ak {n:Env->aF->Prop}:lh n R .normal e H=n e H:=(rfl)
def ab3 {n:Env->aF->Prop}:lh n R .ret e H=R .ret e H:=(rfl)
def abe {n:Env->aF->Prop} {i:Nat}:lh n R (.exit i) e H=R (.exit i) e H:=(rfl)
def X9:qi i R .normal e H=R .normal e H:=(rfl)
def aar:qi i R .ret e H=R .ret e H:=(rfl)
def Bs:qi i R (.exit j) e H=if j=i then R .normal e H else R (.exit j) e H:=(rfl)
def ad3:wG P N (.v0 aq) a b R e H=WP P N a R e H:=by simp[wG,wH]
def ad1:wG P N (.v0 ar) a b R e H=WP P N b R e H:=by simp[wG,wH]
def ad0 {p:Prop} [Decidable p] {a b:cF}:wG P N (.v0 (decide p)) a b R e H=((p->WP P N a R e H)/\(¬p->WP P N b R e H)):=by simp[wG,wH]
def ad2 {p:Bool} {a b:cF}:wG P N (.v0 (!p)) a b R e H=wG P N (.v0 p) b a R e H:=by cases p<;>simp[wG,wH]
def ahJ {n:Nat}:Opd.ev e (.t n)=lk n e:=(rfl)
def ahI {a:AV}:Opd.ev e (.k a)=a:=(rfl)
def afd {n:Int}:Opd.ev e (i64 n) = .q0 n:=(rfl)
def afe {n:Int}:Opd.ev e (u32 n) = .c (.int .u32 n):=(rfl)
def aff {n:Int}:Opd.ev e (u64 n) = .c (.int .u64 n):=(rfl)
def aeA {t s:Nat} {v:AV}:lk t ((s,v)::e)=if s=t then v else lk t e:=(rfl)
def abM:dd [] e=[]:=(rfl)
def aaH {t:Nat} {r:List Nat}:dd (t::r) e=(t,lk t e)::dd r e:=(rfl)
attribute [go_sem] Ak ab3 abe X9 aar Bs ad3 ad1 ad0 ad2 ahJ ahI afd afe aff aeA abM aaH
def CT (i:Nat):List AV->Env
 | []=>[]
 | a::r=>(i,a)::CT (i+1) r
def Uj (l:List AV) (i:Nat):(l.zipIdx i).map (fun p=>(p.2,p.1))=CT i l:=by
 induction l generalizing i with
 | nil=>rfl
 | cons a r h=>simp[CT,h]
def adI:nI l=CT 0 l:=Uj l 0
def abt:CT i []=[]:=(rfl)
def aan {i:Nat} {a:AV} {r:List AV}:CT i (a::r)=(i,a)::CT (i+1) r:=(rfl)
def aeS:RW P fr [] e H Q=Q e H:=(rfl)
def ahD {n:Nat} {o:AOp} {r:List bU}:RW P fr (d n o::r) e H Q=cS P fr o e H (Yi P fr n r e Q):=(rfl)
def ahE:RW P fr (u o::r) e H Q=cS P fr o e H (Yj P fr r e Q):=(rfl)
attribute [go_sem] adI abt aan aeS ahD ahE
def BQ (P:Program) (fr:Md) (v:AV) (b:Bool) (o:bU) (r:List bU) (e:Env) (H:aF) (Q:Env->aF->Prop):Prop:=match (match v with
  | .c (.bool c)=>ak (c==b)
  | .bM []=>ak ar
  | _=>an) with
 | some aq=>RW P fr (⟨o.dst,o.op,an⟩::r) e H Q
 | some ar=>RW P fr r (fq o.dst (.bM []) e) H Q
 | none=>False
@[go_sem] def agw {n s:Nat} {b:Bool} {o:AOp} {r:List bU}:RW P fr (dg n o s b::r) e H Q=BQ P fr (lk s e) b (d n o) r e H Q:=(rfl)
abbrev HH:=List (Nat × List Nat × List Nat)
def V8 (eQ:List (Nat × Nat)) (aY:List Nat) (R:cx):Env->aF->HH->Prop:=fun e H acc=>pk acc eQ/\R .normal (dd aY e) H
@[go_sem] def agB:V8 eQ aY R e H acc=(pk acc eQ/\R .normal (dd aY e) H):=(rfl)
def V7 (n:Nat) (eQ:List (Nat × Nat)) (aY:List Nat) (R:cx):Env->aF->HH->Prop:=fun e H acc=>(pk acc eQ/\ae H=n)/\R .normal (dd aY e) H
def agA {n:Nat} {eQ:List (Nat × Nat)} {aY:List Nat} {acc:HH}:V7 n eQ aY R e H acc=((pk acc eQ/\ae H=n)/\R .normal (dd aY e) H):=(rfl)
def adE:WP P N (.Aa aY h eQ ops) R e H=RWC P 0 ops e H [] (V7 (ae H) eQ aY R):=(rfl)
attribute [go_sem] agA adE
def Wb (P:Program) (al:bU) (aY:List Nat) (R:cx):Env->aF->Prop:=fun e H=>RW P .any [al] e H (CO aY R)
def agV:Wb P h aY R e H=RW P .any [h] e H (CO aY R):=(rfl)
def adD:WP P N (.DM aY w ops h) R e H=RW P .aY ops e H (Wb P h aY R):=(rfl)
def adB:WP P N (.xY aY h eQ ops) R e H=RWC P 0 ops e H [] (V8 eQ aY R):=(rfl)
attribute [go_sem] agV adD adB
def T5 (P:Program) (i:Nat) (dst:Option Nat) (o:AOp) (r:List bU) (e:Env) (H0:aF) (acc:HH) (Q:Env->aF->HH->Prop):AV->aF->Prop :=
 fun v H=>(H.drop (ae H0)).all (cg (ae H0))=aq/\RWC P (i+1) r (fq dst v e) H ((i,jU o e (ae H0),kA o e)::acc) Q
section
variable {i n s:Nat} {o:AOp} {r:List bU} {acc:HH} {QC:Env->aF->HH->Prop} {H0:aF} {dst:Option Nat}
def ahP:T5 P i dst o r e H0 acc QC v H=((H.drop (ae H0)).all (cg (ae H0))=aq/\RWC P (i+1) r (fq dst v e) H ((i,jU o e (ae H0),kA o e)::acc) QC):=(rfl)
def abX:fq (ak n) v e=(n,v)::e:=(rfl)
def abW:fq an v e=e:=(rfl)
def adx:RWC P i [] e H acc QC=QC e H acc:=(rfl)
def agu:RWC P i (d n o::r) e H acc QC=cS P .FM o e H (T5 P i (ak n) o r e H acc QC):=(rfl)
def agv:RWC P i (u o::r) e H acc QC=cS P .FM o e H (T5 P i an o r e H acc QC):=(rfl)
def aaw:pk acc []=True:=(rfl)
def aah:pk acc ((i,j)::c)=(E8 (vk i acc) (vk j acc++zP j acc)/\pk acc c):=(rfl)
def acJ:vk i ((j,w,l)::acc)=if j=i then w else vk i acc:=(rfl)
def acI:zP i ((j,w,l)::acc)=if j=i then l else zP i acc:=(rfl)
def aco:E8 [] l=True:=(rfl)
def abC {a:Nat} {m l:List Nat}:E8 (a::m) l=(ig a l/\E8 m l):=(rfl)
def abO {a:Nat}:ig a []=True:=(rfl)
def aaL {a b:Nat} {l:List Nat}:ig a (b::l)=(¬a=b/\ig a l):=(rfl)
def abK {id a b c:Nat}:aG (.ptr id a b c)=[id]:=(rfl)
def acG {k id a b c:Nat}:aG (.sl k id a b c)=[id]:=(rfl)
def abL:aG (.seq k f xs)=[]:=(rfl)
def abT {a:Nat}:uL a []=[a]:=(rfl)
def aaj {k v m:Nat} {xs:List (List AV)}:cg m (ak ⟨k,v,xs⟩)=xs.all fun x=>x.all (bp m):=(rfl)
def afD {m:Nat} {v:Value}:bp m (.c v)=aq:=(rfl)
def acC {m:Nat}:bp m .nil=aq:=(rfl)
def ad6 {α:Type} {l m:List α}:(l++m).drop (ae l)=m:=akV ..
def ad5 {α:Type} {l:List α}:l.drop (ae l)=[]:=aiZ ..
attribute [go_sem] ahP abX abW adx agu agv aaw aah acJ acI aco abC abO aaL abK acG abL abT aaj afD acC ad6 ad5
end
section feet
variable {m:Nat}
def afu:jU (.mv x) e m=[]:=(rfl)
def afm:kA (.mv x) e=[]:=(rfl)
def afp {z:List AV} {p:List (Nat × Nat × Opd)}:jU (.bd z p) e m=[]:=(rfl)
def afh {z:List AV} {p:List (Nat × Nat × Opd)}:kA (.bd z p) e=[]:=(rfl)
def afq {k:Nat} {p:List Opd}:jU (.bs k p) e m=[]:=(rfl)
def afi {k:Nat} {p:List Opd}:kA (.bs k p) e=[]:=(rfl)
def afv:jU (.nc x) e m=[]:=(rfl)
def afn:kA (.nc x) e=[]:=(rfl)
def aem {b:BinOp} {x y:Opd}:jU (.bin b x y) e m=[]:=(rfl)
def aee {b:BinOp} {x y:Opd}:kA (.bin b x y) e=[]:=(rfl)
def afr:jU (.fa x k) e m=[]:=(rfl)
def afj:kA (.fa x k) e=[]:=(rfl)
def aeo:jU (.Fy x y k) e m=[]:=(rfl)
def aeg:kA (.Fy x y k) e=[]:=(rfl)
def acv {f:FuncId} {a:List Opd}:jU (.call f a) e m=[]:=(rfl)
def acu {f:FuncId} {a:List Opd}:kA (.call f a) e=[]:=(rfl)
def abI {f:FuncId} {a:List Opd}:jU (.mO f a) e m=(a.map (Opd.ev e)).flatMap aG:=(rfl)
def abH {f:FuncId} {a:List Opd}:kA (.mO f a) e=[]:=(rfl)
def aeq:jU (.len x) e m=[]:=(rfl)
def aei:kA (.len x) e=[]:=(rfl)
def aep {x:Opd} {b:Bool} {k:Nat}:jU (.Fz x b k) e m=[]:=(rfl)
def aeh {x:Opd} {b:Bool} {k:Nat}:kA (.Fz x b k) e=[]:=(rfl)
def afs {x:Opd} {b:Bool} {k:Nat}:jU (.ld x b k) e m=[]:=(rfl)
def afk {x:Opd} {b:Bool} {k:Nat}:kA (.ld x b k) e=aG (x.ev e):=(rfl)
def aes {x:Opd} {a b c:Option Opd} {k:Nat}:jU (.rX x a b c k) e m=[]:=(rfl)
def aek {x:Opd} {a b c:Option Opd} {k:Nat}:kA (.rX x a b c k) e=aG (x.ev e):=(rfl)
def afw:jU (.st x y k) e m=aG (x.ev e):=(rfl)
def afo:kA (.st x y k) e=aG (x.ev e):=(rfl)
def ael:jU (.app x y k) e m=uL m (aG (x.ev e)):=(rfl)
def aed:kA (.app x y k) e=aG (x.ev e)++aG (y.ev e):=(rfl)
def aer {k:Nat} {z:List AV}:jU (.new k z) e m=[m]:=(rfl)
def aej {k:Nat} {z:List AV}:kA (.new k z) e=[]:=(rfl)
def aen {k:Nat} {p:List Opd}:jU (.yf k p) e m=[m]:=(rfl)
def aef {k:Nat} {p:List Opd}:kA (.yf k p) e=[]:=(rfl)
def aft {k:Nat} {z:List AV} {x y:Opd}:jU (.mk k z x y) e m=[m]:=(rfl)
def afl {k:Nat} {z:List AV} {x y:Opd}:kA (.mk k z x y) e=[]:=(rfl)
attribute [go_sem] afu afm afp afh afq afi afv afn aem aee afr afj aeo aeg acv acu abI abH aeq aei aep aeh afs afk aes aek afw afo ael aed aer aej aen aef aft afl
end feet
section
variable {n:Nat} {o:AOp} {r:List bU} {p:bU}
def acz:BQ P fr (.v0 aq) aq (d n o) r e H Q=RW P fr (d n o::r) e H Q:=(rfl)
def acw:BQ P fr (.v0 ar) ar (d n o) r e H Q=RW P fr (d n o::r) e H Q:=(rfl)
def acy:BQ P fr (.v0 aq) ar (d n o) r e H Q=RW P fr r ((n,.bM [])::e) H Q:=(rfl)
def acx:BQ P fr (.v0 ar) aq (d n o) r e H Q=RW P fr r ((n,.bM [])::e) H Q:=(rfl)
def aet {b:Bool}:BQ P fr (.bM []) b (d n o) r e H Q=RW P fr r ((n,.bM [])::e) H Q:=(rfl)
attribute [go_sem] acz acw acy acx aet
end
def bO {α:Type} (o:Option α) (K:α->Prop):Prop:=match o with
 | some v=>K v
 | none=>False
@[go_sem] def oI {α:Type} {v:α} {K:α->Prop}:bO (ak v) K=K v:=(rfl)
def kC {α γ:Type} {o:Option α} {f:α->Option γ} {K:γ->Prop}:bO (o.bind f) K=bO o fun x=>bO (f x) K:=by cases o<;>rfl
def zW {α γ:Type} {o:Option α} {f:α->γ} {K:γ->Prop}:bO (o.map f) K=bO o fun x=>K (f x):=by cases o<;>rfl
def fD {α:Type} {c:Prop} [Decidable c] {v:α} {K:α->Prop}:bO (if c then ak v else an) K=(c/\K v):=by by_cases h:c<;>simp[h,bO]
def Ba {α:Type} {c:Prop} [Decidable c] {o:Option α} {K:α->Prop}:bO (if c then o else an) K=(c/\bO o K):=by by_cases h:c<;>simp[h,bO]
def eF (h:fI o e=an) (w:hv o e H=an):cS P fr o e H K=bO (pv o e) fun v=>K v H:=by simp only[cS,h,gE];cases c:pv o e<;>simp[bO,w]
def nh (h:fI o e=an) (w:pv o e=an):cS P fr o e H K=bO (hv o e H) fun v=>K v.1 v.2:=by simp only[cS,h,gE,w];cases c:hv o e H<;>simp[bO]
section ops
variable {x y z:Opd} {k:Nat}
@[go_sem] def ahx:cS P fr (.mv x) e H K=K (x.ev e) H:=(rfl)
def Wc (c a b:AV) (K:AV->Prop):Prop:=bO (match c with | .c (.bool t)=>ak (if t then a else b) | _=>an) K
def aeL:cS P fr (.pick x y z) e H K=Wc (x.ev e) (y.ev e) (z.ev e) (AtH K H):=(eF rfl rfl)
def aeC {t:Bool} {a b:AV} {K:AV->Prop}:Wc (.v0 t) a b K=K (if t then a else b):=(rfl)
def af9 {z:List AV}:cS P fr (.new k z) e H K=((ae z=k/\z.all bB=aq)/\K (.ptr (ae H) 0 0 0) (H++[ak ⟨k,0,[z]⟩])):=by rw[nh rfl rfl];simp only[hv,fD]
def afY:cS P fr (.box x) e H K=((x.ev e).cells.all dM=aq/\K (.fp (x.ev e).cells 0) H):=by rw[eF rfl rfl];simp only[pv,fD]
def aeJ:cS P fr (.ug x) e H K=((x.ev e).cells.all bB=aq/\K (.ptr (ae H) 0 0 0) (H++[ak ⟨(x.ev e).cells.length,0,[(x.ev e).cells]⟩])):=by rw[nh rfl rfl];simp only[hv,fD]
def ahm {z:List AV} {h:List (Nat × Nat × Opd)}:cS P fr (.bd z h) e H K=((h.all (fun p=>dA (p.2.2.ev e))=aq)/\bO (q9 z (h.map fun p=>(p.1,p.2.1,p.2.2.ev e))) (Yb K H)):=by rw[eF rfl rfl];simp only[pv,Ba,zW];rfl
def ahn:cS P fr (.bs k h) e H K=(h.all (fun p=>(p.ev e).cells.all dM&&(p.ev e).cells.length==k)=aq/\K (.seq k aq (h.map fun p=>(p.ev e).cells)) H):=by rw[eF rfl rfl];simp only[pv,fD]
def afZ:cS P fr (.yf k h) e H K=(h.all (fun p=>(p.ev e).cells.all bB&&(p.ev e).cells.length==k)=aq/\K (.sl k (ae H) 0 0 (ae h)) (H++[ak ⟨k,0,h.map fun p=>(p.ev e).cells⟩])):=by rw[nh rfl rfl];simp only[hv,fD]
attribute [go_sem] aeL aeC af9 afY aeJ ahm ahn afZ
def NcP (v:AV) (K:AV->Prop):Prop:=bO (match v with
  | .ptr id v i o=>ak (AV.ptr id v i o)
  | .fp cs o=>ak (.fp cs o)
  | .fn f a b=>ak (.fn f a b)
  | _=>an) K
def ahz:cS P fr (.nc x) e H K=NcP (x.ev e) (AtH K H):=(eF rfl rfl)
def aeB {id v i o:Nat} {K:AV->Prop}:NcP (.ptr id v i o) K=K (.ptr id v i o):=(rfl)
attribute [go_sem] ahz aeB
def gG (op:BinOp) (x y:AV) (K:AV->Prop):Prop:=bO (lV op x y) K
@[go_sem] def afX:cS P fr (.bin h x y) e H K=gG h (x.ev e) (y.ev e) (AtH K H):=(eF rfl rfl)
def xD (t:IntKind) (m n:Int):Int:=t.wrap (BitVec.ofInt t.bits m ||| BitVec.ofInt t.bits n).toNat
def EV (t:IntKind) (m n:Int):Int:=t.wrap (BitVec.ofInt t.bits m &&& BitVec.ofInt t.bits n).toNat
def Gf (t:IntKind) (m n:Int):Int:=t.wrap (BitVec.ofInt t.bits m ^^^ BitVec.ofInt t.bits n).toNat
section bin
variable {t t':IntKind} {m n:Int} {K:AV->Prop}
def adJ:gG .add (.c (.int t m)) (.c (.int t n)) K=K (.c (.int t (t.wrap (m+n)))):=by simp[gG,lV,sj,bO]
def adX:gG .sub (.c (.int t m)) (.c (.int t n)) K=K (.c (.int t (t.wrap (m - n)))):=by simp[gG,lV,sj,bO]
def adR:gG .mul (.c (.int t m)) (.c (.int t n)) K=K (.c (.int t (t.wrap (m*n)))):=by simp[gG,lV,sj,bO]
def adT:gG .quo (.c (.int t m)) (.c (.int t n)) K=(n≠0/\K (.c (.int t (t.wrap (m.tdiv n))))):=by by_cases h:n=0<;>simp[gG,lV,sj,bO,h]
def adU:gG .rem (.c (.int t m)) (.c (.int t n)) K=(n≠0/\K (.c (.int t (m.tmod n)))):=by by_cases h:n=0<;>simp[gG,lV,sj,bO,h]
def adM:gG .eql (.c (.int t m)) (.c (.int t n)) K=K (.v0 (decide (m=n))):=by simp[gG,lV,sj,bO]
def adS:gG .neq (.c (.int t m)) (.c (.int t n)) K=K (.v0 (!decide (m=n))):=by simp[gG,lV,sj,bO]
def adQ:gG .lss (.c (.int t m)) (.c (.int t n)) K=K (.v0 (decide (m < n))):=by simp[gG,lV,sj,bO]
def adP:gG .leq (.c (.int t m)) (.c (.int t n)) K=K (.v0 (decide (m<=n))):=by simp[gG,lV,sj,bO]
def adO:gG .gtr (.c (.int t m)) (.c (.int t n)) K=K (.v0 (decide (n < m))):=by simp[gG,lV,sj,bO]
def adN:gG .geq (.c (.int t m)) (.c (.int t n)) K=K (.v0 (decide (n<=m))):=by simp[gG,lV,sj,bO]
def adV:gG .shl (.c (.int t m)) (.c (.int t' n)) K=(0<=n/\K (.c (.int t (t.wrap (m*2 ^ (min (az n) t.bits)))))):=by
 by_cases h:n < 0
 .simp[gG,lV,Ag,bO,h];intro w;omega
 .simp[gG,lV,Ag,bO,h];intro _;omega
def adW:gG .shr (.c (.int t m)) (.c (.int t' n)) K=(0<=n/\K (.c (.int t (m.fdiv (2 ^ (min (az n) t.bits)))))):=by
 by_cases h:n < 0
 .simp[gG,lV,Ag,bO,h];intro w;omega
 .simp[gG,lV,Ag,bO,h];intro _;omega
def aeZ:gG .or (.c (.int t m)) (.c (.int t n)) K=K (.c (.int t (xD t m n))):=by simp[gG,lV,sj,CV,bO,xD]
def adK:gG .and (.c (.int t m)) (.c (.int t n)) K=K (.c (.int t (EV t m n))):=by simp[gG,lV,sj,CV,bO,EV]
def adY:gG .xor (.c (.int t m)) (.c (.int t n)) K=K (.c (.int t (Gf t m n))):=by simp[gG,lV,sj,CV,bO,Gf]
attribute [go_sem] adJ adX adR adT adU adM adS adQ adP adO adN adV adW aeZ adK adY
end bin
def Yc (neg:Bool) (a b:AV) (K:AV->Prop):Prop:=bO (match a,b with
  | .c (.bool x),.c (.bool y)=>ak (AV.c (.bool (neg ^^ (x==y))))
  | _,_=>an) K
def afW:cS P fr (.beq neg x y) e H K=Yc neg (x.ev e) (y.ev e) (AtH K H):=(eF rfl rfl)
def aeY {neg a b:Bool} {K:AV->Prop}:Yc neg (.v0 a) (.v0 b) K=K (.v0 (neg ^^ (a==b))):=(rfl)
attribute [go_sem] afW aeY
def UnP (op:UnOp) (a:AV) (K:AV->Prop):Prop:=bO (ZV op a) K
def ahB:cS P fr (.un h x) e H K=UnP h (x.ev e) (AtH K H):=(eF rfl rfl)
def agq {t:IntKind} {n:Int} {K:AV->Prop}:UnP .neg (.c (.int t n)) K=K (.c (.int t (t.wrap (0 - n)))):=(rfl)
def ags {t:IntKind} {n:Int} {K:AV->Prop}:UnP .xor (.c (.int t n)) K=K (.c (.int t (Gf t (if t.signed then -1 else t.max) n))):=(rfl)
def agr {b:Bool} {K:AV->Prop}:UnP .not (.v0 b) K=K (.c (.bool !b)):=(rfl)
attribute [go_sem] ahB agq ags agr
def CvP (k:IntKind) (a:AV) (K:AV->Prop):Prop:=bO (match a with
  | .c (.int _ n)=>ak (AV.c (.int k (k.wrap n)))
  | _=>an) K
def aho {k:IntKind}:cS P fr (.cv k x) e H K=CvP k (x.ev e) (AtH K H):=(eF rfl rfl)
def agC {k t:IntKind} {n:Int} {K:AV->Prop}:CvP k (.c (.int t n)) K=K (.c (.int k (k.wrap n))):=(rfl)
def ahu {f:FuncId} {a b:List Opd}:cS P fr (.mf f a b) e H K=K (.fn f (a.map (·.ev e)) (b.map (·.ev e))) H:=(rfl)
attribute [go_sem] aho agC ahu
def Yh (k:Nat) (z:List AV) (l:AV) (K:AV->Prop):Prop:=bO (match l with
  | .c (.int .i64 n)=>if (0<=n/\n<=4294967296)/\z.all dM=aq/\ae z=k then ak (AV.seq k aq (aA (az n) z)) else an
  | _=>an) K
def af8 {z:List AV} {l:Opd}:cS P fr (.Ju k z l) e H K=Yh k z (l.ev e) (AtH K H):=(eF rfl rfl)
def afG {z:List AV} {n:Int} {K:AV->Prop}:Yh k z (.q0 n) K=(((0<=n/\n<=4294967296)/\z.all dM=aq/\ae z=k)/\K (.seq k aq (aA (az n) z))):=fD
attribute [go_sem] af8 afG
def FaP (off:Nat) (a:AV) (K:AV->Prop):Prop:=bO (match a with
  | .ptr id v i o=>ak (AV.ptr id v i (o+off))
  | .fp cs o=>ak (.fp cs (o+off))
  | _=>an) K
def ahq:cS P fr (.fa x off) e H K=FaP off (x.ev e) (AtH K H):=(eF rfl rfl)
def afg {off o:Nat} {cs:List AV} {K:AV->Prop}:FaP off (.fp cs o) K=K (.fp cs (o+off)):=(rfl)
def aec {off id v i o:Nat} {K:AV->Prop}:FaP off (.ptr id v i o) K=K (.ptr id v i (o+off)):=(rfl)
attribute [go_sem] ahq afg aec
def iX (ag:Bool) (cs:List AV) (o k:Nat) (K:AV->Prop):Prop:=bO (gC ag cs o k) K
def abU {cs:List AV} {o k:Nat} {K:AV->Prop}:iX aq cs o k K=(o+k<=ae cs/\K (.agg ((cs.drop o).take k))):=by simp[iX,gC,fD]
def abV {cs:List AV} {o k:Nat} {K:AV->Prop}:iX ar cs o k K=bO cs[o]? K:=(rfl)
attribute [go_sem] abU abV
def FdP (off:Nat) (ag:Bool) (k:Nat) (a:AV) (K:AV->Prop):Prop:=bO (match a with
  | .agg cs=>gC ag cs off k
  | _=>an) K
@[go_sem] def ahr:cS P fr (.fd x off ag k) e H K=FdP off ag k (x.ev e) (AtH K H):=(eF rfl rfl)
def mZ (k:Nat) (a i:AV) (K:AV->Prop):Prop:=bO (Kr k a i) K
def af4:cS P fr (.Fy x y k) e H K=mZ k (x.ev e) (y.ev e) (AtH K H):=(eF rfl rfl)
def M9 {α:Type} [Inhabited α] {g:α->List AV} {l:List α} {v:Nat} {f:Bool} {t:IntKind} {n:Int} {K:AV->Prop}:mZ k (.seq v f (l.map g)) (.c (.int t n)) K=((v=k/\0<=n/\n < (ae l:Int))/\K (.fp (g (af l (az n) ah)) 0)):=by
 simp only[mZ,Kr,fD,ah3];refine propext ⟨fun ⟨⟨w,j,q⟩,h⟩=>⟨⟨w,j,q⟩,?_⟩,fun ⟨⟨w,j,q⟩,h⟩=>⟨⟨w,j,q⟩,?_⟩⟩
 .have:az n < ae l:=aD;simpa[af,this] using h
 .have:az n < ae l:=aD;simpa[af,this] using h
def Ch {h id ver i m:Nat} {t:IntKind} {n:Int} {K:AV->Prop}:mZ k (.sl h id ver i m) (.c (.int t n)) K=((h=k/\0<=n/\n < (m:Int))/\K (.ptr id ver (i+az n) 0)):=fD
attribute [go_sem] af4 M9 Ch
def IxP (n k:Nat) (ag:Bool) (a i:AV) (K:AV->Prop):Prop:=bO (YX n k ag a i) K
@[go_sem] def ahs {n:Nat} {ag:Bool}:cS P fr (.ix x y n k ag) e H K=IxP n k ag (x.ev e) (y.ev e) (AtH K H):=(eF rfl rfl)
def ExP (i:Nat) (a:AV) (K:AV->Prop):Prop:=bO (match a with
  | .bM vs=>vs[i]?
  | _=>an) K
def ahp:cS P fr (.ex x i) e H K=ExP i (x.ev e) (AtH K H):=(eF rfl rfl)
def aeb {i:Nat} {vs:List AV} {K:AV->Prop}:ExP i (.bM vs) K=bO vs[i]? K:=(rfl)
attribute [go_sem] ahp aeb
def gH (a:AV) (K:AV->Prop):Prop:=bO ((Kt a).map fun n=>AV.c (.int .i64 (n:Int))) K
def af7:cS P fr (.len x) e H K=gH (x.ev e) (AtH K H):=(eF rfl rfl)
def acH {K:AV->Prop}:gH .nil K=K (.q0 0):=(rfl)
def Ng {α:Type} {g:α->List AV} {l:List α} {h:Nat} {f:Bool} {K:AV->Prop}:gH (.seq h f (l.map g)) K=K (.q0 (ae l:Int)):=by simp[gH,Kt,bO]
def aey {h id ver i n:Nat} {K:AV->Prop}:gH (.sl h id ver i n) K=K (.q0 (n:Int)):=(rfl)
attribute [go_sem] af7 acH Ng aey
def Bq (neg:Bool) (a:AV) (K:AV->Prop):Prop:=bO (match a with
  | .nil=>ak (AV.c (.bool (neg ^^ aq)))
  | .seq _ _ (_::_)=>ak (.c (.bool neg))
  | .c (.slice a 0 _)=>ak (.c (.bool (neg ^^ a.isNone)))
  | _=>an) K
def af3:cS P fr (.gm neg x) e H K=Bq neg (x.ev e) (AtH K H):=(eF rfl rfl)
def afc {neg:Bool} {p:Option Addr} {cap:Nat} {K:AV->Prop}:Bq neg (.c (.slice p 0 cap)) K=K (.v0 (neg ^^ p.isNone)):=(rfl)
def MX {K:AV->Prop}:Bq ar .nil K=K (.v0 aq):=(rfl)
def R4 {K:AV->Prop}:Bq aq .nil K=K (.v0 ar):=(rfl)
def HR {neg:Bool} {α:Type} {g:α->List AV} {l:List α} {h:Nat} {f:Bool} {K:AV->Prop}:Bq neg (.seq h f (l.map g)) K=(l≠[]/\K (.v0 neg)):=by cases l<;>simp[Bq,bO]
attribute [go_sem] af3 afc MX R4 HR
def TW (neg:Bool) (ks:List Bool) (a b:AV) (K:AV->Prop):Prop:=bO (match a,b with
  | .agg cs,.agg ds=>(HO ks cs ds).map fun b=>AV.c (.bool (neg ^^ b))
  | _,_=>an) K
@[go_sem] def af2:cS P fr (.IN neg h x y) e H K=TW neg h (x.ev e) (y.ev e) (AtH K H):=(eF rfl rfl)
def TY (gS:List Nat) (a:AV) (K:AV->Prop):Prop:=bO (match a with
  | .c (.int _ n)=>if 0<=n then (gS[az n]?).map fun (b:Nat)=>AV.c (.int .u8 (b:Int)) else an
  | _=>an) K
def Yg (ag:Bool) (k:Nat) (a:AV) (K:AV->Prop):Prop:=bO (match a with
  | .fp cs o=>gC ag cs o k
  | _=>an) K
def af6:cS P fr (.Fz x ag k) e H K=Yg ag k (x.ev e) (AtH K H):=(eF rfl rfl)
def aex {ag:Bool} {cs:List AV} {o:Nat} {K:AV->Prop}:Yg ag k (.fp cs o) K=iX ag cs o k K:=(rfl)
def af5:cS P fr (.Jc gS x) e H K=TY gS (x.ev e) (AtH K H):=(eF rfl rfl)
attribute [go_sem] af6 aex af5
def MxP (up:Bool) (l:List AV) (K:AV->Prop):Prop:=bO (match l with
  | [.c (.int k x),.c (.int _ y)]=>ak (AV.c (.int k (if (if up then y>x else y < x) then y else x)))
  | _=>an) K
def ahy:cS P fr (.mx [x,y]) e H K=MxP aq [x.ev e,y.ev e] (AtH K H):=(eF rfl rfl)
def ahw:cS P fr (.mn [x,y]) e H K=MxP ar [x.ev e,y.ev e] (AtH K H):=(eF rfl rfl)
def ag3 {t t':IntKind} {m n:Int} {K:AV->Prop}:MxP aq [.c (.int t m),.c (.int t' n)] K=K (.c (.int t (max m n))):=by simp only[MxP,bO,ajs];congr 3;omega
def ag1 {t t':IntKind} {m n:Int} {K:AV->Prop}:MxP ar [.c (.int t m),.c (.int t' n)] K=K (.c (.int t (min m n))):=by simp only[MxP,bO,ah5,ajO];congr 3;omega
attribute [go_sem] ahy ahw ag3 ag1
def TS (m:Nat) (a:AV) (K:Nat->Prop):Prop:=bO (match intOf? a with
  | some n=>if 0<=n/\n<=(m:Int) then ak (az n) else an
  | none=>an) K
@[go_sem] def ae0 {m:Nat} {t:IntKind} {n:Int} {K:Nat->Prop}:TS m (.c (.int t n)) K=((0<=n/\n<=(m:Int))/\K (az n)):=fD
end ops
def abx:(AV.agg cs).cells=cs:=(rfl)
def adZ:(AV.c v).cells=[.c v]:=(rfl)
def aby:AV.nil.cells=[.nil]:=(rfl)
def abA:(AV.seq k f xs).cells=[.seq k f xs]:=(rfl)
def abz {a b c d:Nat}:(AV.ptr a b c d).cells=[.ptr a b c d]:=(rfl)
def acb {a b c d m:Nat}:(AV.sl a b c d m).cells=[.sl a b c d m]:=(rfl)
def ahL:dM (.c v)=aq:=(rfl)
def afx:dM .nil=aq:=(rfl)
def afy:dM (.seq k f xs)=aq:=(rfl)
def ahM:bB (.c v)=aq:=(rfl)
def afA:bB .nil=aq:=(rfl)
def afC:bB (.seq k f xs)=aq:=(rfl)
def afB {a b c d:Nat}:bB (.ptr a b c d)=aq:=(rfl)
def agU {a b c d m:Nat}:bB (.sl a b c d m)=aq:=(rfl)
def ahO:dA (.c v)=aq:=(rfl)
def afI:dA .nil=aq:=(rfl)
def afJ:dA (.seq k f xs)=aq:=(rfl)
def ag4 {a b c d m:Nat}:dA (.sl a b c d m)=aq:=(rfl)
def afH:dA (.agg a)=aq:=(rfl)
def aca {α:Type} {p:α->Bool}:List.all [] p=aq:=(rfl)
def abp {α:Type} {p:α->Bool} {a:α} {l:List α}:List.all (a::l) p=(p a&&l.all p):=(rfl)
def aeX:(aq&&b)=b:=(rfl)
def agZ {α γ:Type} {f:α->γ}:List.map f []=[]:=(rfl)
def agY {α γ:Type} {f:α->γ} {a:α} {l:List α}:List.map f (a::l)=f a::l.map f:=(rfl)
def abc:(True/\p)=p:=akj p
def agx:(p/\True)=p:=alV p
def ahC {p:Prop}:(True->p)=p:=aO
def agF:(False->p)=True:=aO
def ahH:decide True=aq:=(rfl)
def ahG:decide False=ar:=(rfl)
def n_t:(¬True)=False:=aO
def n_f:(¬False)=True:=aO
def agE [Decidable p]:(decide p=aq)=p:=aO
def agG:(ar=aq)=False:=aO
def nn:(¬¬p)=p:=aO
def agX {α:Type}:ae ([]:List α)=0:=(rfl)
def agW {α:Type} {a:α} {l:List α}:ae (a::l)=ae l+1:=(rfl)
def agz {α:Type} {l:List α}:[]++l=l:=(rfl)
def agy {α:Type} {a:α} {l m:List α}:(a::l)++m=a::(l++m):=(rfl)
def Zw {z:List AV} {K:List AV->Prop}:bO (q9 z []) K=K z:=(rfl)
def Ya {z:List AV} {o k:Nat} {a:AV} {r:List (Nat × Nat × AV)} {K:List AV->Prop}:bO (q9 z ((o,k,a)::r)) K=((ae a.cells=k/\o+k<=ae z)/\bO (q9 (gD z o a.cells) r) K):=by simp only[q9,Ba]
def acO:gD l o cs=l.take o++cs++l.drop (o+ae cs):=(rfl)
def ahh {α:Type} {a b:α} {l:List α}:(a::l).set 0 b=b::l:=(rfl)
def ahd {α:Type} {x a b:α} {l:List α}:(x::a::l).set 1 b=x::b::l:=(rfl)
def ahe {α:Type} {x y a b:α} {l:List α}:(x::y::a::l).set 2 b=x::y::b::l:=(rfl)
def ahf {α:Type} {x y z a b:α} {l:List α}:(x::y::z::a::l).set 3 b=x::y::z::b::l:=(rfl)
def agJ {x:AV} {l:List AV} {K:AV->Prop}:bO (x::l)[0]? K=K x:=(rfl)
def agK {h:AV} {x:AV} {l:List AV} {K:AV->Prop}:bO (h::x::l)[1]? K=K x:=(rfl)
def agL {h w:AV} {x:AV} {l:List AV} {K:AV->Prop}:bO (h::w::x::l)[2]? K=K x:=(rfl)
def agM {h w a:AV} {x:AV} {l:List AV} {K:AV->Prop}:bO (h::w::a::x::l)[3]? K=K x:=(rfl)
def agN {h w a b:AV} {x:AV} {l:List AV} {K:AV->Prop}:bO (h::w::a::b::x::l)[4]? K=K x:=(rfl)
def agO {h w a b c:AV} {x:AV} {l:List AV} {K:AV->Prop}:bO (h::w::a::b::c::x::l)[5]? K=K x:=(rfl)
def agP {h w a b c f:AV} {x:AV} {l:List AV} {K:AV->Prop}:bO (h::w::a::b::c::f::x::l)[6]? K=K x:=(rfl)
def agQ {h w a b c f g:AV} {x:AV} {l:List AV} {K:AV->Prop}:bO (h::w::a::b::c::f::g::x::l)[7]? K=K x:=(rfl)
def agR {h w a b c f g i:AV} {x:AV} {l:List AV} {K:AV->Prop}:bO (h::w::a::b::c::f::g::i::x::l)[8]? K=K x:=(rfl)
def agc {α:Type} {l:List α}:l.take 0=[]:=(rfl)
def ae2 {α:Type} {l:List α}:l.drop 0=l:=(rfl)
def agd {α:Type} {h:α} {l:List α}:(h::l).take 1=h::[]:=(rfl)
def ae3 {α:Type} {h:α} {l:List α}:(h::l).drop 1=l:=(rfl)
def age {α:Type} {h w:α} {l:List α}:(h::w::l).take 2=h::w::[]:=(rfl)
def ae4 {α:Type} {h w:α} {l:List α}:(h::w::l).drop 2=l:=(rfl)
def agf {α:Type} {h w a:α} {l:List α}:(h::w::a::l).take 3=h::w::a::[]:=(rfl)
def ae5 {α:Type} {h w a:α} {l:List α}:(h::w::a::l).drop 3=l:=(rfl)
def agh {α:Type} {h w a b:α} {l:List α}:(h::w::a::b::l).take 4=h::w::a::b::[]:=(rfl)
def ae6 {α:Type} {h w a b:α} {l:List α}:(h::w::a::b::l).drop 4=l:=(rfl)
def agi {α:Type} {h w a b c:α} {l:List α}:(h::w::a::b::c::l).take 5=h::w::a::b::c::[]:=(rfl)
def ae7 {α:Type} {h w a b c:α} {l:List α}:(h::w::a::b::c::l).drop 5=l:=(rfl)
def agj {α:Type} {h w a b c f:α} {l:List α}:(h::w::a::b::c::f::l).take 6=h::w::a::b::c::f::[]:=(rfl)
def ae8 {α:Type} {h w a b c f:α} {l:List α}:(h::w::a::b::c::f::l).drop 6=l:=(rfl)
def agk {α:Type} {h w a b c f g:α} {l:List α}:(h::w::a::b::c::f::g::l).take 7=h::w::a::b::c::f::g::[]:=(rfl)
def ae9 {α:Type} {h w a b c f g:α} {l:List α}:(h::w::a::b::c::f::g::l).drop 7=l:=(rfl)
def agl {α:Type} {h w a b c f g i:α} {l:List α}:(h::w::a::b::c::f::g::i::l).take 8=h::w::a::b::c::f::g::i::[]:=(rfl)
def afa {α:Type} {h w a b c f g i:α} {l:List α}:(h::w::a::b::c::f::g::i::l).drop 8=l:=(rfl)
def ago:Int.toNat 0=0:=(rfl)
def agp {n:Nat}:Int.toNat (n:Int)=n:=(rfl)
def ag9 {α:Type} {a:α}:aA 0 a=[]:=(rfl)
def ahN:((0:Int)<=0)=True:=aO
attribute [go_sem] abx adZ aby abA abz acb ahL afx afy ahM afA afC afB agU ahO afI afJ ag4 afH aca abp aeX agZ agY abc agx ahC agF ahH ahG n_t n_f agE agG nn agX agW agz agy Zw Ya acO ahh ahd ahe ahf agJ agK agL agM agN agO agP agQ agR agc ae2 agd ae3 age ae4 agf ae5 agh ae6 agi ae7 agj ae8 agk ae9 agl afa ago agp ag9 ahN
def bk (H:aF) (id ver:Nat) (K:bz->Prop):Prop:=bO (aI H id ver) K
def abS {k v ver:Nat} {xs:List (List AV)} {r:aF} {K:bz->Prop}:bk (ak ⟨k,v,xs⟩::r) 0 ver K=(v=ver/\K ⟨k,v,xs⟩):=by simp[bk,aI,fD]
def abR {o:Option bz} {r:aF} {id ver:Nat} {K:bz->Prop}:bk (o::r) (id+1) ver K=bk r id ver K:=by simp[bk,aI]
attribute [go_sem] abS abR
def ElP (xs:List (List AV)) (i:Nat) (K:List AV->Prop):Prop:=bO xs[i]? K
def ad9 {x:List AV} {K:List AV->Prop}:ElP [x] 0 K=K x:=(rfl)
def ad8 {α:Type} [Inhabited α] {g:α->List AV} {l:List α} {i:Nat} {K:List AV->Prop}:ElP (l.map g) i K=(i < ae l/\K (g (af l i ah))):=by
 by_cases h:i < ae l
 .simp[ElP,h,bO,af]
 .simp[ElP,h,bO]
attribute [go_sem] ad9 ad8
section ops
variable {x y z:Opd} {k:Nat}
def Qr (ag:Bool) (o k:Nat) (K:AV->Prop):List AV->Prop:=fun x=>iX ag x o k K
@[go_sem] def GG {ag:Bool} {o:Nat} {K:AV->Prop} {x:List AV}:Qr ag o k K x=iX ag x o k K:=(rfl)
def LdO (ag:Bool) (i o k:Nat) (K:AV->Prop):bz->Prop:=fun ob=>ElP ob.xs i (Qr ag o k K)
@[go_sem] def Po {ag:Bool} {i o h v:Nat} {xs:List (List AV)} {K:AV->Prop}:LdO ag i o k K ⟨h,v,xs⟩=ElP xs i (Qr ag o k K):=(rfl)
def LdP (ag:Bool) (k:Nat) (a:AV) (H:aF) (K:AV->Prop):Prop:=bO (match a with
  | .fp cs o=>gC ag cs o k
  | .ptr id ver i o=>(aI H id ver).bind fun ob=>(ob.xs[i]?).bind fun x=>gC ag x o k
  | _=>an) K
def aht:cS P fr (.ld x ag k) e H K=LdP ag k (x.ev e) H (AtH K H):=by rw[nh rfl rfl];simp only[hv,LdP];generalize x.ev e=a;cases a<;>first | rfl | (simp only[zW,kC];rfl)
def afF {ag:Bool} {cs:List AV} {o:Nat} {K:AV->Prop}:LdP ag k (.fp cs o) H K=iX ag cs o k K:=(rfl)
def Ci {ag:Bool} {id ver i o:Nat} {K:AV->Prop}:LdP ag k (.ptr id ver i o) H K=bk H id ver (LdO ag i o k K):=by simp only[LdP,kC];rfl
attribute [go_sem] aht afF Ci
def StX (id ver i o k:Nat) (cs:List AV) (ok:Nat) (xs:List (List AV)) (H:aF) (K:aF->Prop):List AV->Prop:=fun x=>(ae cs=k/\o+k<=ae x/\cs.all bB=aq)/\K (H.set id (ak ⟨ok,ver,xs.set i (gD x o cs)⟩))
@[go_sem] def ZO {id ver i o k h:Nat} {cs x:List AV} {xs:List (List AV)} {K:aF->Prop}:StX id ver i o k cs h xs H K x=((ae cs=k/\o+k<=ae x/\cs.all bB=aq)/\K (H.set id (ak ⟨h,ver,xs.set i (gD x o cs)⟩))):=(rfl)
def StO (id ver i o k:Nat) (cs:List AV) (H:aF) (K:aF->Prop):bz->Prop:=fun ob=>ElP ob.xs i (StX id ver i o k cs ob.k ob.xs H K)
@[go_sem] def ZN {id ver i o k h v:Nat} {cs:List AV} {xs:List (List AV)} {K:aF->Prop}:StO id ver i o k cs H K ⟨h,v,xs⟩=ElP xs i (StX id ver i o k cs h xs H K):=(rfl)
def V9 (K:AV->aF->Prop):aF->Prop:=fun H=>K .ba H
@[go_sem] def agD:V9 K H=K .ba H:=(rfl)
def StP (k:Nat) (a v:AV) (H:aF) (K:aF->Prop):Prop:=bO (match a with
  | .ptr id ver i o=>(aI H id ver).bind fun ob=>(ob.xs[i]?).bind fun x =>
   if ae v.cells=k/\o+k<=ae x/\v.cells.all bB=aq then ak (AV.ba,H.set id (ak ⟨ob.k,ver,ob.xs.set i (gD x o v.cells)⟩)) else an
  | _=>an) fun v=>K v.2
def ahA:cS P fr (.st x y k) e H K=StP k (x.ev e) (y.ev e) H (V9 K):=by rw[nh rfl rfl];simp only[hv,StP];generalize x.ev e=a;cases a<;>first | rfl | (simp only[kC,fD];rfl)
def KH {id ver i o:Nat} {v:AV} {K:aF->Prop}:StP k (.ptr id ver i o) v H K=bk H id ver (StO id ver i o k v.cells H K):=by simp only[StP,kC,fD];rfl
attribute [go_sem] ahA KH
def MkP (k:Nat) (z:List AV) (l c:AV) (H:aF) (K:AV->aF->Prop):Prop:=bO (match l,c with
  | .c (.int .i64 n),.c (.int .i64 m)=>if 0<=n/\n<=m/\m<=4294967296/\ae z=k/\z.all bB=aq then ak (AV.sl k (ae H) 0 0 (az n),H++[ak ⟨k,0,aA (az n) z⟩]) else an
  | _,_=>an) fun v=>K v.1 v.2
def ahv {z:List AV}:cS P fr (.mk k z x y) e H K=MkP k z (x.ev e) (y.ev e) H K:=nh rfl rfl
def ag0 {z:List AV} {n m:Int} {K:AV->aF->Prop}:MkP k z (.q0 n) (.q0 m) H K=((0<=n/\n<=m/\m<=4294967296/\ae z=k/\z.all bB=aq)/\K (.sl k (ae H) 0 0 (az n)) (H++[ak ⟨k,0,aA (az n) z⟩])):=fD
attribute [go_sem] ahv ag0
def qW (e:Env) (m d:Nat) (b:Option Opd) (K:Nat->Prop):Prop:=bO (bL e m d b) K
def aas {m d:Nat} {K:Nat->Prop}:qW e m d an K=K d:=(rfl)
def aat {m d:Nat} {b:Opd} {K:Nat->Prop}:qW e m d (ak b) K=TS m (b.ev e) K:=by simp only[qW,bL,TS];generalize intOf? (b.ev e)=o;cases o<;>rfl
attribute [go_sem] aas aat
def yX (k:Nat) (e:Env) (lo hi:Option Opd) (a:AV) (H:aF) (K:AV->Prop):Prop:=bO (match oY e lo hi an k a with
  | some v=>ak v
  | none=>match a with
   | .sl k' id ver i n=>(aI H id ver).bind fun ob=>if k'=k then (bL e (ae ob.xs - i) n hi).bind fun h=>(bL e h 0 lo).bind fun l=>ak (AV.sl k id ver (i+l) (h - l)) else an
   | _=>an) K
@[go_sem] def aga:cS P fr (.rX x lo c an k) e H K=yX k e lo c (x.ev e) H (AtH K H):=by
 unfold cS;simp only[fI,gE,pv,yX,hv];generalize x.ev e=a at *;generalize oY e lo c an k a=o;cases o with
 | some v=>rfl
 | none =>
  cases a<;>first | rfl | skip
  simp only;generalize aI H _ _=f;cases f with
  | none=>rfl
  | some f =>
   simp only[aix];split
   .rename_i w;split at w
    case isFalse=>simp at w
    rename_i b;rw[ah1 b];have ⟨h,g,w⟩:=ah7.1 w;have ⟨l,i,w⟩:=ah7.1 w;simp at w;obtain ⟨rfl,rfl⟩:=w;simp[g,i,bO,AtH]
   .rename_i w;split at w
    .rename_i b;rw[ah1 b];generalize bL e (ae f.xs - _) _ c=j at *;cases j with
     | none=>rfl
     | some h =>
      simp only[aix] at w ⊢;generalize bL e h 0 lo=m at *;cases m with
      | none=>rfl
      | some l=>simp at w
    .rename_i b;rw[ah0 b];rfl
def FW {lo h:Option Opd} {w:Nat} {f:Bool} {xs:List (List AV)} {K:AV->Prop}:yX k e lo h (.seq w f xs) H K=bO (oY e lo h an k (.seq w f xs)) K:=by unfold yX;generalize oY e lo h an k (.seq w f xs)=o;cases o<;>rfl
def T8 {α:Type} (k h:Nat) (f:Bool) (l:List α) (g:α->List AV) (K:AV->Prop):Nat->Prop:=fun lo=>K (.seq k (f&&decide (h=ae l)) (((l.take h).drop lo).map g))
@[go_sem] def ahU {α:Type} {h lo:Nat} {f:Bool} {l:List α} {g:α->List AV} {K:AV->Prop}:T8 k h f l g K lo=K (.seq k (f&&decide (h=ae l)) (((l.take h).drop lo).map g)):=(rfl)
def Yl {α:Type} (k:Nat) (e:Env) (lo:Option Opd) (f:Bool) (l:List α) (g:α->List AV) (K:AV->Prop):Nat->Prop:=fun h=>qW e h 0 lo (T8 k h f l g K)
def ahT {α:Type} {h:Nat} {lo:Option Opd} {f:Bool} {l:List α} {g:α->List AV} {K:AV->Prop}:Yl k e lo f l g K h=qW e h 0 lo (T8 k h f l g K):=(rfl)
def adk {α:Type} {g:α->List AV} {l:List α} {w:Nat} {f:Bool} {lo h:Option Opd} {K:AV->Prop} :
  yX k e lo h (.seq w f (l.map g)) H K=(w=k/\qW e (ae l) (ae l) h (Yl k e lo f l g K)):=by rw[FW];simp only[oY,ah3,Ba,kC,qW,oI,<-alv,<-akQ];rfl
attribute [go_sem] ahT adk
def Qu (K:AV->Prop):Nat->Prop:=fun _=>K .ba
@[go_sem] def ahk {n:Nat} {K:AV->Prop}:Qu K n=K .ba:=(rfl)
def Qt (e:Env) (lo:Option Opd) (K:AV->Prop):Nat->Prop:=fun h=>qW e h 0 lo (Qu K)
@[go_sem] def ahj {h:Nat} {lo:Option Opd} {K:AV->Prop}:Qt e lo K h=qW e h 0 lo (Qu K):=(rfl)
def Wd (e:Env) (lo hi:Option Opd) (K:AV->Prop):Nat->Prop:=fun m=>qW e m 0 hi (Qt e lo K)
@[go_sem] def ahl {m:Nat} {lo h:Option Opd} {K:AV->Prop}:Wd e lo h K m=qW e m 0 h (Qt e lo K):=(rfl)
def Qv (k:Nat) (e:Env) (lo hi:Option Opd) (m:Opd) (a:AV) (K:AV->Prop):Prop:=bO (oY e lo hi (ak m) k a) K
def aeM:cS P fr (.rX x lo h (ak m) k) e H K=Qv k e lo h m (x.ev e) (AtH K H):=(eF rfl rfl)
def adj {w id ver i n:Nat} {lo:Option Opd} {h m:Opd} {K:AV->Prop}:Qv k e lo (ak h) m (.sl w id ver i n) K=(w=k/\qW e n 0 (ak m) (Wd e lo (ak h) K)):=by simp only[Qv,oY,Ba,kC,qW,amB,ajs,oI];rfl
attribute [go_sem] aeM adj
def j4 (k:Nat) (a b:AV) (H:aF) (K:AV->aF->Prop):Prop:=bO ((dW k H b).bind fun ys=>il k H a ys) fun v=>K v.1 v.2
@[go_sem] def afV:cS P fr (.app x y k) e H K=j4 k (x.ev e) (y.ev e) H K:=nh rfl rfl
def bX (k:Nat) (a:AV) (ys:List (List AV)) (H:aF) (K:AV->aF->Prop):Prop:=bO (il k H a ys) fun v=>K v.1 v.2
@[go_sem] def zh:j4 k a (.seq w f ys) H K=(w=k/\bX k a ys H K):=by simp only[j4,dW,kC,bX];by_cases h:w=k<;>simp[h,bO]
def Uh {y:List AV} {ys:List (List AV)}:il k H .nil (y::ys)=if ae ys+1<=4294967296 then ak (.sl k (ae H) 0 0 (ae ys+1),H++[ak ⟨k,0,y::ys⟩]) else an:=rfl
def Kf {h id ver i n:Nat} {y:List AV} {ys:List (List AV)}:il k H (.sl h id ver i n) (y::ys)=(aI H id ver).bind fun ob =>
  if h=k/\i+n=ae ob.xs then
   if n+(ae ys+1)<=4294967296/\ob.k=k then ak (.sl k id (ver+1) 0 (n+(ae ys+1)),H.set id (ak ⟨k,ver+1,ob.xs.drop i++y::ys⟩)) else an
  else if h=k/\i+n+(ae ys+1)<=ae ob.xs/\ob.k=k then
   ak (.sl k id ver i (n+(ae ys+1)),H.set id (ak ⟨k,ver,ob.xs.take (i+n)++y::ys++ob.xs.drop (i+n+(ae ys+1))⟩))
  else an:=rfl
@[go_sem] def vD {y:List AV} {ys:List (List AV)} {K:AV->aF->Prop}:bX k .nil (y::ys) H K=(ae ys+1<=4294967296/\K (.sl k (ae H) 0 0 (ae ys+1)) (H++[ak ⟨k,0,y::ys⟩])):=by simp only[bX,Uh,fD]
def oM {w id ver i n:Nat} {y:List AV} {ys:List (List AV)} {K:AV->aF->Prop} {xs:List (List AV)} (b:aI H id ver=ak ⟨k,ver,xs⟩) (a:i+n=ae xs) :
  bX k (.sl w id ver i n) (y::ys) H K=(w=k/\n+(ae ys+1)<=4294967296/\K (.sl k id (ver+1) 0 (n+(ae ys+1))) (H.set id (ak ⟨k,ver+1,xs.drop i++y::ys⟩))):=by
 simp only[bX,Kf,b,aix,a,alV];by_cases h:w=k
 .simp[h,fD]
 .simp[h,bO]
def nF (P:Program) (fr:Md) (f:FuncId) (args:List AV) (H:aF) (K:AV->aF->Prop):Prop:=match fr with
 | .any=>∃Post,cR P f args H Post/\∀v H',Post v H'->K v H'
 | .Pf=>∃v H',bR P f args H v H'/\K v H'
 | .aY=>∃v,bR P f args H v H/\K v H
 | .FM=>∃v,Iz P f args v/\K v H
 | .loc=>∃v a ob ob',tv P f args v a ob ob'/\eH H a=ak ob/\K v (H.set a (ak ob'))
def abb:cS P .FM (.mO f args) e H K=nF P .loc f (args.map (·.ev e)) H K:=(rfl)
def aba:cS P .aY (.mO f args) e H K=nF P .Pf f (args.map (·.ev e)) H K:=(rfl)
def aeK:cS P fr (.call f args) e H K=nF P fr f (args.map (·.ev e)) H K:=(rfl)
attribute [go_sem] abb aba aeK
def IA (P:Program) (fr:Md) (a:AV) (args:List AV) (H:aF) (K:AV->aF->Prop):Prop:=match a with
 | .fn f first caps=>nF P fr f (first++args++caps) H K
 | _=>False
def adm:cS P fr (.oN x args) e H K=IA P fr (x.ev e) (args.map (·.ev e)) H K:=by unfold cS;simp only[fI];generalize h:x.ev e=a;cases a<;>first | (cases fr<;>simp[IA,nF,gE,pv,hv,Ib];done) | simp[IA,nF,gE,pv,hv]
def abw:IA P fr (.fn f first h) args H K=nF P fr f (first++args++h) H K:=(rfl)
attribute [go_sem] adm abw
def aH (h:bg P f args r) (w:args.all bJ=aq) (b:bJ r=aq) (a:K r H) (c:fr ≠ .loc:=by exact Md.noConfusion):nF P fr f args H K:=by
 cases fr with
 | loc=>exact absurd rfl c
 | any=>exact ⟨_,(h.call H w b).q,fun v H' g=>by obtain ⟨rfl,rfl⟩:=g;exact a⟩
 | Pf=>exact ⟨r,H,h.call H w b,a⟩
 | aY=>exact ⟨r,h.call H w b,a⟩
 | FM=>exact ⟨r,h.aau w b,a⟩
def cY (h:bg P f args r) (a:q) (e:K r H=q:=by simp only[go_sem,↓reduceIte,Nat.reduceLeDiff,ahZ];rfl) (b:args.all bJ=aq:=by rfl) (c:bJ r=aq:=by rfl) (w:fr ≠ .loc:=by exact Md.noConfusion):nF P fr f args H K:=aH h b c (e.mpr a) w
def cX (h:bg P f args r) (a:K r H) (b:args.all bJ=aq:=by rfl) (c:bJ r=aq:=by rfl) (w:fr ≠ .loc:=by exact Md.noConfusion):nF P fr f args H K:=aH h b c a w
def dS (h:bR P f args H r H') (w:K r H'):nF P .any f args H K:=⟨_,h.q,fun v G a=>by obtain ⟨rfl,rfl⟩:=a;exact w⟩
def qt (h:tv P f args r a ob w) (b:eH H a=ak ob) (c:K r (H.set a (ak w))):nF P .loc f args H K:=⟨r,a,ob,w,h,b,c⟩
def jJ (h:bR P f args H r H') (w:K r H'):nF P .Pf f args H K:=⟨r,H',h,w⟩
def cQ {f:FuncId} {args:List AV} {Post:AV->aF->Prop} (h:cR P f args H Post) (w:∀v G,Post v G->K v G):nF P .any f args H K:=⟨Post,h,w⟩
end ops
def xN (e:Env) (H:aF) (rs:List jZ) (n:Nat) (r:AV) (H2:aF):Prop:=bO (ng e H rs) fun vs=>Fin n (Ac vs) H r H2
def KB {α:Type} {o:Option α} {K:α->Prop}:(∃v,o=ak v/\K v)=bO o K:=by cases o<;>simp[bO]
def acq {w:List jZ} {n:Nat} {r:AV} {h:aF}:jh w n r h .ret e H=xN e H w n r h:=by simp[jh,KB,xN]
def afM:xN e H [.t t] n r h=Fin n (lk t e) H r h:=(rfl)
def aeE:xN e H [.t t,.t w] n r h=Fin n (.bM [lk t e,lk w e]) H r h:=(rfl)
attribute [go_sem] acq afM aeE
def ES (e:Env) (H:aF) (rs:List jZ) (Post:AV->aF->Prop):Prop:=bO (ng e H rs) fun vs=>Post (Ac vs) H
def acr {h:List jZ} {Post:AV->aF->Prop}:iZ h Post .ret e H=ES e H h Post:=by simp[iZ,KB,ES]
def aai {h:List jZ} {Post:AV->aF->Prop}:iZ h Post .normal e H=ES e H h Post:=by simp[iZ,KB,ES]
def afN {t:Nat} {Post:AV->aF->Prop}:ES e H [.t t] Post=Post (lk t e) H:=(rfl)
def aeF {t h:Nat} {Post:AV->aF->Prop}:ES e H [.t t,.t h] Post=Post (.bM [lk t e,lk h e]) H:=(rfl)
def abZ {Post:AV->aF->Prop}:ES e H [] Post=Post (.bM []) H:=(rfl)
attribute [go_sem] acr aai afN aeF abZ
def Yd (n:Nat) (H:aF) (r:AV) (H2:aF):AV->Prop:=fun v=>Fin n v H r H2
def ahK:Yd n H r h v=Fin n v H r h:=(rfl)
def abY {x k n:Nat} {ag:Bool} {r:AV} {h:aF}:xN e H [.cell x ag k] n r h=LdP ag k (lk x e) H (Yd n H r h):=by simp only[xN,ng,DP,LdP];generalize lk x e=a;cases a<;>first | rfl | (simp only[ai3,kC,oI,Ac];rfl)
attribute [go_sem] ahK abY
def oP (h:Wk1 r a) (w:jO 0 r=aq):Fin 0 r H a []:=by refine Fin.trans (j6 (m:=0) (ahZ _) aO w) ?_;exact dJ h
def Wk1.refl (a:AV):Wk1 a a := .cell (.refl a)
def jK (h:jO 0 r=aq):Fin 0 r H r []:=j6 (m:=0) (ahZ _) aO h
def aW (h:r=a) (w:jO 0 r=aq):Fin 0 r H a []:=by subst h;exact jK w
def qh {k ver n:Nat} {y:List AV} {ys:List (List AV)} {K:AV->aF->Prop} {xs:List (List AV)} (h:n=ae xs) :
  bX k (.sl k 0 ver 0 n) (y::ys) [ak ⟨k,ver,xs⟩] K=(n+(ae ys+1)<=4294967296/\K (.sl k 0 (ver+1) 0 (n+(ae ys+1))) [ak ⟨k,ver+1,xs++y::ys⟩]):=by rw[oM (xs:=xs) (by simp[aI]) aD];simp
def Gq (b:n=ae xs) (a:xs.all (fun x=>x.all bT)=aq):Fin 0 (.sl k 0 ver 0 n) [ak ⟨k,ver,xs⟩] (.seq k ar xs) []:=by
 have h:=uy (n:=0) (id:=0) (ver:=ver) (H:=[ak ⟨k,ver,xs⟩]) (r := .sl k 0 ver 0 n) (ob:=⟨k,ver,xs⟩) (by simp[aI]) a;have w:dD 0 ver k xs (.sl k 0 ver 0 n) = .seq k ar xs:=by simp[dD,qB,fm,b]
 rw[w] at h;exact h.trans (jK rfl)
def Z {p q:Prop} (a:q) (h:p=q:=by simp only[go_sem,↓reduceIte,Nat.reduceLeDiff,ahZ,ajl,aja,ajH,ajI,ah5,aia,ah9,aje,aiy,aiu,ajg,aj9,aiM,akj,alb, *];rfl):p:=h ▸ a
def Y {p q:Prop} (a:q) (h:p=q:=by simp only[go_sem,↓reduceIte,Nat.reduceLeDiff,ahZ];rfl):p:=h ▸ a
def Y1 {a:Prop} {p q:Prop} (b:a) (h:q) (w:a->p=q:=by intro c;simp only[go_sem,↓reduceIte,Nat.reduceLeDiff,ahZ,c];rfl):p:=(w b) ▸ h
def Y2 {a:Prop} {b:Prop} {p q:Prop} (c:a) (f:b) (h:q) (w:a->b->p=q:=by intro g i;simp only[go_sem,↓reduceIte,Nat.reduceLeDiff,ahZ,g,i];rfl):p:=(w c f) ▸ h
def Y3 {a:Prop} {b:Prop} {c:Prop} {p q:Prop} (f:a) (g:b) (i:c) (h:q) (w:a->b->c->p=q:=by intro j l m;simp only[go_sem,↓reduceIte,Nat.reduceLeDiff,ahZ,j,l,m];rfl):p:=(w f g i) ▸ h
def Y4 {a:Prop} {b:Prop} {c:Prop} {d:Prop} {p q:Prop} (f:a) (g:b) (i:c) (j:d) (h:q) (w:a->b->c->d->p=q:=by intro l m n o;simp only[go_sem,↓reduceIte,Nat.reduceLeDiff,ahZ,l,m,n,o];rfl):p:=(w f g i j) ▸ h
def Y5 {a:Prop} {b:Prop} {c:Prop} {d:Prop} {e:Prop} {p q:Prop} (f:a) (g:b) (i:c) (j:d) (l:e) (h:q) (w:a->b->c->d->e->p=q:=by intro m n o r s;simp only[go_sem,↓reduceIte,Nat.reduceLeDiff,ahZ,m,n,o,r,s];rfl):p:=(w f g i j l) ▸ h
def Y6 {a:Prop} {b:Prop} {c:Prop} {d:Prop} {e:Prop} {f:Prop} {p q:Prop} (g:a) (i:b) (j:c) (l:d) (m:e) (n:f) (h:q) (w:a->b->c->d->e->f->p=q:=by intro o r s t v X;simp only[go_sem,↓reduceIte,Nat.reduceLeDiff,ahZ,o,r,s,t,v,X];rfl):p:=(w g i j l m n) ▸ h
def Y7 {a:Prop} {b:Prop} {c:Prop} {d:Prop} {e:Prop} {f:Prop} {g:Prop} {p q:Prop} (i:a) (j:b) (l:c) (m:d) (n:e) (o:f) (r:g) (h:q) (w:a->b->c->d->e->f->g->p=q:=by intro s t v X W A B;simp only[go_sem,↓reduceIte,Nat.reduceLeDiff,ahZ,s,t,v,X,W,A,B];rfl):p:=(w i j l m n o r) ▸ h
def Y8 {a:Prop} {b:Prop} {c:Prop} {d:Prop} {e:Prop} {f:Prop} {g:Prop} {h:Prop} {p q:Prop} (j:a) (l:b) (m:c) (n:d) (o:e) (r:f) (s:g) (t:h) (w:q) (i:a->b->c->d->e->f->g->h->p=q:=by intro v X W A B C D E;simp only[go_sem,↓reduceIte,Nat.reduceLeDiff,ahZ,v,X,W,A,B,C,D,E];rfl):p:=(i j l m n o r s t) ▸ w
def Z0  {p q:Prop}  (h:q) (w:p=q:=by simp only[go_sem,↓reduceIte,Nat.reduceLeDiff,ahZ,ajl,aja,ajH,ajI,ah5,aia,ah9,aje,aiy,aiu,ajg,aj9,aiM,akj,alb];rfl):p:=w ▸ h
def Z1 {a:Prop} {p q:Prop} (b:a) (h:q) (w:a->p=q:=by intro c;simp only[go_sem,↓reduceIte,Nat.reduceLeDiff,ahZ,ajl,aja,ajH,ajI,ah5,aia,ah9,aje,aiy,aiu,ajg,aj9,aiM,akj,alb,c];rfl):p:=(w b) ▸ h
def Z2 {a:Prop} {b:Prop} {p q:Prop} (c:a) (f:b) (h:q) (w:a->b->p=q:=by intro g i;simp only[go_sem,↓reduceIte,Nat.reduceLeDiff,ahZ,ajl,aja,ajH,ajI,ah5,aia,ah9,aje,aiy,aiu,ajg,aj9,aiM,akj,alb,g,i];rfl):p:=(w c f) ▸ h
def Z3 {a:Prop} {b:Prop} {c:Prop} {p q:Prop} (f:a) (g:b) (i:c) (h:q) (w:a->b->c->p=q:=by intro j l m;simp only[go_sem,↓reduceIte,Nat.reduceLeDiff,ahZ,ajl,aja,ajH,ajI,ah5,aia,ah9,aje,aiy,aiu,ajg,aj9,aiM,akj,alb,j,l,m];rfl):p:=(w f g i) ▸ h
def Z4 {a:Prop} {b:Prop} {c:Prop} {d:Prop} {p q:Prop} (f:a) (g:b) (i:c) (j:d) (h:q) (w:a->b->c->d->p=q:=by intro l m n o;simp only[go_sem,↓reduceIte,Nat.reduceLeDiff,ahZ,ajl,aja,ajH,ajI,ah5,aia,ah9,aje,aiy,aiu,ajg,aj9,aiM,akj,alb,l,m,n,o];rfl):p:=(w f g i j) ▸ h
def Z5 {a:Prop} {b:Prop} {c:Prop} {d:Prop} {e:Prop} {p q:Prop} (f:a) (g:b) (i:c) (j:d) (l:e) (h:q) (w:a->b->c->d->e->p=q:=by intro m n o r s;simp only[go_sem,↓reduceIte,Nat.reduceLeDiff,ahZ,ajl,aja,ajH,ajI,ah5,aia,ah9,aje,aiy,aiu,ajg,aj9,aiM,akj,alb,m,n,o,r,s];rfl):p:=(w f g i j l) ▸ h
def Z6 {a:Prop} {b:Prop} {c:Prop} {d:Prop} {e:Prop} {f:Prop} {p q:Prop} (g:a) (i:b) (j:c) (l:d) (m:e) (n:f) (h:q) (w:a->b->c->d->e->f->p=q:=by intro o r s t v X;simp only[go_sem,↓reduceIte,Nat.reduceLeDiff,ahZ,ajl,aja,ajH,ajI,ah5,aia,ah9,aje,aiy,aiu,ajg,aj9,aiM,akj,alb,o,r,s,t,v,X];rfl):p:=(w g i j l m n) ▸ h
def Z7 {a:Prop} {b:Prop} {c:Prop} {d:Prop} {e:Prop} {f:Prop} {g:Prop} {p q:Prop} (i:a) (j:b) (l:c) (m:d) (n:e) (o:f) (r:g) (h:q) (w:a->b->c->d->e->f->g->p=q:=by intro s t v X W A B;simp only[go_sem,↓reduceIte,Nat.reduceLeDiff,ahZ,ajl,aja,ajH,ajI,ah5,aia,ah9,aje,aiy,aiu,ajg,aj9,aiM,akj,alb,s,t,v,X,W,A,B];rfl):p:=(w i j l m n o r) ▸ h
def Z8 {a:Prop} {b:Prop} {c:Prop} {d:Prop} {e:Prop} {f:Prop} {g:Prop} {h:Prop} {p q:Prop} (j:a) (l:b) (m:c) (n:d) (o:e) (r:f) (s:g) (t:h) (w:q) (i:a->b->c->d->e->f->g->h->p=q:=by intro v X W A B C D E;simp only[go_sem,↓reduceIte,Nat.reduceLeDiff,ahZ,ajl,aja,ajH,ajI,ah5,aia,ah9,aje,aiy,aiu,ajg,aj9,aiM,akj,alb,v,X,W,A,B,C,D,E];rfl):p:=(i j l m n o r s t) ▸ w
end
def j5 (d:Int):List AV:=[.c (.int .u32 d)]
@[reducible] def eh (l:List Int):List (List AV):=l.map j5
@[reducible] def eY (l:List Int):AV := .seq 1 ar (eh l)
@[go_sem] def ad4 {d:Int}:j5 d=[.c (.int .u32 d)]:=(rfl)
def cH:List Int->List Int
 | []=>[]
 | d::r=>if cH r=[]/\d=0 then [] else d::cH r
def O0 (l:List Int):cH (l++[0])=cH l:=by
 induction l with
 | nil=>rfl
 | cons d r h=>simp[cH,h]
def Ry (l:List Int) {d:Int} (h:d≠0):cH (l++[d])=l++[d]:=by
 induction l with
 | nil=>simp[cH,h]
 | cons x r k=>simp[cH,k]
def lL (h:0 < ae l) (k:af l (ae l - 1) 0=0):cH (l.take (ae l - 1))=cH l:=by obtain ⟨m,d,rfl⟩:∃m d,l=m++[d]:=⟨l.dropLast,l.getLast (by intro x;simp[x] at h),(amx _).symm⟩;simp at k;subst k;simp[O0]
def rJ (k:af l (ae l - 1) 0≠0):cH l=l:=by
 by_cases h:l=[]
 .subst h;rfl
 obtain ⟨m,d,rfl⟩:∃m d,l=m++[d]:=⟨l.dropLast,l.getLast h,(amx _).symm⟩;simp at k;exact Ry _ k
def wrap_i64 (h:-9223372036854775808<=n) (k:n < 9223372036854775808):au .i64 n=n:=xL h k
def wi (h:-9223372036854775808<=n:=by omega) (k:n < 9223372036854775808:=by omega):au .i64 n=n:=xL h k
def ws (i:Nat) (h:(i:Int) < 9223372036854775807:=by omega):au .i64 ((i:Int)+1)=((i+1:Nat):Int):=by rw[wi];rfl
def LR {M:Int} {n:Nat} (k:0<=M) (h:M < 4294967296 ^ n):az M < 4294967296 ^ n:=by
 have:((az M:Nat):Int) < ((4294967296 ^ n:Nat):Int):=by rw[Int.toNat_of_nonneg k,akr];exact h
 exact Int.ofNat_lt.1 this
def ZU (h:a < b):(2:Int) ^ a < 2 ^ b:=by
 have:(2:Nat) ^ a < 2 ^ b:=Nat.pow_lt_pow_right aR h
 exact_mod_cast this
def Ox {k:IntKind} {n:Int} (y:k.signed=ar) (h:0<=n) (x:n < 2 ^ k.bits):k.wrap n=n:=by unfold IntKind.wrap;simp[y];exact akL h (by exact_mod_cast x)
def bN {n:Int} (h:0<=n) (k:n < 18446744073709551616):au .u64 n=n:=Ox rfl h k
def wrap_u32 {n:Int} (h:0<=n) (k:n < 4294967296):au .u32 n=n:=Ox rfl h k
def eI (n:Int):au .u32 n=n % 4294967296:=by unfold IntKind.wrap;simp[IntKind.signed,IntKind.bits]
def oL (n:Int):au .u64 n=n % 18446744073709551616:=by unfold IntKind.wrap;simp[IntKind.signed,IntKind.bits]
def Zy {a b:Nat} (y:a < 18446744073709551616) (z:b < 18446744073709551616):xD .u64 a b=((a ||| b:Nat):Int):=by
 unfold xD;have h:(BitVec.ofInt IntKind.u64.bits (a:Int)).toNat=a:=by show (BitVec.ofInt 64 (a:Int)).toNat=a;rw[alW];omega
 have k:(BitVec.ofInt IntKind.u64.bits (b:Int)).toNat=b:=by show (BitVec.ofInt 64 (b:Int)).toNat=b;rw[alW];omega
 rw[BitVec.toNat_or,h,k];have x:a ||| b < 2 ^ 64:=amH aD aD;exact bN aD aD
def v9 {a b:Int} {k:Nat} (c:0<=a/\a < 2 ^ k) (f:0<=b) (h:a+b*2 ^ k < 18446744073709551616) :
  xD .u64 a (b*2 ^ k)=a+b*2 ^ k:=by
 obtain ⟨x,rfl⟩:∃x:Nat,a=x:=⟨az a,aD⟩;obtain ⟨y,rfl⟩:∃y:Nat,b=y:=⟨az b,aD⟩;have w:((y:Int)*2 ^ k)=((y*2 ^ k:Nat):Int):=by rw[akY,akr];rfl
 have e:x < 2 ^ k:=by have:=c.2;exact_mod_cast this
 have z:=amt e y;rw[Nat.shiftLeft_eq] at z;rw[w] at h ⊢;generalize g:y*2 ^ k=p at *;rw[Zy aD aD,Nat.or_comm,<-z];omega
def afT:Int.fdiv x (2 ^ min (Int.toNat 32) 64)=x / 4294967296:=by rw[show ((2:Int) ^ min (Int.toNat 32) 64)=4294967296 from rfl,akw _ aR]
def afR {x:Int}:x*2 ^ min (Int.toNat 32) 64=x*4294967296:=by rw[show ((2:Int) ^ min (Int.toNat 32) 64)=4294967296 from rfl]
def Yt:(1==1&&b)=b:=by cases b<;>rfl
attribute [go_sem] afT afR Yt
def vF {a:Nat} (h:a < 4294967296):(BitVec.ofInt IntKind.u32.bits (a:Int)).toNat=a:=by show (BitVec.ofInt 32 (a:Int)).toNat=a;rw[alW];omega
def SF {a b:Nat} (h:a < 4294967296) (k:b < 4294967296):xD .u32 a b=((a ||| b:Nat):Int):=by unfold xD;rw[BitVec.toNat_or,vF h,vF k];have x:a ||| b < 2 ^ 32:=amH aD aD;exact wrap_u32 aD aD
def O5 {a b:Nat} (h:a < 4294967296) (k:b < 4294967296):EV .u32 a b=((a &&& b:Nat):Int):=by unfold EV;rw[BitVec.toNat_and,vF h,vF k];have x:a &&& b < 2 ^ 32:=amC _ aD;exact wrap_u32 aD aD
def KR {a b:Nat} (h:a < 4294967296) (k:b < 4294967296):Gf .u32 a b=((a ^^^ b:Nat):Int):=by unfold Gf;rw[BitVec.toNat_xor,vF h,vF k];have x:a ^^^ b < 2 ^ 32:=alX aD aD;exact wrap_u32 aD aD
def XL (h:v < 4294967296):v / 2147483648=(v.testBit 31).toNat:=by
 rw[amc];have:v / 2 ^ 31 < 2:=aD;have e:v / 2 ^ 31=v / 2147483648:=rfl;by_cases k:v / 2 ^ 31 % 2=1
 .simp[k];omega
 .simp[k];omega
def rN (h:v < 2147483648):v.testBit 31=ar:=Nat.testBit_lt_two_pow h
def rK (h:2147483648<=v) (k:v < 4294967296):v.testBit 31=aq:=by rw[amc];simp;omega
def Qy (t:0<=x/\x < 4294967296) (H:0<=y/\y < 4294967296) (s:0<=c/\c<=1) (i:o=(x - y - c) % 4294967296) :
  xD .u32 (EV .u32 (Gf .u32 4294967295 x) y) (EV .u32 (Gf .u32 4294967295 (Gf .u32 x y)) o) / 2147483648 = -((x - y - c) / 4294967296):=by
 obtain ⟨a,rfl⟩:∃a:Nat,x=a:=⟨az x,aD⟩;obtain ⟨b,rfl⟩:∃b:Nat,y=b:=⟨az y,aD⟩;obtain ⟨r,j⟩:∃r:Nat,o=r:=⟨az o,aD⟩;rw[j] at i ⊢;have e:a < 2 ^ 32:=aD;have f:b < 2 ^ 32:=aD;have p:r < 2 ^ 32:=aD;have K:4294967295 ^^^ a < 2 ^ 32:=alX aR e;have l:=alX e f;have X:4294967295 ^^^ (a ^^^ b) < 2 ^ 32:=alX aR l;have m:(4294967295 ^^^ a) &&& b < 2 ^ 32:=amC _ f;have n:(4294967295 ^^^ (a ^^^ b)) &&& r < 2 ^ 32:=amC _ p;have W:=amH m n;have g:(4294967295:Int)=((4294967295:Nat):Int):=rfl;rw[g,KR aR aD,O5 aD aD,KR aD aD,KR aR aD,O5 aD aD,SF aD aD];have w:=XL (v:=((4294967295 ^^^ a) &&& b) ||| ((4294967295 ^^^ (a ^^^ b)) &&& r)) aD;have key:((((4294967295 ^^^ a) &&& b) ||| ((4294967295 ^^^ (a ^^^ b)) &&& r):Nat).testBit 31).toNat=(if (a:Int) - b - c < 0 then 1 else 0):=by
  rw[am9,Nat.testBit_and,Nat.testBit_and,am1,am1,am1,show Nat.testBit 4294967295 31=aq from aR];rcases aij a 2147483648 with h | h<;>rcases aij b 2147483648 with k | k
  .rw[rN h,rN k];by_cases z:(a:Int) - b - c < 0
   .rw[rK (v:=r) aD aD,ah1 z];rfl
   .rw[rN (v:=r) aD,ah0 z];rfl
  .rw[rN h,rK k aD,ah1 aD];simp
  .rw[rK h aD,rN k,ah0 aD];simp
  .rw[rK h aD,rK k aD];by_cases z:(a:Int) - b - c < 0
   .rw[rK (v:=r) aD aD,ah1 z];rfl
   .rw[rN (v:=r) aD,ah0 z];rfl
 rw[key] at w;generalize ((4294967295 ^^^ a) &&& b) ||| ((4294967295 ^^^ (a ^^^ b)) &&& r)=q at *;split at w<;>omega
def Ia (h:0<=x/\x < 18446744073709551616):EV .u64 x 4294967295=x % 4294967296:=by
 obtain ⟨a,rfl⟩:∃a:Nat,x=a:=⟨az x,aD⟩;unfold EV;have k:(BitVec.ofInt IntKind.u64.bits (a:Int)).toNat=a:=by show (BitVec.ofInt 64 (a:Int)).toNat=a;rw[alW];omega
 have y:(BitVec.ofInt IntKind.u64.bits (4294967295:Int)).toNat=2 ^ 32 - 1:=rfl;rw[BitVec.toNat_and,k,y,Nat.and_two_pow_sub_one_eq_mod];have:a % 2 ^ 32 < 4294967296:=alh _ aR;rw[bN aD aD];omega
def oV {a b:Int} (k:0<=a/\a < 4294967296) (h:0<=b/\b < 4294967296):0<=a*b/\a*b<=18446744065119617025:=by refine ⟨ajw k.1 h.1,?_⟩;have:=Int.mul_le_mul (show a<=4294967295 by omega) (show b<=4294967295 by omega) h.1 (by decide);exact this
def aeG {l:List Int} {i:Nat} {y:Int}:(l.map j5).set i [.c (.int .u32 y)]=(l.set i y).map j5:=(ajF (f:=j5)).symm
def acZ:aA n [.c (.int .u32 y)]=(aA n y).map j5:=by simp[j5]
attribute [go_sem] aeG acZ
abbrev B32:Int:=4294967296
def val:List Int->Int
 | []=>0
 | d::r=>d+B32*val r
def DOk (l:List Int):Prop:=∀d,d∈l->0<=d/\d < B32
def DOk.nil:DOk []:=by intro d h;simp at h
def DOk.cons {d:Int} {l:List Int} (h:0<=d/\d < B32) (g:DOk l):DOk (d::l):=by
 intro x k;simp at k;rcases k with rfl | k
 .exact h
 .exact g x k
def DOk.head {d:Int} {l:List Int} (h:DOk (d::l)):0<=d/\d < B32:=h d aO
def DOk.tail {d:Int} {l:List Int} (h:DOk (d::l)):DOk l:=fun x k=>h x (by simp[k])
def DOk.getD (h:DOk l) (i:Nat):0<=af l i 0/\af l i 0 < B32:=by
 rcases aij i (ae l) with k | k
 .have:af l i 0=l[i]:=by simp[af,k]
  rw[this];exact h _ (ajj k)
 .grind
def DOk.take (h:DOk l) (n:Nat):DOk (l.take n):=fun x k=>h x (ajP k)
def DOk.drop (h:DOk l) (n:Nat):DOk (l.drop n):=fun x k=>h x (aju k)
def DOk.set {l:List Int} (h:DOk l) (n:Nat) {d:Int} (y:0<=d/\d < B32):DOk (l.set n d):=by
 intro x k;rcases ai4 k with k | rfl
 .exact h x k
 .exact y
def dh:∀{l:List Int},DOk l->0<=val l
 | [],_=>by simp[val]
 | d::r,h=>by have:=dh h.tail;have:=h.head;simp only[val,B32];omega
def Ea (l m:List Int):val (l++m)=val l+B32 ^ ae l*val m:=by
 induction l with
 | nil=>simp[val]
 | cons d r h =>
  simp only[aje,val,h,aiF,aj1,aiR];rw[ai2 (B32 ^ ae r) B32,aiI];omega
def mj:∀{l:List Int},DOk l->val l < B32 ^ ae l
 | [],_=>by simp[val]
 | d::r,h=>by have x:=mj h.tail;have k:=h.head;simp only[val,aiF,aj1];rw[ai2 (B32 ^ ae r)];generalize B32 ^ ae r=p at *;simp only[B32] at *;omega
def fv {m:List Int} {i:Nat} (h:i < ae m):val (m.take (i+1))=val (m.take i)+B32 ^ i*af m i 0:=by rw[aiT h,Ea];simp[val,af,h,aiQ (alp h)]
def aX (n:Nat):List Int:=if h:n=0 then [] else ((n % 4294967296:Nat):Int)::aX (n / 4294967296)
termination_by n
decreasing_by omega
def pn:aX 0=[]:=by unfold aX;simp
def ur (h:n≠0):aX n=((n % 4294967296:Nat):Int)::aX (n / 4294967296):=by rw[aX];simp[h]
def fS (n:Nat):val (aX n)=n/\DOk (aX n):=by
 induction n using Nat.strongRecOn with
 | _ n y =>
  by_cases h:n=0
  .subst h;rw[pn];exact ⟨rfl,.nil⟩
  .rw[ur h];have ⟨k,x⟩:=y (n / 4294967296) aD;refine ⟨?_,.cons ⟨aD,by simp only[B32];omega⟩ x⟩;simp only[val,k,B32];omega
def ky:aX n=[]↔n=0:=by
 constructor
 .intro h;by_cases k:n=0
  .exact k
  .rw[ur k] at h;simp at h
 .rintro rfl;exact pn
def qN:∀{l:List Int},DOk l->cH l=aX (az (val l))
 | [],_=>by simp[cH,val,pn]
 | d::r,h=>by
  have z:=qN h.tail;have a:=dh h.tail;have y:=h.head;simp only[B32] at y;simp only[cH,z,ky];have hv:val (d::r)=d+4294967296*val r:=rfl;by_cases k:az (val r)=0/\d=0
  .rw[ah1 k,hv];have ⟨x,w⟩:=k;rw[show az (d+4294967296*val r)=0 by omega,pn]
  .rw[ah0 k];have x:az (val (d::r))≠0:=by rw[hv];omega
   rw[ur x,hv];congr 1
   .omega
   .congr 1;omega
def lT (n:Nat):cH (aX n)=aX n:=by rw[qN (fS n).2,(fS n).1];rfl
def xK (l:List Int):ae (cH l)<=ae l:=by
 induction l with
 | nil=>simp[cH]
 | cons d r h=>simp only[cH];split<;>simp<;>omega
def jq:ae (aX n)<=k↔n < 4294967296 ^ k:=by
 induction k generalizing n with
 | zero=>simp[amY,ky]
 | succ k x =>
  by_cases h:n=0
  .subst h;simp[pn,alS]
  .rw[ur h,aiF,amR,x,amS,amf aD]
def Bm (h:i < ae l):val l=val (l.take i)+B32 ^ i*(af l i 0+B32*val (l.drop (i+1))):=by
 have e:l=l.take i++(af l i 0::l.drop (i+1)):=by rw[show af l i 0=l[i] by simp[af,h],<-ail h,ajW]
 conv=>lhs;rw[e]
 rw[Ea,aiG,aiQ (alp h)];rfl
def kh (i:Nat):0 < B32 ^ i:=al5 aR
def P6 (b:DOk l) (hm:DOk m) (k:i < ae l) (w:i < ae m) (a:l.drop (i+1)=m.drop (i+1)) (h:af l i 0 < af m i 0):val l < val m:=by
 rw[Bm k,Bm w,a];have z:=mj (b.take i);have c:=dh (hm.take i);rw[aiG,aiQ (alp k)] at z;have f:=kh i;generalize B32 ^ i=p at *;generalize val (m.drop (i+1))=r;generalize af l i 0=x at *;generalize af m i 0=y at *;have e:p*(x+B32*r)+p<=p*(y+B32*r):=by have:p*(x+B32*r+1)<=p*(y+B32*r):=aip aD aD;rw[aiR p _ 1,aky] at this;exact this
 omega
def P7 (z:DOk l) (hm:DOk m) (w:cH m=m) (h:ae l < ae m):val l < val m:=by
 have k:=mj z;have a:=dh hm;have x:¬ae (aX (az (val m)))<=ae l:=by rw[<-qN hm,w];omega
 rw[jq] at x;have y:(B32 ^ ae l:Int)=((4294967296 ^ ae l:Nat):Int):=by rw[akr];rfl
 rw[y] at k;omega
def ju (n:Int):AV:=if -4611686018427387904 < n/\n < 4611686018427387904 then .agg [.c (.int .i64 n),.nil] else .agg [.c (.int .i64 n.sign),eY (aX (ay n))]
def oO (h:-4611686018427387904 < n/\n < 4611686018427387904):ju n = .agg [.q0 n,.nil]:=ah1 h
def vO (h:¬(-4611686018427387904 < n/\n < 4611686018427387904)):ju n = .agg [.q0 n.sign,eY (aX (ay n))]:=ah0 h
structure RL (n:Int) (v:Int) (d:AV):Prop where
 eq:ju n = .agg [.c (.int .i64 v),d]
 fr:dM d=true
 ic:bB d=true
 nd:dA d=true
 cs:d.cells=[d]
 lo:-4611686018427387904 < v
 hi:v < 4611686018427387904
 sg:v.sign=n.sign
 cases:(d = .nil/\v=n)\/(d=eY (aX n.natAbs)/\v=n.sign/\¬(-4611686018427387904 < n/\n < 4611686018427387904))
def iK (n:Int):∃v d,RL n v d:=by
 by_cases h:-4611686018427387904 < n/\n < 4611686018427387904
 .exact ⟨n,.nil,oO h,rfl,rfl,rfl,rfl,h.1,h.2,rfl,.inl ⟨rfl,rfl⟩⟩
 .refine ⟨n.sign,eY (aX (ay n)),vO h,rfl,rfl,rfl,rfl,?_,?_,aO,.inr ⟨rfl,rfl,h⟩⟩<;>rcases als n with h | h | h<;>rw[h]<;>decide
def fH (n:Int):bJ (ju n)=aq:=by unfold ju;split<;>rfl
def Us (n:Int):eO (ju n)=aq:=by unfold ju;split<;>rfl
def UY (n:Int):jO 0 (ju n)=aq:=by unfold ju;split<;>rfl
def jw (h:a=ju n):Fin 0 a H (ju n) []:=aW h (by rw[h];exact UY n)
def tL (l:List Int):(eh l).all (fun x=>x.all bT)=aq:=by simp[eh,j5,bT]
def gT:List Int->List Int->Int->List Int
 | [],_,c=>[c]
 | a::r,s,c=>((a+s.headD 0+c) % B32)::gT r s.tail ((a+s.headD 0+c) / B32)
def Uc (a b:List Int) (c:Int):ae (gT a b c)=ae a+1:=by
 induction a generalizing b c with
 | nil=>rfl
 | cons x r h=>simp[gT,h]
def ET:∀{a b:List Int} {c:Int},DOk a->DOk b->0<=c/\c<=1->ae b<=ae a->val (gT a b c)=val a+val b+c/\DOk (gT a b c)
 | [],b,c,_,_,g,z=>by have:b=[]:=aiA (bu z);subst this;refine ⟨by simp[gT,val],.cons (by simp only[B32];omega) .nil⟩
 | x::r,b,c,w,e,g,z=>by
  have i:=w.head;have j:0<=b.headD 0/\b.headD 0 < B32:=by
   cases b with
   | nil=>decide
   | cons y s=>exact e.head
  have k:DOk b.tail:=by
   cases b with
   | nil=>exact .nil
   | cons y s=>exact e.tail
  have h:val b=b.headD 0+B32*val b.tail:=by cases b<;>simp[val]
  simp only[B32] at i j h;have f:=ET w.tail k (c:=(x+b.headD 0+c) / B32) (by simp only[B32];omega) (by cases b<;>simp at z ⊢;omega);simp only[gT,val,f.1];refine ⟨?_,.cons (by simp only[B32];omega) f.2⟩;rw[h];simp only[B32];omega
def mG:List Int->List Int->Int->List Int
 | [],_,_=>[]
 | a::r,s,c=>((a - s.headD 0 - c) % B32)::mG r s.tail (-((a - s.headD 0 - c) / B32))
def N4 (a b:List Int) (c:Int):ae (mG a b c)=ae a:=by
 induction a generalizing b c with
 | nil=>rfl
 | cons x r h=>simp[mG,h]
def LQ:∀{a b:List Int} {c:Int},DOk a->DOk b->0<=c/\c<=1->ae b<=ae a->val b+c<=val a->val (mG a b c)=val a - val b - c/\DOk (mG a b c)
 | [],b,c,_,_,g,z,hv=>by have:b=[]:=aiA (bu z);subst this;refine ⟨by simp[mG,val] at *;omega,.nil⟩
 | x::r,b,c,w,e,g,z,hv=>by
  have i:=w.head;have j:0<=b.headD 0/\b.headD 0 < B32:=by
   cases b with
   | nil=>decide
   | cons y s=>exact e.head
  have k:DOk b.tail:=by
   cases b with
   | nil=>exact .nil
   | cons y s=>exact e.tail
  have h:val b=b.headD 0+B32*val b.tail:=by cases b<;>simp[val]
  simp only[B32] at i j h;simp only[val,B32] at hv;have f:=LQ w.tail k (c := -((x - b.headD 0 - c) / B32)) (by simp only[B32];omega) (by cases b<;>simp at z ⊢;omega) (by simp only[B32];omega);simp only[mG,val,f.1];refine ⟨?_,.cons (by simp only[B32];omega) f.2⟩;rw[h];simp only[B32];omega
def uF {l:List Int} {i:Nat}:(l.drop i).headD 0=af l i 0:=by
 induction l generalizing i with
 | nil=>simp
 | cons d r h=>cases i<;>simp_all
def drop_tail {l:List Int} {i:Nat}:(l.drop i).tail=l.drop (i+1):=by simp[List.tail_drop]
def KU {a b:List Int} {c:Int} {i:Nat} (h:i < ae a):gT (a.drop i) (b.drop i) c=((af a i 0+af b i 0+c) % B32)::gT (a.drop (i+1)) (b.drop (i+1)) ((af a i 0+af b i 0+c) / B32):=by rw[ail h,gT,uF,drop_tail,show af a i 0=a[i] by simp[af,h]]
def Tj {a b:List Int} {c:Int} {i:Nat} (h:i < ae a):mG (a.drop i) (b.drop i) c=((af a i 0 - af b i 0 - c) % B32)::mG (a.drop (i+1)) (b.drop (i+1)) (-((af a i 0 - af b i 0 - c) / B32)):=by rw[ail h,mG,uF,drop_tail,show af a i 0=a[i] by simp[af,h]]
def KK (h:i < ae l):val (l.set i y)=val l+B32 ^ i*(y - af l i 0):=by
 have w:i < ae (l.set i y):=bu h;rw[Bm h,Bm w];have k:(l.set i y).take i=l.take i:=by rw[akl (ahZ _)]
 have x:(l.set i y).drop (i+1)=l.drop (i+1):=by rw[akc (aj3 _)]
 have z:af (l.set i y) i 0=y:=by simp[af,h]
 rw[k,x,z,aks,aiR,aiR];omega
def Dr {l:List Int} {i j:Nat} {y:Int} (h:i≠j):af (l.set i y) j 0=af l j 0:=by simp[af,ajc h]
def Tt (n:Nat):val (aA n 0)=0:=by
 induction n with
 | zero=>rfl
 | succ n h=>rw[alq,val,h];rfl
abbrev B30:Int:=1073741824
def vl:List Int->Int
 | []=>0
 | d::r=>d+B30*vl r
def DK (l:List Int):Prop:=∀d,d∈l->0<=d/\d < B30
def DK.nil:DK []:=by intro d h;simp at h
def DK.cons {d:Int} {l:List Int} (h:0<=d/\d < B30) (g:DK l):DK (d::l):=by
 intro x k;simp at k;rcases k with rfl | k
 .exact h
 .exact g x k
def DK.head {d:Int} {l:List Int} (h:DK (d::l)):0<=d/\d < B30:=h d aO
def DK.tail {d:Int} {l:List Int} (h:DK (d::l)):DK l:=fun x k=>h x (by simp[k])
def DK.append (h:DK l) (g:DK m):DK (l++m):=by
 intro x k;simp at k;rcases k with k | k
 .exact h x k
 .exact g x k
def DK.getD (h:DK l) (i:Nat):0<=af l i 0/\af l i 0 < B30:=by
 rcases aij i (ae l) with k | k
 .have:af l i 0=l[i]:=by simp[af,k]
  rw[this];exact h _ (ajj k)
 .have:af l i 0=0:=by simp[af,k]
  rw[this];decide
def DK.take (h:DK l) (n:Nat):DK (l.take n):=fun x k=>h x (ajP k)
def DK.drop (h:DK l) (n:Nat):DK (l.drop n):=fun x k=>h x (aju k)
def DK.set {l:List Int} (h:DK l) (n:Nat) {d:Int} (y:0<=d/\d < B30):DK (l.set n d):=by
 intro x k;rcases ai4 k with k | rfl
 .exact h x k
 .exact y
def dU:∀{l:List Int},DK l->0<=vl l
 | [],_=>by simp[vl]
 | d::r,h=>by have:=dU h.tail;have:=h.head;simp only[vl,B30];omega
def tV (l m:List Int):vl (l++m)=vl l+B30 ^ ae l*vl m:=by
 induction l with
 | nil=>simp[vl]
 | cons d r h =>
  simp only[aje,vl,h,aiF,aj1,aiR];rw[ai2 (B30 ^ ae r) B30,aiI];omega
def yI:∀{l:List Int},DK l->vl l < B30 ^ ae l
 | [],_=>by simp[vl]
 | d::r,h=>by have x:=yI h.tail;have k:=h.head;simp only[vl,aiF,aj1];rw[ai2 (B30 ^ ae r)];generalize B30 ^ ae r=p at *;simp only[B30] at *;omega
def F7 {m:List Int} {i:Nat} (h:i < ae m):vl (m.take (i+1))=vl (m.take i)+B30 ^ i*af m i 0:=by rw[aiT h,tV];simp[vl,af,h,aiQ (alp h)]
def dx (n:Nat):List Int:=if h:n=0 then [] else ((n % 1073741824:Nat):Int)::dx (n / 1073741824)
termination_by n
decreasing_by omega
def s9:dx 0=[]:=by unfold dx;simp
def vN (h:n≠0):dx n=((n % 1073741824:Nat):Int)::dx (n / 1073741824):=by rw[dx];simp[h]
def lZ (n:Nat):vl (dx n)=n/\DK (dx n):=by
 induction n using Nat.strongRecOn with
 | _ n y =>
  by_cases h:n=0
  .subst h;rw[s9];exact ⟨rfl,.nil⟩
  .rw[vN h];have ⟨k,x⟩:=y (n / 1073741824) aD;refine ⟨?_,.cons ⟨aD,by simp only[B30];omega⟩ x⟩;simp only[vl,k,B30];omega
def Gl:dx n=[]↔n=0:=by
 constructor
 .intro h;by_cases k:n=0
  .exact k
  .rw[vN k] at h;simp at h
 .rintro rfl;exact s9
def oK:∀{l:List Int},DK l->cH l=dx (az (vl l))
 | [],_=>by simp[cH,vl,s9]
 | d::r,h=>by
  have z:=oK h.tail;have a:=dU h.tail;have y:=h.head;simp only[B30] at y;simp only[cH,z,Gl];have hv:vl (d::r)=d+1073741824*vl r:=rfl;by_cases k:az (vl r)=0/\d=0
  .rw[ah1 k,hv];have ⟨x,w⟩:=k;rw[show az (d+1073741824*vl r)=0 by omega,s9]
  .rw[ah0 k];have x:az (vl (d::r))≠0:=by rw[hv];omega
   rw[vN x,hv];congr 1
   .omega
   .congr 1;omega
def uS (n:Nat):cH (dx n)=dx n:=by rw[oK (lZ n).2,(lZ n).1];rfl
def k7:ae (dx n)<=k↔n < 1073741824 ^ k:=by
 induction k generalizing n with
 | zero=>simp[amY,Gl]
 | succ k x =>
  by_cases h:n=0
  .subst h;simp[s9,alS]
  .rw[vN h,aiF,amR,x,amS,amf aD]
def qR (h:i < ae l):vl l=vl (l.take i)+B30 ^ i*(af l i 0+B30*vl (l.drop (i+1))):=by
 have e:l=l.take i++(af l i 0::l.drop (i+1)):=by rw[show af l i 0=l[i] by simp[af,h],<-ail h,ajW]
 conv=>lhs;rw[e]
 rw[tV,aiG,aiQ (alp h)];rfl
def lq (i:Nat):0 < B30 ^ i:=al5 aR
def J0 (b:DK l) (hm:DK m) (k:i < ae l) (w:i < ae m) (a:l.drop (i+1)=m.drop (i+1)) (h:af l i 0 < af m i 0):vl l < vl m:=by
 rw[qR k,qR w,a];have z:=yI (b.take i);have c:=dU (hm.take i);rw[aiG,aiQ (alp k)] at z;have f:=lq i;generalize B30 ^ i=p at *;generalize vl (m.drop (i+1))=r;generalize af l i 0=x at *;generalize af m i 0=y at *;have e:p*(x+B30*r)+p<=p*(y+B30*r):=by have:p*(x+B30*r+1)<=p*(y+B30*r):=aip aD aD;rw[aiR p _ 1,aky] at this;exact this
 omega
def CE (z:DK l) (hm:DK m) (w:cH m=m) (h:ae l < ae m):vl l < vl m:=by
 have k:=yI z;have a:=dU hm;have x:¬ae (dx (az (vl m)))<=ae l:=by rw[<-oK hm,w];omega
 rw[k7] at x;have y:(B30 ^ ae l:Int)=((1073741824 ^ ae l:Nat):Int):=by rw[akr];rfl
 rw[y] at k;omega
def adL:List Int->List Int->Int->List Int
 | [],_,c=>[c]
 | a::r,s,c=>((a+s.headD 0+c) % B30)::adL r s.tail ((a+s.headD 0+c) / B30)
def nz:List Int->List Int->Int->List Int
 | [],_,_=>[]
 | a::r,s,c=>((a - s.headD 0 - c) % B30)::nz r s.tail (-((a - s.headD 0 - c) / B30))
def CA (a b:List Int) (c:Int):ae (nz a b c)=ae a:=by
 induction a generalizing b c with
 | nil=>rfl
 | cons x r h=>simp[nz,h]
def DS:∀{a b:List Int} {c:Int},DK a->DK b->0<=c/\c<=1->ae b<=ae a->vl b+c<=vl a->vl (nz a b c)=vl a - vl b - c/\DK (nz a b c)
 | [],b,c,_,_,g,z,hv=>by have:b=[]:=aiA (bu z);subst this;refine ⟨by simp[nz,vl] at *;omega,.nil⟩
 | x::r,b,c,w,e,g,z,hv=>by
  have i:=w.head;have j:0<=b.headD 0/\b.headD 0 < B30:=by
   cases b with
   | nil=>decide
   | cons y s=>exact e.head
  have k:DK b.tail:=by
   cases b with
   | nil=>exact .nil
   | cons y s=>exact e.tail
  have h:vl b=b.headD 0+B30*vl b.tail:=by cases b<;>simp[vl]
  simp only[B30] at i j h;simp only[vl,B30] at hv;have f:=DS w.tail k (c := -((x - b.headD 0 - c) / B30)) (by simp only[B30];omega) (by cases b<;>simp at z ⊢;omega) (by simp only[B30];omega);simp only[nz,vl,f.1];refine ⟨?_,.cons (by simp only[B30];omega) f.2⟩;rw[h];simp only[B30];omega
def NW {a b:List Int} {c:Int} {i:Nat} (h:i < ae a):nz (a.drop i) (b.drop i) c=((af a i 0 - af b i 0 - c) % B30)::nz (a.drop (i+1)) (b.drop (i+1)) (-((af a i 0 - af b i 0 - c) / B30)):=by rw[ail h,nz,uF,drop_tail,show af a i 0=a[i] by simp[af,h]]
def Tv (h:i < ae l):vl (l.set i y)=vl l+B30 ^ i*(y - af l i 0):=by
 have w:i < ae (l.set i y):=bu h;rw[qR h,qR w];have k:(l.set i y).take i=l.take i:=by rw[akl (ahZ _)]
 have x:(l.set i y).drop (i+1)=l.drop (i+1):=by rw[akc (aj3 _)]
 have z:af (l.set i y) i 0=y:=by simp[af,h]
 rw[k,x,z,aks,aiR,aiR];omega
def VS (n:Nat):vl (aA n 0)=0:=by
 induction n with
 | zero=>rfl
 | succ n h=>rw[alq,vl,h];rfl
inductive abf where
 | n (k:IntKind) | b | g | p | f | q | s (e:Nat) | a (n e:Nat) | o (l:List (Nat × Nat))
def yH:Nat->abf
 | 4 => .b | 5 => .n .u8 | 9 => .g | 22 => .s 60 | 23 => .s 64 | 24 => .s 70 | 26 => .o [(0,3),(1,22),(2,23),(3,24)] | 27 => .s 3 | 33 => .s 40 | 40 => .a 2 3 | 41 => .s 117 | 43 => .o [(0,3),(1,41)] | 50 => .o [(0,26),(4,26),(8,27)] | 55 => .o [(0,23),(1,33)] | 56 => .s 80 | 58 => .o [(0,3),(1,56)] | 60 => .o [(0,58),(2,58)] | 62 => .s 75 | 64 => .o [(0,3),(1,3),(2,3),(3,58),(5,62)] | 70 => .o [(0,3),(1,58)] | 73 => .o [(0,27),(1,3)] | 75 => .o [(0,3),(1,73),(3,3)] | 80 => .o [(0,73),(2,4)] | 90 | 101 | 118 | 128 | 131 => .f | 94 => .s 126 | 98 => .s 124 | 102 => .s 58 | 108 => .o [(0,3),(1,3),(2,3),(3,3)] | 111 => .s 142 | 117 => .o [(0,3),(1,3)] | 120 => .s 184 | 122 => .o [(0,3),(1,120)] | 124 => .o [(0,122),(2,122)] | 126 => .o [(0,98),(1,124),(5,4)] | 135 => .s 137 | 137 => .o [(0,3),(1,4),(2,27)] | 139 => .o [(0,135),(1,137)] | 142 => .o [(0,139),(4,4)] | 144 => .o [(0,137),(3,137)] | 145 => .s 144 | 153 => .o [(0,3),(1,124),(5,98),(6,98),(7,98)] | 169 | 195 => .p | 171 => .o [(0,3),(1,144),(7,145)] | 173 => .s 171 | 175 => .o [(0,3),(1,27),(2,173),(3,171)] | 183 => .n .u64 | 184 => .n .u32 | 199 => .s 98 | 201 => .o [(0,3),(1,94),(2,27),(3,27),(4,199),(5,98)] | 241 => .q
 | _ => .n .i64
def wU:Nat->Nat->List AV
 | 0,_=>[]
 | d+1,t=>match yH t with
  | .n k=>[.c (.int k 0)]
  | .b=>[.c (.bool ar)]
  | .g=>[.c (.string ⟨#[]⟩)]
  | .p=>[.c (.pointer an)]
  | .f=>[.c .nilFunc]
  | .q=>[.c .nilIface]
  | .s _=>[.nil]
  | .a n e=>(aA n (wU d e)).flatten
  | .o l=>l.flatMap fun x=>wU d x.2
def lj (t:Nat):Nat:=ae (wU 9 t)
def GN (t:Nat):Bool:=match yH t with
 | .o _ | .a _ _=>aq
 | _=>ar
def rP (t:Nat):Nat:=match yH t with
 | .s e | .a _ e=>e
 | _=>0
def GO (t i:Nat):Nat × Nat:=match yH t with
 | .o l=>af l i (0,0)
 | .a _ e=>(i*lj e,e)
 | _=>(0,0)
def abg:Value->AV
 | .slice an _ _ => .nil
 | .agg cs => .agg (cs.toList.map fun v=>match v with | .slice an _ _ => .nil | v => .c v)
 | v => .c v
def dQ:Operand->Opd
 | .tmp t => .t t
 | .const v => .k (abg v)
 | .func f => .k (.fn f [] [])
 | _ => .k .ba
def uU (a:Array Operand):List Opd:=a.toList.map dQ
def WC:Op->List Operand
 | .move x | .assign x | .box _ x | .load _ x | .nilCheck x | .unOp _ _ x | .convert _ _ x | .fieldAddr _ x _ | .field _ x _ | .extract x _=>[x]
 | .store _ a b | .binOp _ _ a b _ | .makeSlice _ a b | .indexAddr _ a b | .index _ a b=>[a,b]
 | .pick a b c=>[a,b,c]
 | .build _ p | .buildSlice _ _ p=>p.toList.map (·.2)
 | .makeFunc _ a b=>a.toList++b.toList
 | .slice _ x a b c=>x::(a.toList++b.toList++c.toList)
 | .call ⟨.value f,a,_⟩=>f::a.toList
 | .call ⟨_,a,_⟩=>a.toList
 | _=>[]
def Oc (l:List Nat):Operand->Bool
 | .tmp t=>l.contains t
 | _=>ar
structure Hn where
 lv:List Nat:=[]
 fz:List Nat:=[]
 cm:List Nat:=[]
 wk:List Nat:=[]
 yi:List Nat:=[]
def Tq:List Nat:=[22,126,127,128,129,132,155,179]
def XM:List Nat:=[158,159,163]
def ZS:Operand->Bool
 | .global _=>aq
 | _=>ar
def ZT (h:Hn) (fz:List Nat) (dr:Bool) (n:Nat):Op->AOp
 | .move x | .assign x => .mv (dQ x)
 | .pick c a b => .pick (dQ c) (dQ a) (dQ b)
 | .alloc e => .new (lj e) (wU 9 e)
 | .box _ x=>if h.lv.contains n then .ug (dQ x) else .box (dQ x)
 | .build t ps => .bd (wU 9 t) (ps.toList.map fun p=>((GO t p.1).1,lj (GO t p.1).2,dQ p.2))
 | .buildSlice t _ ps=>if h.lv.contains n then .yf (lj (rP t)) (ps.toList.map (dQ ·.2)) else .bs (lj (rP t)) (ps.toList.map (dQ ·.2))
 | .load t a=>if Oc fz a then .Fz (dQ a) (GN t) (lj t) else .ld (dQ a) (GN t) (lj t)
 | .store t a v => .st (dQ a) (dQ v) (lj t)
 | .nilCheck x => .nc (dQ x)
 | .binOp o t x y _=>match yH t with
  | .n _ => .bin o (dQ x) (dQ y)
  | .b => .beq (o == .neq) (dQ x) (dQ y)
  | .s _ => .gm (o == .neq) (dQ x)
  | _ => .IN (o == .neq) ((wU 9 t).map fun z=>match z with | .c (.bool _)=>aq | _=>ar) (dQ x) (dQ y)
 | .unOp o _ x => .un o (dQ x)
 | .convert _ t x=>match yH t with
  | .n k => .cv k (dQ x)
  | _ => .bad
 | .makeFunc (.func f) a b => .mf f (uU a) (uU b)
 | .makeSlice t l c=>if h.fz.contains n then .Ju (lj (rP t)) (wU 9 (rP t)) (dQ l) else .mk (lj (rP t)) (wU 9 (rP t)) (dQ l) (dQ c)
 | .slice t x l g m => .rX (dQ x) (l.map dQ) (g.map dQ) (m.map dQ) (lj (rP t))
 | .fieldAddr t x f => .fa (dQ x) (GO t f).1
 | .field t x f => .fd (dQ x) (GO t f).1 (GN (GO t f).2) (lj (GO t f).2)
 | .indexAddr t x i=>match yH t with
  | .a n e => .Lk (dQ x) (dQ i) n (lj e)
  | _ => .Fy (dQ x) (dQ i) (lj (rP t))
 | .index t x i=>match yH t with
  | .a n e => .ix (dQ x) (dQ i) n (lj e) (GN e)
  | _ => .bad
 | .extract x i => .ex (dQ x) i
 | .call ⟨.value (.func f),a,_⟩=>if dr&&(Tq.contains f || XM.contains f || h.cm.contains f) then .mO f (uU a) else .call f (uU a)
 | .call ⟨.value x,a,_⟩ => .oN (dQ x) (uU a)
 | .call ⟨.builtin .len,a,_⟩ => .len ((uU a).headD YZ)
 | .call ⟨.builtin .append,a,t⟩=>match uU a,yH (af t.toList 1 0) with
  | [x,y],.n _ => .s7 x y (lj (rP (af t.toList 0 0))) (wU 9 (rP (af t.toList 0 0)))
  | [x,y],_ => .app x y (lj (rP (af t.toList 0 0)))
  | _,_ => .bad
 | .call ⟨.builtin .max,a,_⟩ => .mx (uU a)
 | .call ⟨.builtin .min,a,_⟩ => .mn (uU a)
 | .call ⟨.builtin .clear,a,t⟩ => .zq ((uU a).headD YZ) (wU 9 (rP (af t.toList 0 0)))
 | .call ⟨.builtin .copy,a,t⟩=>match uU a with
  | [x,y] => .AX x y (lj (rP (af t.toList 0 0)))
  | _ => .bad
 | _ => .bad
def Al (x:Nat):List Nat->List Nat
 | []=>[x]
 | y::r=>if y < x then x::y::r else if y=x then y::r else y::Al x r
def To (x:Nat):List Nat->List Nat
 | []=>[]
 | y::r=>if x < y then y::To x r else if y=x then r else y::r
def F5 (a b:List Nat):List Nat:=a.foldr Al b
def Ob (x:Operand) (L:List Nat):List Nat:=match x with
 | .tmp t=>Al t L
 | _=>L
def Od (gs:List Nat):List Oper->List Nat->List Nat
 | [],L=>L
 | o::r,L=>(WC o.op).foldr Ob ((match o.guard with
  | some g=>Al (af gs g.1 0)
  | none=>id) (match o.dst with
  | some d=>To d (Od gs r L)
  | none=>Od gs r L))
def Tp (l:List Oper):List Nat:=l.map fun o=>o.dst.getD 0
def JX (h:Hn):List Oper->List Nat->List Nat
 | [],D=>D
 | o::r,D=>JX h r (match o.op with
  | .box _ _=>if h.lv.contains (o.dst.getD 0) then D else o.dst.getD 0::D
  | .fieldAddr _ x _ | .nilCheck x=>if Oc D x then o.dst.getD 0::D else D
  | .indexAddr t x _=>if GN t&&Oc D x then o.dst.getD 0::D else D
  | _=>D)
def RA:Code->List Oper
 | .region _ l _=>l.toList
 | .seq a _=>RA a
 | _=>[]
def WA (h:Hn) (fz:List Nat) (dr:Bool) (l:List Oper):List bU:=l.map fun o=>⟨o.dst,if (WC o.op).any ZS then .bad else ZT h (JX h l fz) dr (o.dst.getD 0) o.op,o.guard.map fun g=>(af (Tp l) g.1 0,g.2)⟩
def Tn (ed:List (List Nat)):List (List Nat):=ed.foldl (fun bs l=>bs++[l.foldl (fun b j=>Al j (F5 (af bs j []) b)) []]) []
def abh:AOp->Nat
 | .new _ _ | .ug _ | .yf _ _ | .st _ _ _ | .mk _ _ _ _ | .app _ _ _ | .zq _ _ | .s7 _ _ _ _=>1
 | .mO _ _=>4
 | .ld _ _ _ | .rX _ _ _ _ _=>2
 | .call _ _ | .oN _ _=>3
 | _=>0
def ZR (h:Hn) (L:List Nat) (A:List bU) (ed b:List (List Nat)):cF :=
 let n:=ae A
 let k:=A.map fun o=>abh o.op
 match A.getLast?,(Tn ed).getLast? with
 | some ⟨x,.mO f a,g⟩,ak l=>if Tq.contains f&&ae l==n - 1 then .DM L ed A.dropLast ⟨x,.call f a,g⟩ else .Aa L ed [] A
 | _,_=>match A.findIdx? fun o=>match o.op with | .oN (.t x) _=>h.yi.contains x | _=>ar with
  | some q => .Ab L ed (A.take q) (A.drop q)
  | none =>
   let un:=((aC n).filter fun x=>af k x 0==1 || af k x 0==4).flatMap fun x=>((aC n).filter fun y=>x != y&&af k y 0 != 0 && !((af b y []).contains x || (af b x []).contains y)).map fun y=>(x,y)
   if un.isEmpty then .BL L ed A else if k.contains 4 then .Aa L ed (un.filter fun p=>af k p.2 0 != 3) A else .xY L ed (un.filter fun p=>af k p.2 0 != 3) A
def Am:Code->Nat
 | .region i _ _=>i+1
 | .seq a b | .cond _ a b=>match Am a with
  | 0=>Am b
  | n=>n
 | .block _ a | .loop a=>Am a
 | .rangeFunc _ _ a _=>Am a
 | _=>0
def lk' (i:Nat):List (Nat × cF)->Option cF
 | []=>an
 | (j,c)::r=>if i=j then ak c else lk' i r
def WB (i:Nat):List (Nat × List Nat)->List Nat
 | []=>[]
 | (j,c)::r=>if i=j then c else WB i r
def oZ:Code->List Nat->List (Nat × List Nat)->List Nat->List Nat
 | .region _ ops _,L,_,_=>Od (Tp ops.toList) ops.toList L
 | .seq a b,L,E,R=>oZ a (oZ b L E R) E R
 | .cond c a b,L,E,R=>Ob c (F5 (oZ a L E R) (oZ b L E R))
 | .block i a,L,E,R=>oZ a L ((i,L)::E) R
 | .loop a,_,E,R=>oZ a [] E R
 | .rangeFunc g ps a b,L,E,R=>Ob g (F5 L (F5 R (E.foldr (fun x l=>F5 x.2 l) ((oZ a (oZ b [] [] []) [] R).filter fun x => !ps.toList.contains x))))
 | .exit i,_,E,_=>WB i E
 | .ret,_,_,R=>R
 | _,L,_,_=>L
def wT (h:Hn) (sp:List (Nat × cF)) (fz:List Nat):Code->List Nat->List (Nat × List Nat)->List Nat->cF
 | .region _ ops d,L,_,_=>if d then ZR h L.reverse (WA h fz aq ops.toList) (ops.toList.map bH) (Tn (ops.toList.map bH)) else .xG L.reverse (WA h fz ar ops.toList)
 | .seq a b,L,E,R => .seq (wT h sp fz a (oZ b L E R) E R) ((if h.wk.contains (Am b) then cF.wk else id) (match lk' (Am b) sp with
  | some z=>z
  | none=>wT h sp fz b L E R))
 | .cond c a b,L,E,R => .cond (dQ c) (wT h sp fz a L E R) (wT h sp fz b L E R)
 | .block i a,L,E,R => .block i (wT h sp fz a L ((i,L)::E) R)
 | .loop a,_,E,R => .loop (oZ a [] E R).reverse (wT h sp fz a (oZ a [] E R) E R)
 | .rangeFunc g ps a b,_,_,R => .Eu (dQ g) (ps.toList.headD 0) (wT h sp fz a (oZ b [] [] []) [] R) (wT h sp fz b [] [] [])
 | .exit i,_,_,_ => .exit i
 | .ret,_,_,_ => .ret
 | .skip,_,_,_ => .skip
 | .label i,_,_,_ => .label i
 | _,_,_,_ => .bad
def Bl (h:Hn) (sp:List (Nat × cF)) (fz:List Nat) (i:Nat):Code->List Nat->List (Nat × List Nat)->List Nat->Option cF
 | .seq a b,L,E,R=>if Am b=i then ak (wT h sp fz b L E R) else (Bl h sp fz i b L E R).or (Bl h sp fz i a (oZ b L E R) E R)
 | .cond _ a b,L,E,R=>(Bl h sp fz i a L E R).or (Bl h sp fz i b L E R)
 | .block j a,L,E,R=>Bl h sp fz i a L ((j,L)::E) R
 | .loop a,_,E,R=>Bl h sp fz i a (oZ a [] E R) E R
 | .rangeFunc _ _ a b,_,_,R=>Bl h sp fz i a (oZ b [] [] []) [] R
 | _,_,_,_=>an
def JY (f:Func):List Nat:=f.results.toList.foldr (fun r l=>match r with | .tmp t=>Al t l | .cell a _=>Al a l) []
def JP (f:Func):List jZ:=f.results.toList.map fun r=>match r with
 | .tmp t => .t t
 | .cell a t => .cell a (GN t) (lj t)
def Tz (i:Nat) (f:Func) (h:Hn:={}) (j:Nat:=999) (a:cF := .skip) (k:Nat:=999) (b:cF := .skip):cF:=match f.body with
 | some c=>if i=0 then wT h [(j,a),(k,b)] (JX h (RA c) h.fz) c (JY f) [] (JY f) else (Bl h [(j,a),(k,b)] (JX h (RA c) h.fz) i c (JY f) [] (JY f)).getD .bad
 | none => .bad
def Jx (P:Program) (f:Func) (c:cF):Bool:=match f.body with
 | some b=>fk P f.ntmps b c&&tF P f.results.toList (JP f)&&dR c && !(f.name== "runtime.NumGoroutine")
 | none=>ar
section
variable {P:Program} {f:FuncId} {fn:Func} {c:cF} {rs:List jZ} {args:List AV} {r:AV} {H H2:aF}
def A9 (h:Jx P fn c=aq) (x:P.funcs[f]?=ak fn):HG P f fn.ntmps c (JP fn)/\dR c=aq:=by
 unfold Jx at h;split at h
 .rename_i b k;simp only[ah2,ajJ] at h;exact ⟨⟨fn,b,x,h.2,k,rfl,h.1.1.1,h.1.1.2⟩,h.1.2⟩
 .cases h
def qc (h:P.funcs[f]?=ak fn) (c:cF) {Post:AV->aF->Prop} (w:WP P fn.ntmps c (iZ rs Post) (nI args) H) (o:Jx P fn c=aq:=by kernel_rfl) (k:JP fn=rs:=by conv=>lhs;cbv)
  (x:Nat.ble (ae args) fn.ntmps=aq:=by rfl):cR P f args H Post:=by subst k;exact Ur (A9 o h).1 (alK x) (A9 o h).2 w
def cc (h:P.funcs[f]?=ak fn) (c:cF) (w:WP P fn.ntmps c (jh rs (ae H) r H2) (nI args) H) (o:Jx P fn c=aq:=by kernel_rfl) (k:JP fn=rs:=by conv=>lhs;cbv)
  (x:Nat.ble (ae args) fn.ntmps=aq:=by rfl):bR P f args H r H2:=by subst k;exact W3 (A9 o h).1 (alK x) (A9 o h).2 w
def pc (h:P.funcs[f]?=ak fn) (c:cF) (w:WP P fn.ntmps c (jh rs 0 r []) (nI args) []) (o:Jx P fn c=aq:=by kernel_rfl) (k:JP fn=rs:=by conv=>lhs;cbv)
  (x:Nat.ble (ae args) fn.ntmps=aq:=by rfl):bg P f args r:=cc (H:=[]) h c w o k x
def qw (h:P.funcs[f]?=ak fn) {Post:AV->aF->Prop} (w:WP P fn.ntmps c (iZ rs Post) (nI args) H) (e:Tz 0 fn=c:=by conv=>lhs;cbv) (o:Jx P fn (Tz 0 fn)=aq:=by kernel_rfl) (k:JP fn=rs:=by conv=>lhs;cbv)
  (x:Nat.ble (ae args) fn.ntmps=aq:=by rfl):cR P f args H Post:=qc h _ (e ▸ w) o k x
def cw (h:P.funcs[f]?=ak fn) (w:WP P fn.ntmps c (jh rs (ae H) r H2) (nI args) H) (e:Tz 0 fn=c:=by conv=>lhs;cbv) (o:Jx P fn (Tz 0 fn)=aq:=by kernel_rfl) (k:JP fn=rs:=by conv=>lhs;cbv)
  (x:Nat.ble (ae args) fn.ntmps=aq:=by rfl):bR P f args H r H2:=cc h _ (e ▸ w) o k x
def pw (h:P.funcs[f]?=ak fn) (w:WP P fn.ntmps c (jh rs 0 r []) (nI args) []) (e:Tz 0 fn=c:=by conv=>lhs;cbv) (o:Jx P fn (Tz 0 fn)=aq:=by kernel_rfl) (k:JP fn=rs:=by conv=>lhs;cbv)
  (x:Nat.ble (ae args) fn.ntmps=aq:=by rfl):bg P f args r:=cw (H:=[]) h w e o k x
def uz {N i j k:Nat} {h:Hn} {a b:cF} {R:cx} {e:Env} {g:cF->cF->cF} (w:WP P N (g a b) R e H) (E:∀y z,Tz i fn h j y k z=g y z:=by intro y z;conv=>lhs;cbv):WP P N (Tz i fn h j a k b) R e H:=E a b ▸ w
end
def bl8:Nat->Nat->Nat
 | 0,_=>0
 | d+1,n=>if n=0 then 0 else bl8 d (n / 2)+1
def Q2:List Nat:=(aC 256).map (bl8 8)
noncomputable section
def eB:Hn:={fz:=[12,14,16,19,22,24,26,28],cm:=[23,24],wk:=[8,11,17,27,37,40,47,50]}
def oE:=Tz 53 f10 eB
def oD:=Tz 44 f10 eB 53 oE
def oC:=Tz 34 f10 eB 44 oD
def oB:=Tz 24 f10 eB 34 oC
def oA:=Tz 14 f10 eB 24 oB
def oz:=Tz 5 f10 eB 14 oA
def zo:=Tz 0 f10 eB 5 oz
def BV:=Tz 0 f15 {fz:=[34,41]}
def qq:=Tz 3 f19 {}
def B3:=Tz 0 f19 {} 3 qq
def BZ:=Tz 0 f20 {cm:=[37]}
def iv:Hn:={fz:=[7,9,11,13,15],wk:=[8,11,19,24,27]}
def pU:=Tz 30 f32 iv
def pT:=Tz 21 f32 iv 30 pU
def pS:=Tz 14 f32 iv 21 pT
def pR:=Tz 5 f32 iv 14 pS
def Bv:=Tz 0 f32 iv 5 pR
def EB:=Tz 0 f73 {cm:=[98]}
def m7:Hn:={fz:=[4,7,10,12],wk:=[4,13,22,25],yi:=[34,73,122]}
def pQ:=Tz 19 f75 m7
def pP:=Tz 10 f75 m7 19 pQ
def kj:=Tz 0 f75 m7 10 pP
def pO:=Tz 9 f77 {wk:=[5]}
def Bu:=Tz 0 f77 {wk:=[5]} 9 pO
def dk:Hn:={lv:=[21]}
def nS:=Tz 29 f79 dk
def nR:=Tz 23 f79 dk 29 nS
def nQ:=Tz 19 f79 dk 23 nR
def nP:=Tz 17 f79 dk 19 nQ
def vH:=Tz 14 f79 dk 17 nP
def nN:=Tz 13 f79 dk 14 vH
def nM:=Tz 8 f79 dk 13 nN
def vG:=Tz 3 f79 dk 8 nM
def yt:=Tz 0 f79 dk 3 vG
def OD:=Tz 0 f91 {lv:=[2,3]}
def zk:=Tz 6 f97 {lv:=[2,3]}
def L4:=Tz 0 f97 {lv:=[2,3]} 6 zk
def sG:=Tz 6 f101 {}
def Ez:=Tz 0 f101 {} 6 sG
def my:=Tz 22 f103 {}
def mw:=Tz 14 f103 {} 22 my
def tY:=Tz 2 f103 {} 14 mw
def vJ:=Tz 0 f103 {} 2 tY
def bP:Hn:={lv:=[131]}
def gY:=Tz 20 f104 bP
def sh:=Tz 18 f104 bP 20 gY
def sf:=Tz 46 f104 bP
def kY:=Tz 39 f104 bP 46 sf
def kX:=Tz 56 f104 bP
def kW:=Tz 50 f104 bP 56 kX
def kV:=Tz 35 f104 bP 39 kY 50 kW
def kU:=Tz 30 f104 bP 35 kV
def kT:=Tz 25 f104 bP 30 kU
def gX:=Tz 22 f104 bP 25 kT
def kS:=Tz 14 f104 bP 18 sh 22 gX
def kR:=Tz 11 f104 bP 14 kS
def kQ:=Tz 9 f104 bP 11 kR
def tX:=Tz 0 f104 bP 9 kQ
def lA:=Tz 21 f106 {}
def lz:=Tz 23 f106 {}
def fG:=Tz 9 f106 {} 21 lA 23 lz
def ly:=Tz 3 f106 {} 9 fG
def uk:=Tz 0 f106 {} 3 ly
def uX:=Tz 16 f109 {}
def uW:=Tz 10 f109 {} 16 uX
def HM:=Tz 0 f109 {} 10 uW
def wZ:=Tz 0 f117 {lv:=[3]}
def mu:=Tz 17 f118 {}
def mr:=Tz 11 f118 {} 17 mu
def vI:=Tz 0 f118 {} 11 mr
def ns:=Tz 4 f125 {}
def xP:=Tz 0 f125 {} 4 ns
def ML:=Tz 0 f126 {lv:=[20,66]}
def Av:=Tz 0 f127 {lv:=[1],cm:=[133]}
def ey:Hn:={lv:=[1,171],cm:=[133]}
def kO:=Tz 22 f129 ey
def pN:=Tz 43 f129 ey
def pj:=Tz 41 f129 ey 43 pN
def pM:=Tz 37 f129 ey 41 pj
def pL:=Tz 26 f129 ey 37 pM
def ph:=Tz 16 f129 ey 22 kO 26 pL
def pK:=Tz 11 f129 ey 16 ph
def Bt:=Tz 0 f129 ey 11 pK
def uh:=Tz 6 f131 {}
def GX:=Tz 0 f131 {} 6 uh
def BY:=Tz 0 f143 {lv:=[3,5]}
def nW:Hn:={lv:=[2,3]}
def qn:=Tz 8 f148 nW
def qk:=Tz 4 f148 nW 8 qn
def BW:=Tz 0 f148 nW 4 qk
def qp:=Tz 6 f151 {}
def qo:=Tz 4 f151 {} 6 qp
def BX:=Tz 0 f151 {} 4 qo
def CX:=Tz 0 f176 {lv:=[2,3]}
def nK:=Tz 4 f178 {}
def yq:=Tz 0 f178 {} 4 nK
def yh:cF := .seq (.xG [0,2] [d 2 (.mv (i64 0))]) (.seq (.seq (.xG [0,2,4] [d 3 (.mv (.t 0)),d 4 (.bin .geq (.t 3) (u32 65536))]) (.cond (.t 4) (.seq (.xG [0] [d 5 (.mv (.t 0)),d 6 (.bin .shr (.t 5) (u64 16)),d 0 (.mv (.t 6))]) (.xG [0,2] [d 2 (.mv (i64 16))])) .skip)) (.seq (.seq (.xG [0,2,8] [d 7 (.mv (.t 0)),d 8 (.bin .geq (.t 7) (u32 256))]) (.cond (.t 8) (.seq (.xG [0,2] [d 9 (.mv (.t 0)),d 10 (.bin .shr (.t 9) (u64 8)),d 0 (.mv (.t 10))]) (.xG [0,2] [d 11 (.mv (.t 2)),d 12 (.bin .add (.t 11) (i64 8)),d 2 (.mv (.t 12))])) .skip)) (.seq (.xG [2] [d 13 (.mv (.t 2)),d 14 (.mv (.t 0)),d 15 (.cv .u8 (.t 14)),d 16 (.Jc Q2 (.t 15)),d 17 (.cv .i64 (.t 16)),d 18 (.bin .add (.t 13) (.t 17)),d 2 (.mv (.t 18))]) .ret)))
def nL:=Tz 4 f182 {}
def yr:=Tz 0 f182 {} 4 nL
def jx:Hn:={cm:=[190]}
def oy:=Tz 15 f185 jx
def ow:=Tz 21 f185 jx
def ov:=Tz 7 f185 jx 15 oy 21 ow
def zn:=Tz 0 f185 jx 7 ov
def rT:=Tz 11 f186 {}
def Aw:=Tz 9 f186 {} 11 rT
def CY:=Tz 0 f186 {} 9 Aw
def jo:=Tz 10 f188 {}
def ou:=Tz 0 f188 {} 10 jo
end
def Gb (l:List Int) (w:ae l < 4294967296) (f:Bool):bg prog 165 [.seq 1 f (eh l)] (eY (cH l)):=by
 refine pw func165 ?_;refine Y ?_;refine aZ (fun n e H=>∃m f,e=[(0,AV.seq 1 f (eh m))]/\H=[]/\n=ae m/\ae m < 4294967296/\cH m=cH l) ⟨l,f,rfl,rfl,rfl,w,rfl⟩ ?_;rintro _ _ _ ⟨m,f,rfl,rfl,rfl,b,y⟩;have k:cH m=m->Fin 0 (AV.seq 1 f (eh m)) [] (eY (cH l)) []:=fun h=>by
  rw[<-y,h];cases f
  .exact jK rfl
  .exact oP (.cell (.full 1 _)) rfl
 by_cases h:(0:Int) < ae m
 .have a:au .i64 (ae m - 1)=ae m - 1:=wrap_i64 aD aD;have z:az ((ae m:Int) - 1)=ae m - 1:=aD;refine Y3 h a z ?_;refine ⟨aD,fun x=>⟨aD,ae m - 1,aD,m.take (ae m - 1),_,rfl,?_,?_,?_⟩,fun x=>k (rJ x)⟩
  .simp
  .simp;omega
  .rw[lL aD x,y]
 .refine Y1 h ?_;have:m=[]:=aiA aD;subst this;exact k rfl
def Oj (n:Int):bg prog 111 [ju n] (.q0 n.sign):=by
 have key:∀(v:Int) (d:AV),dM d=aq->bg prog 111 [.agg [.q0 v,d]] (.q0 v.sign):=fun v d k=>by refine pw func111 ?_;refine Y1 k ?_;refine ⟨fun h=>aW (by rw[ai5 h]) rfl,fun h=>⟨fun h=>aW (by rw[ai0 h]) rfl,fun h=>aW (by rw[show v=0 by omega];rfl) rfl⟩⟩
 unfold ju;split
 .exact key n .nil rfl
 .have:=key n.sign (eY (aX (ay n))) rfl
  rwa [show n.sign.sign=n.sign by simp] at this
def WD (n:Int):bg prog 115 [ju n] (ju (-n)):=by
 have key:∀(v:Int) (d:AV),d = .nil\/(∃k f y,d = .seq k f y) -> -9223372036854775808 < v/\v < 9223372036854775808->bg prog 115 [.agg [.q0 v,d]] (.agg [.q0 (-v),d]):=fun v d z hv=>by
  refine pw func115 ?_;have x:au .i64 (0 - v) = -v:=by rw[wrap_i64 aD aD];omega
  rcases z with rfl | ⟨k,f,y,rfl⟩
  .refine Y1 x ?_;exact aW rfl rfl
  .refine Y1 x ?_;exact aW rfl rfl
 by_cases h:-4611686018427387904 < n/\n < 4611686018427387904
 .rw[oO h,oO aD];exact key n .nil (.inl rfl) aD
 .rw[vO h,vO aD];have:=key n.sign (eY (aX (ay n))) (.inr ⟨_,_,_,rfl⟩) (by rcases als n with h | h | h<;>rw[h]<;>decide)
  rwa [show ay (-n)=ay n by omega,show (-n).sign = -n.sign by simp]
def abk (n:Int):bg prog 110 [ju n] (ju (ay n)):=by
 refine pw func110 ?_;have ⟨v,d,z⟩:=iK n;refine Y2 z.eq z.fr ?_;refine ⟨fun h=>?_,fun h=>?_⟩
 .have k:n < 0:=by have:=z.sg;rw[ai0 h] at this;exact amD.1 this.symm
  refine aH (z.eq ▸ WD n) (by rw[<-z.eq];simp[fH]) (fH _) ?_;have ⟨w,y,x⟩:=iK (-n);refine Y2 x.eq x.ic ?_;exact jw (by rw[<-x.eq];congr 1;omega)
 .have k:¬n < 0:=by intro k;have:=z.sg;rw[ai0 k] at this;exact h (amD.1 this)
  refine Y1 z.ic ?_;exact jw (by rw[<-z.eq];congr 1;omega)
def F9 (s:Int) (l:List Int) (B:s=1\/s = -1\/s=0) (F:ae l < 4294967296) (a:DOk l) (f:Bool) (C:s=0->val l=0):bg prog 137 [.q0 s,.seq 1 f (eh l)] (ju (s*val l)):=by
 refine pw func137 ?_;refine Y ?_;refine cX (Gb l F f) ?_;have I:=xK l;have ⟨g,x⟩:=fS (az (val l));have N:=dh a;rw[<-qN a] at g x;generalize v:cH l=m at *;simp only[go_sem,↓reduceIte];have p:val m=val l:=by rw[g];omega
 have L:cH m=m:=by rw[<-v,qN a,lT]
 have y:¬val l < 4611686018427387904->∀H,Fin 0 (AV.agg [AV.c (Value.int IntKind.i64 s),AV.seq 1 ar (eh m)]) H (ju (s*val l)) []:=fun P H=>by
  refine jw ?_;have J:s≠0:=fun h=>cn (C h);have z:m=aX (az (val l)):=by rw[<-v,qN a]
  have j:s=1\/s = -1:=aD;rw[vO (by rcases j with rfl | rfl<;>omega),z];rcases j with rfl | rfl
  .rw[aj2,ai5 (by omega),show ay (val l)=az (val l) by omega]
  .rw[ai0 (by omega),show ay (-1*val l)=az (val l) by omega]
 refine ⟨fun A=>?_,fun A=>?_⟩
 .have G:ae m<=2:=aD;refine aZ (fun n e H=>∃i:Nat,i<=ae m/\n=ae m - i/\H=[ak {k:=2,ver:=0,xs:=[[AV.c (Value.int IntKind.i64 0),AV.nil]]}]/\e=[(0,AV.c (Value.int IntKind.i64 s)),(1,eY m),(4,AV.ptr 0 0 0 0),(5,AV.c (Value.int IntKind.u64 (val (m.take i)))),(13,eY m),(14,AV.c (Value.int IntKind.i64 (ae m))),(15,AV.c (Value.int IntKind.i64 i))]) ⟨0,aD,rfl,rfl,?_⟩ ?_
  .simp only[go_sem,↓reduceIte,val];rfl
  .rintro _ _ _ ⟨i,R,rfl,rfl,rfl⟩;simp only[go_sem,↓reduceIte,Nat.reduceLeDiff,ahZ];refine ⟨fun t=>⟨aD,?_⟩,fun D=>?_⟩
   .have O:au .i64 (32*(i:Int))=32*i:=wrap_i64 aD aD;have w:=ws i;have b:=x.getD i;have M:=dh (x.take i);have K:=mj (x.take i);rw[aiG,aiQ (by omega)] at K;have W:au .u64 (af m i 0)=af m i 0:=bN b.1 (by simp only[B32] at b;omega);rw[O,w];refine ⟨aD,ae m - (i+1),aD,i+1,aD,rfl,?_⟩;rw[fv (by omega)];have r:i=0\/i=1:=aD;have E:xD .u64 (val (m.take i)) (au .u64 (au .u64 (af m i ah)*2 ^ min (az (32*(i:Int))) 64))=val (m.take i)+B32 ^ i*af m i 0:=by
     rw[show (ah:Int)=0 from rfl,W];simp only[B32] at *;rcases r with rfl | rfl
     .have e:((af m 0 0)*2 ^ min (az (32*((0:Nat):Int))) 64)=af m 0 0*2 ^ 0:=by congr 1
      rw[e,bN (by omega) (by omega),v9 (by omega) (by omega) (by omega)];omega
     .have e:((af m 1 0)*2 ^ min (az (32*((1:Nat):Int))) 64)=af m 1 0*2 ^ 32:=by congr 1
      rw[e,bN (by omega) (by omega),v9 (by omega) (by omega) (by omega)];omega
    rw[E]
   .have q:i=ae m:=aD;subst q;rw[aiK,p];refine ⟨fun o=>?_,fun o=>?_⟩
    .have X:au .i64 (val l)=val l:=wrap_i64 aD aD;have w:au .i64 (s*val l)=s*val l:=by rcases B with rfl | rfl | rfl<;>exact wrap_i64 aD aD
     rw[X,w];exact jw (oO (by rcases B with rfl | rfl | rfl<;>omega)).symm
    .exact y o _
 .simp only[ahZ,abc];refine ⟨alK rfl,y (fun t=>A ?_) _⟩;have z:m=aX (az (val l)):=by rw[<-v,qN a]
  have:ae (aX (az (val l)))<=2:=jq.2 aD;rw[<-z] at this;omega
def IK (x:0<=n) (h:n < 18446744073709551616) (y:a=n % 4294967296) (z:b=n / 4294967296):cH [a,b]=aX (ay n):=by have k:DOk [a,b] := .cons (by simp only[B32];omega) (.cons (by simp only[B32];omega) .nil);rw[qN k];congr 1;simp only[val,B32];omega
def Ao (n:Int):bg prog 134 [ju n] (.bM [.q0 n.sign,eY (aX (ay n))]):=by
 refine pw func134 ?_;have ⟨v,d,z⟩:=iK n;rcases z.cases with ⟨rfl,rfl⟩ | ⟨rfl,rfl,l⟩
 .have c:=z.lo;have j:=z.hi;have y:au .i64 (0 - v) = -v:=by rw[wrap_i64 aD aD];omega
  have fin:∀(s m a b:Int) H,s=v.sign->0<=m->m < 4611686018427387904->ay m=ay v->a=m % 4294967296->b=m / 4294967296 ->
    Fin 0 (.bM [.q0 s,eY (cH [a,b])]) H (.bM [.q0 v.sign,eY (aX (ay v))]) []:=fun s m a b H i w c g e f =>
   aW (by rw[i,IK w aD e f,g]) rfl;refine Y2 z.eq y ?_;refine ⟨fun h=>?_,fun h=>⟨fun x=>?_,fun x=>?_⟩⟩
  .refine ⟨aR,aH (Gb [_,_] aO aq) rfl rfl ?_⟩;refine Y ?_;have k:au .u64 v=v:=bN aD aD;exact fin _ v _ _ _ (ai5 h).symm aD aD rfl (by rw[k,eI]) (by rw[k,eI];omega)
  .refine ⟨aR,aH (Gb [_,_] aO aq) rfl rfl ?_⟩;refine Y ?_;have k:au .u64 (-v) = -v:=bN aD aD;exact fin _ (-v) _ _ _ (ai0 x).symm aD aD aD (by rw[k,eI]) (by rw[k,eI];omega)
  .refine ⟨aR,aH (Gb [_,_] aO aq) rfl rfl ?_⟩;refine Y ?_;have k:v=0:=aD;subst k;exact fin _ 0 _ _ _ rfl aD aD rfl rfl rfl
 .refine Y1 z.eq ?_;refine ⟨fun h=>?_,aW rfl rfl⟩;rw[ky] at h;omega
def CF (x y c:Int) (f:0<=x/\x < 4294967296) (g:0<=y/\y < 4294967296) (e:0<=c/\c<=1):bg prog 169 [.c (.int .u32 x),.c (.int .u32 y),.c (.int .u32 c)] (.bM [.c (.int .u32 ((x+y+c) % 4294967296)),.c (.int .u32 ((x+y+c) / 4294967296))]):=by refine pw func169 ?_;have h:au .u64 x=x:=bN aD aD;have k:au .u64 y=y:=bN aD aD;have z:au .u64 c=c:=bN aD aD;have w:au .u64 (x+y)=x+y:=bN aD aD;have b:au .u64 (x+y+c)=x+y+c:=bN aD aD;refine Y5 h k z w b ?_;refine ⟨aR,aW ?_ rfl⟩;rw[eI,eI,akL (a:=(x+y+c) / 4294967296) aD aD]
def qL {n:Int} (h:0 < n):n.sign=1:=ai5 h
def sign_neg {n:Int} (h:n < 0):n.sign = -1:=ai0 h
def LX (l m:List Int) (K:ae l < 4294967296) (hm:ae m < 4294967296) (x:DOk l) (y:DOk m) (q:cH l=l) (r:cH m=m) (f g:Bool) :
  bg prog 135 [.seq 1 f (eh l),.seq 1 g (eh m)] (.c (.int .i64 (val l - val m).sign)):=by
 refine pw func135 ?_;refine Y ?_;refine ⟨fun t=>?_,fun t=>⟨fun h=>aW ?_ rfl,fun h=>aW ?_ rfl⟩⟩
 .have j:ae l=ae m:=aD;rw[show au .i64 ((ae l:Int) - 1)=(ae l:Int) - 1 from wi];refine aZ (fun n e H=>∃i:Nat,i<=ae l/\n=i/\H=[]/\l.drop i=m.drop i/\e=[(0,AV.seq 1 f (eh l)),(1,AV.seq 1 g (eh m)),(5,AV.c (Value.int IntKind.i64 ((i:Int) - 1)))]) ⟨ae l,ahZ _,rfl,rfl,by rw[aiZ,j,aiZ],rfl⟩ ?_;rintro n _ _ ⟨i,v,X,rfl,w,rfl⟩;by_cases s:i=0
  .subst s;refine Y ?_;refine ⟨fun h=>aD,fun _=>aW ?_ rfl⟩;have:l=m:=bu w;rw[this];simp
  .have o:az ((i:Int) - 1)=i - 1:=by omega
   have k:l.drop (i - 1+1)=m.drop (i - 1+1):=by rw[show i - 1+1=i by omega];exact w
   refine Y1 o ?_;refine ⟨fun _=>⟨aD,aD,fun p=>?_,fun p=>⟨aD,aD,fun z=>aW ?_ rfl,fun z=>aW ?_ rfl⟩⟩,fun h=>aD⟩
   .refine ⟨i - 1,by omega,i - 1,by omega,rfl,?_,?_⟩
    .rw[ail (by omega:i - 1 < ae l),ail (by omega:i - 1 < ae m),k];congr 1;simpa[af,show i - 1 < ae l by omega,show i - 1 < ae m by omega] using p
    .rw[wrap_i64 (by omega) (by omega),show ((i - 1:Nat):Int)=(i:Int) - 1 by omega]
   .rw[sign_neg];have:=P6 x y aD aD k z;omega
   .rw[qL];have:af m (i - 1) 0 < af l (i - 1) 0:=by have a:¬af l (i - 1) 0=af m (i - 1) 0:=p;have b:¬af l (i - 1) 0 < af m (i - 1) 0:=z;omega
    have:=P6 y x aD aD k.symm this;omega
 .rw[sign_neg];have:=P7 x y r aD;omega
 .rw[qL];have:=P7 y x q aD;omega
def aab (a b:List Int) (D:ae a < 4294967295) (E:ae b < 4294967295) (A:DOk a) (B:DOk b) (f g:Bool) :
  bg prog 170 [.seq 1 f (eh a),.seq 1 g (eh b)] (eY (if ae a < ae b then gT b a 0 else gT a b 0)):=by
 refine pw func170 ?_;by_cases h:ae a < ae b
 .have X:(ae a:Int) < ae b:=by omega
  have r:au .i64 ((ae b:Int)+1)=ae b+1:=wrap_i64 aD aD;rw[ah1 h];refine Y2 X r ?_;refine ⟨aD,?_⟩;refine aZ (fun n e H=>∃(i ver:Nat) (c:Int) (o:List Int),i<=ae b/\n=ae b - i/\ae o=i/\(0<=c/\c<=1)/\gT b a 0=o++gT (b.drop i) (a.drop i) c/\H=[ak ⟨1,ver,eh o⟩] /\
   e=[(0,.seq 1 g (eh b)),(1,.seq 1 f (eh a)),(5,.sl 1 0 ver 0 i),(6,.c (.int .u32 c)),(22,.q0 (ae b)),(23,.q0 i)]) ⟨0,0,0,[],aD,rfl,rfl,aR,rfl,rfl,?_⟩ ?_
  .simp only[go_sem,↓reduceIte];rfl
  rintro n _ _ ⟨i,ver,c,o,C,F,j,K,x,rfl,rfl⟩;by_cases w:(i:Int) < ae b
  .have r:=ws i;have z:=B.getD i;have l:=A.getD i;simp only[B32] at z l;have m:∀y:Int,y=af a i 0->(((af b i 0+y+c) / 4294967296:Int)>=0/\(af b i 0+y+c) / 4294967296<=1)/\gT b a 0=(o++[(af b i 0+y+c) % 4294967296])++gT (b.drop (i+1)) (a.drop (i+1)) ((af b i 0+y+c) / 4294967296):=fun y W=>by subst W;refine ⟨aD,?_⟩;rw[x,KU (by omega)];simp
   by_cases q:(i:Int) < ae a
   .refine Y2 w q ?_;refine ⟨aD,aD,aH (CF _ _ _ z l K) rfl rfl ?_⟩;refine Y ?_;rw[qh (by simp[j])];refine Y1 r ?_;have ⟨s,t⟩:=m _ rfl;exact ⟨aD,n - 1,aD,i+1,ver+1,_,_,aD,aD,by simp[j],s,t,by simp[eh,j5],rfl⟩
   .have v:af a i 0=0:=by simp[af,show ae a<=i by omega]
    refine Y2 w q ?_;refine ⟨aD,aH (CF _ 0 _ z aR K) rfl rfl ?_⟩;refine Y ?_;rw[qh (by simp[j])];refine Y1 r ?_;have ⟨s,t⟩:=m 0 v.symm;exact ⟨aD,n - 1,aD,i+1,ver+1,_,_,aD,aD,by simp[j],s,t,by simp[eh,j5],rfl⟩
  .refine Y1 w ?_;rw[qh (by simp[j])];refine Y ?_;refine ⟨aD,?_⟩;have p:i=ae b:=aD;rw[x,p,aiZ,gT];have:=Gq (k:=1) (ver:=ver+1) (n:=ae b+1) (xs:=eh (o++[c])) (by simp[j,p]) (tL _);simpa[eY,eh,j5] using this
 .have X:¬(ae a:Int) < ae b:=by omega
  have r:au .i64 ((ae a:Int)+1)=ae a+1:=wrap_i64 aD aD;rw[ah0 h];refine Y2 X r ?_;refine ⟨aD,?_⟩;refine aZ (fun n e H=>∃(i ver:Nat) (c:Int) (o:List Int),i<=ae a/\n=ae a - i/\ae o=i/\(0<=c/\c<=1)/\gT a b 0=o++gT (a.drop i) (b.drop i) c/\H=[ak ⟨1,ver,eh o⟩] /\
   e=[(0,.seq 1 f (eh a)),(1,.seq 1 g (eh b)),(5,.sl 1 0 ver 0 i),(6,.c (.int .u32 c)),(22,.q0 (ae a)),(23,.q0 i)]) ⟨0,0,0,[],aD,rfl,rfl,aR,rfl,rfl,?_⟩ ?_
  .simp only[go_sem,↓reduceIte];rfl
  rintro n _ _ ⟨i,ver,c,o,C,F,j,K,x,rfl,rfl⟩;by_cases w:(i:Int) < ae a
  .have r:=ws i;have z:=A.getD i;have l:=B.getD i;simp only[B32] at z l;have m:∀y:Int,y=af b i 0->(((af a i 0+y+c) / 4294967296:Int)>=0/\(af a i 0+y+c) / 4294967296<=1)/\gT a b 0=(o++[(af a i 0+y+c) % 4294967296])++gT (a.drop (i+1)) (b.drop (i+1)) ((af a i 0+y+c) / 4294967296):=fun y W=>by subst W;refine ⟨aD,?_⟩;rw[x,KU (by omega)];simp
   by_cases q:(i:Int) < ae b
   .refine Y2 w q ?_;refine ⟨aD,aD,aH (CF _ _ _ z l K) rfl rfl ?_⟩;refine Y ?_;rw[qh (by simp[j])];refine Y1 r ?_;have ⟨s,t⟩:=m _ rfl;exact ⟨aD,n - 1,aD,i+1,ver+1,_,_,aD,aD,by simp[j],s,t,by simp[eh,j5],rfl⟩
   .have v:af b i 0=0:=by simp[af,show ae b<=i by omega]
    refine Y2 w q ?_;refine ⟨aD,aH (CF _ 0 _ z aR K) rfl rfl ?_⟩;refine Y ?_;rw[qh (by simp[j])];refine Y1 r ?_;have ⟨s,t⟩:=m 0 v.symm;exact ⟨aD,n - 1,aD,i+1,ver+1,_,_,aD,aD,by simp[j],s,t,by simp[eh,j5],rfl⟩
  .refine Y1 w ?_;rw[qh (by simp[j])];refine Y ?_;refine ⟨aD,?_⟩;have p:i=ae a:=aD;rw[x,p,aiZ,gT];have:=Gq (k:=1) (ver:=ver+1) (n:=ae a+1) (xs:=eh (o++[c])) (by simp[j,p]) (tL _);simpa[eY,eh,j5] using this
def P9 (x y c:Int) (a:0<=x/\x < 4294967296) (b:0<=y/\y < 4294967296) (w:0<=c/\c<=1):bg prog 181 [.c (.int .u32 x),.c (.int .u32 y),.c (.int .u32 c)] (.bM [.c (.int .u32 ((x - y - c) % 4294967296)),.c (.int .u32 (-((x - y - c) / 4294967296)))]):=by
 refine pw func181 ?_;have h:au .u32 (au .u32 (x - y) - c)=(x - y - c) % 4294967296:=by rw[eI,eI];omega
 refine Y1 h ?_;have k:(if IntKind.u32.signed=aq then (-1:Int) else IntKind.u32.max)=4294967295:=rfl;have z:((2:Int) ^ min (Int.toNat 31) 32)=2147483648:=rfl;refine ⟨aR,aW ?_ rfl⟩;rw[k,z,akw _ aR,Qy a b w rfl]
def Qa (a b:List Int) (X:ae a < 4294967295) (W:ae b < 4294967295) (v:DOk a) (K:DOk b) (f g:Bool) :
  bg prog 171 [.seq 1 f (eh a),.seq 1 g (eh b)] (eY (mG a b 0)):=by
 refine pw func171 ?_;refine Y ?_;refine ⟨aD,?_⟩;refine aZ (fun n e H=>∃(i ver:Nat) (c:Int) (o:List Int),i<=ae a/\n=ae a - i/\ae o=i/\(0<=c/\c<=1)/\mG a b 0=o++mG (a.drop i) (b.drop i) c/\H=[ak ⟨1,ver,eh o⟩] /\
  e=[(0,.seq 1 f (eh a)),(1,.seq 1 g (eh b)),(5,.sl 1 0 ver 0 i),(6,.c (.int .u32 c)),(14,.q0 (ae a)),(15,.q0 i)]) ⟨0,0,0,[],aD,rfl,rfl,aR,rfl,rfl,?_⟩ ?_
 .simp only[go_sem,↓reduceIte];rfl
 rintro n _ _ ⟨i,ver,c,o,B,C,m,s,h,rfl,rfl⟩;by_cases x:(i:Int) < ae a
 .have t:=ws i;have k:=v.getD i;have z:=K.getD i;simp only[B32] at k z;have w:∀y:Int,y=af b i 0->((-((af a i 0 - y - c) / 4294967296):Int)>=0 /\ -((af a i 0 - y - c) / 4294967296)<=1)/\mG a b 0=(o++[(af a i 0 - y - c) % 4294967296])++mG (a.drop (i+1)) (b.drop (i+1)) (-((af a i 0 - y - c) / 4294967296)):=fun y A=>by subst A;refine ⟨aD,?_⟩;rw[h,Tj (by omega)];simp
  by_cases l:(i:Int) < ae b
  .refine Y2 x l ?_;refine ⟨aD,aD,aH (P9 _ _ _ k z s) rfl rfl ?_⟩;refine Y ?_;rw[qh (by simp[m])];refine Y1 t ?_;have ⟨p,q⟩:=w _ rfl;exact ⟨aD,n - 1,aD,i+1,ver+1,_,_,aD,aD,by simp[m],p,q,by simp[eh,j5],rfl⟩
  .have r:af b i 0=0:=by simp[af,show ae b<=i by omega]
   refine Y2 x l ?_;refine ⟨aD,aH (P9 _ 0 _ k aR s) rfl rfl ?_⟩;refine Y ?_;rw[qh (by simp[m])];refine Y1 t ?_;have ⟨p,q⟩:=w 0 r.symm;exact ⟨aD,n - 1,aD,i+1,ver+1,_,_,aD,aD,by simp[m],p,q,by simp[eh,j5],rfl⟩
 .refine Y1 x ?_;have j:i=ae a:=aD;rw[h,j,aiZ,mG,aiu];exact Gq (by simp[m,j]) (tL _)
section
variable {P:Program} {N:Nat} {e:Env} {H H' H2:aF} {K:AV->aF->Prop}
def RP (C:WkS (ae H) H H2 R) (l:ae args2=ae args) (B:∀(j:Nat) a b,args[j]?=ak a->args2[j]?=ak b->R a b) (h:bR P f args2 H2 r H'):bR P f args H r H':=by
 have ⟨q,t⟩:=h;refine ⟨q,fun I β w m s k=>?_⟩;have ⟨g,n,F,X,D⟩:=C I β w s;have x:=D I β H w (ahZ _) s.jr (.refl _ _ _ _);have y:cG g n args2 m:=by refine ⟨l ▸ k.1,fun j b v z p=>?_⟩;have W:j < ae args:=l ▸ (aid.1 z).1;have i:=ah6 W;exact X _ _ _ (B j _ _ i z) (k.2 j _ v i p)
 refine (t g n w m F y).mono fun L M A=>?_;have ⟨rv,o,J,z,G,E,c⟩:=A;exact ⟨rv,o,J,z,x.trans G,E,c⟩
def AU (id ver:Nat) (z:aI H id ver=ak ob) (y:ob.xs.all (fun x=>x.all bT)=aq) (h:bg P f args2 r) (b:args.map (dD id ver ob.k ob.xs)=args2)
  (g:args2.all bJ=aq) (l:bJ r=aq) (i:K r (H.set id an)):nF P .any f args H K:=by refine dS ?_ i;refine RP (pf z y) (by rw[<-b];simp) (fun j a m c w=>?_) (h.call _ g l);rw[<-b,ajp,c] at w;exact (alw w).symm
def td {id ver k n:Nat} {xs:List (List AV)} (h:n=ae xs):dD id ver k xs (.sl k id ver 0 n) = .seq k ar xs:=by simp[dD,qB,fm,h]
end
def Ti (h:b≠0):cH [a,b]=[a,b]:=by simp[cH,h]
def ZX (n:Int) (l:-9223372036854775808<=n/\n < 9223372036854775808):bg prog 92 [.q0 n] (ju n):=by
 refine pw func92 ?_;have k:∀(s m a b:Int) H,¬(-4611686018427387904 < n/\n < 4611686018427387904)->s=n.sign->0<=m->ay m=ay n->a=m % 4294967296->b=m / 4294967296 ->
   Fin 0 (.agg [.q0 s,.seq 1 aq [[.c (.int .u32 a)],[.c (.int .u32 b)]]]) H (ju n) []:=fun s m a b H h j w i f g=>by refine oP (r := .agg [.q0 s,.seq 1 aq [[.c (.int .u32 a)],[.c (.int .u32 b)]]]) ?_ rfl;rw[vO h,<-i,<-IK w aD f g,Ti aD,j];exact .agg (.cons (.refl _) (.cons (.full _ _) .nil))
 by_cases x:-4611686018427387904 < n
 .by_cases z:n < 4611686018427387904
  .refine Y2 x z ?_;exact jw (oO ⟨x,z⟩).symm
  .have y:¬n < 0:=aD;refine Y3 x z y ?_;refine ⟨aR,k _ n _ _ _ aD (qL aD).symm aD rfl ?_ ?_⟩
   .rw[bN aD aD,eI]
   .rw[bN aD aD,eI];omega
 .have y:n < 0:=aD;refine Y2 x y ?_;have e:au .u64 (0 - au .u64 n) = -n:=by rw[oL,oL];omega
  refine ⟨aR,k _ (-n) _ _ _ aD (sign_neg y).symm aD aD ?_ ?_⟩
  .rw[e,eI]
  .rw[e,eI];omega
def Bj {n v:Int} {d:AV} (z:RL n v d):∃b:Bool,(∀K,Bq ar d K=K (.v0 b))/\(b=aq->d = .nil/\v=n):=by
 rcases z.cases with ⟨rfl,rfl⟩ | ⟨rfl,rfl,h⟩
 .exact ⟨aq,fun K=>MX,fun _=>⟨rfl,rfl⟩⟩
 .refine ⟨ar,fun K=>?_,aO⟩;rw[HR];have:aX (ay n)≠[]:=fun k=>by rw[ky] at k;omega
  simp[this]
def nY (n:Int):n.sign*(ay n:Int)=n:=Int.sign_mul_natAbs n
def jE (n:Int):n.sign=1\/n.sign = -1\/n.sign=0:=by rcases als n with h | h | h<;>omega
def SS (a b:List Int) (y:DOk a) (z:DOk b):val (if ae a < ae b then gT b a 0 else gT a b 0)=val a+val b/\DOk (if ae a < ae b then gT b a 0 else gT a b 0):=by
 split
 .rename_i h;have ⟨k,x⟩:=ET z y (c:=0) aR aD;exact ⟨by rw[k];omega,x⟩
 .rename_i h;have ⟨k,x⟩:=ET y z (c:=0) aR aD;exact ⟨by rw[k];omega,x⟩
def Vl (a b:List Int) (h:ae a < 4294967294) (k:ae b < 4294967294):ae (if ae a < ae b then gT b a 0 else gT a b 0) < 4294967296:=by split<;>rw[Uc]<;>omega
def Em (h:m<=n):ae (aX m)<=ae (aX n) :=
 jq.2 (alc h (jq.1 (ahZ _)))
def Jt (h:m<=n):val (mG (aX n) (aX m) 0)=n - m/\DOk (mG (aX n) (aX m) 0):=by have ⟨k,y⟩:=fS n;have ⟨x,z⟩:=fS m;have ⟨w,a⟩:=LQ y z (c:=0) aR (Em h) (by rw[k,x];omega);exact ⟨by rw[w,k,x];omega,a⟩
def OY {n:Int} (h:0<=n.sign):0<=n:=by
 by_cases k:n < 0
 .rw[sign_neg k] at h;omega
 .omega
def opposite (k:¬n.sign=0) (x:¬m.sign=0) (y:¬n.sign=m.sign):n.sign*((ay n:Int) - ay m)=n+m/\m.sign*((ay m:Int) - ay n)=n+m:=by
 have e:m.sign = -n.sign:=by rcases jE n with h | h | h<;>rcases jE m with g | g | g<;>omega
 have a:=nY n;have b:=nY m;rw[aks,aks,a,b];rw[e,am3] at b;rw[e,am3];omega
def abl (n m:Int) (I:ae (aX (ay n)) < 4294967294) (hm:ae (aX (ay m)) < 4294967294):bg prog 140 [ju n,ju m] (ju (n+m)):=by
 refine pw func140 ?_;obtain ⟨v,d,z⟩:=iK n;obtain ⟨w,g,y⟩:=iK m;obtain ⟨s,l,X⟩:=Bj z;obtain ⟨t,o,W⟩:=Bj y;by_cases F:s=aq/\t=aq
 .obtain ⟨rfl,rfl⟩:=F;have J:=z.lo;have L:=z.hi;have M:=y.lo;have N:=y.hi;have e:au .i64 (v+w)=v+w:=wrap_i64 aD aD;refine Y7 z.eq y.eq z.fr y.fr l o e ?_;refine aH (ZX (v+w) aD) rfl (fH _) ?_;rw[(X rfl).2,(W rfl).2];obtain ⟨C,q,k⟩:=iK (n+m);refine Y2 k.eq k.ic ?_;rw[<-k.eq];exact jw rfl
 .have K:s=ar\/(s=aq/\t=ar):=by cases s<;>cases t<;>simp_all
  rcases K with rfl | ⟨rfl,rfl⟩
  all_goals simp only[z.eq,y.eq,z.fr,y.fr,l,o,go_sem,↓reduceIte,ahZ]
  all_goals refine aH (z.eq ▸ Ao n) (by rw[<-z.eq];simp[fH]) rfl ?_
  all_goals simp only[go_sem,↓reduceIte,ahZ]
  all_goals refine aH (y.eq ▸ Ao m) (by rw[<-y.eq];simp[fH]) rfl ?_
  all_goals simp only[z.ic,y.ic,go_sem,↓reduceIte,ahZ]
  all_goals have A:ae (aX (ay n)) < 4294967295:=aD
  all_goals have B:ae (aX (ay m)) < 4294967295:=aD
  all_goals obtain ⟨D,a⟩:=fS (ay n)
  all_goals obtain ⟨E,b⟩:=fS (ay m)
  all_goals (
   refine ⟨fun x=>?_,fun x=>⟨fun j=>?_,fun j=>⟨fun p=>?_,fun p=>?_⟩⟩⟩
   .rw[<-y.eq];exact jw (by congr 1;have:n=0:=ai8.1 x;omega)
   .rw[<-z.eq];exact jw (by congr 1;have:m=0:=ai8.1 j;omega)
   .refine aH (aab (aX (ay n)) (aX (ay m)) A B a b ar ar) rfl rfl ?_
    obtain ⟨c,f⟩:=SS _ _ a b
    have i:=Vl _ _ I hm
    generalize (if ae (aX (ay n)) < ae (aX (ay m)) then gT (aX (ay m)) (aX (ay n)) 0 else gT (aX (ay n)) (aX (ay m)) 0)=r at *
    refine Y ?_
    refine aH (F9 n.sign r (jE n) i f ar (fun h=>absurd h x)) rfl (fH _) ?_
    have G:n.sign*val r=n+m:=by rw[c,D,E,aiR,nY];rw[p,nY]
    rw[G]
    obtain ⟨C,q,k⟩:=iK (n+m)
    refine Y2 k.eq k.ic ?_
    rw[<-k.eq];exact jw rfl
   .refine aH (LX (aX (ay n)) (aX (ay m)) aD aD a b (lT _) (lT _) ar ar) rfl rfl ?_
    rw[D,E]
    refine Y ?_
    refine ⟨fun H=>?_,fun H=>?_⟩
    .refine aH (Qa (aX (ay n)) (aX (ay m)) A B a b ar ar) rfl rfl ?_
     obtain ⟨c,f⟩:=Jt (m:=ay m) (n:=ay n) (by have:=OY H;omega)
     have i:ae (mG (aX (ay n)) (aX (ay m)) 0) < 4294967296:=by rw[N4];omega
     generalize mG (aX (ay n)) (aX (ay m)) 0=r at *
     refine Y ?_
     refine aH (F9 n.sign r (jE n) i f ar (fun h=>absurd h x)) rfl (fH _) ?_
     rw[c,(opposite x j p).1]
     obtain ⟨C,q,k⟩:=iK (n+m)
     refine Y2 k.eq k.ic ?_
     rw[<-k.eq];exact jw rfl
    .refine aH (Qa (aX (ay m)) (aX (ay n)) B A b a ar ar) rfl rfl ?_
     obtain ⟨c,f⟩:=Jt (m:=ay n) (n:=ay m) (by
      by_cases h:(ay n:Int) - ay m < 0
      .omega
      .exfalso;apply H;rcases Int.lt_or_eq_of_le (ali.1 h) with h | h
       .rw[qL h];decide
       .rw[<-h];decide)
     have i:ae (mG (aX (ay m)) (aX (ay n)) 0) < 4294967296:=by rw[N4];omega
     generalize mG (aX (ay m)) (aX (ay n)) 0=r at *
     refine Y ?_
     refine aH (F9 m.sign r (jE m) i f ar (fun h=>absurd h j)) rfl (fH _) ?_
     rw[c,(opposite x j p).2]
     obtain ⟨C,q,k⟩:=iK (n+m)
     refine Y2 k.eq k.ic ?_
     rw[<-k.eq];exact jw rfl)
def XS (x y:Int) (s:0<=x/\x < 18446744073709551616) (v:0<=y/\y < 18446744073709551616):bg prog 172 [.c (.int .u64 x),.c (.int .u64 y)] (.bM [.c (.int .u64 (x*y / 18446744073709551616)),.c (.int .u64 (x*y % 18446744073709551616))]):=by
 refine pw func172 ?_;have X:=oV (a:=x % 4294967296) (b:=y % 4294967296) aD aD;have A:=oV (a:=x / 4294967296) (b:=y % 4294967296) aD aD;have W:=oV (a:=x % 4294967296) (b:=y / 4294967296) aD aD;have B:=oV (a:=x / 4294967296) (b:=y / 4294967296) aD aD;have t:x*y=(x / 4294967296)*(y / 4294967296)*18446744073709551616+((x / 4294967296)*(y % 4294967296)+(x % 4294967296)*(y / 4294967296))*4294967296+(x % 4294967296)*(y % 4294967296):=by have e:x=x / 4294967296*4294967296+x % 4294967296:=aD;have f:y=y / 4294967296*4294967296+y % 4294967296:=aD;generalize x / 4294967296=a at *;generalize x % 4294967296=b at *;generalize y / 4294967296=c at *;generalize y % 4294967296=d at *;subst e f;rw[ajB,aiR,aiR,aiI a 4294967296 (c*4294967296),<-aiI 4294967296 c,ai2 4294967296 c,aiI c,<-aiI a c,aiI a 4294967296 d,ai2 4294967296 d,<-aiI a d,<-aiI b c];omega
 generalize o:(x / 4294967296)*(y / 4294967296)=w at *;generalize p:(x / 4294967296)*(y % 4294967296)=k at *;generalize q:(x % 4294967296)*(y / 4294967296)=z at *;generalize r:(x % 4294967296)*(y % 4294967296)=h at *;have m1:=Ia s;have H:=Ia v;have g:au .u64 h=h:=bN aD aD;have e:au .u64 k=k:=bN aD aD;have f:au .u64 (k+h / 4294967296)=k+h / 4294967296:=bN aD aD;have i:au .u64 z=z:=bN aD aD;have K:=Ia (x:=k+h / 4294967296) aD;have j:au .u64 ((k+h / 4294967296) % 4294967296+z)=(k+h / 4294967296) % 4294967296+z:=bN aD aD;have l:au .u64 w=w:=bN aD aD;have m:au .u64 (w+(k+h / 4294967296) / 4294967296)=w+(k+h / 4294967296) / 4294967296:=bN aD aD;have n:au .u64 (w+(k+h / 4294967296) / 4294967296+((k+h / 4294967296) % 4294967296+z) / 4294967296)=x*y / 18446744073709551616:=by have:x*y / 18446744073709551616=w+(k+h / 4294967296) / 4294967296+((k+h / 4294967296) % 4294967296+z) / 4294967296:=aD;rw[this,oL];apply akL<;>omega
 simp only[go_sem,↓reduceIte,m1,H,o,p,q,r,g,e,f,K,i,j,l,m,n];exact ⟨aR,aR,aR,aR,aR,aW (by rw[oL]) rfl⟩
def LB (n m:Int):n.sign*m.sign*((ay n:Int)*ay m)=n*m:=by rw[show n.sign*m.sign*((ay n:Int)*ay m)=(n.sign*ay n)*(m.sign*ay m) by rw[aiI,aiI,akA m.sign],nY,nY]
def rI (n m:Int):n.sign*m.sign=1\/n.sign*m.sign = -1\/n.sign*m.sign=0:=by rcases jE n with h | h | h<;>rcases jE m with g | g | g<;>rw[h,g]<;>decide
def Vh {X Y o:List Int} {i k:Nat} {c t:Int} (z:k < ae Y) (x:i+k < ae o) (w:t=c+(af X i 0*af Y k 0+af o (i+k) 0))
  (h:val o+B32 ^ (i+k)*c=val (X.take i)*val Y+B32 ^ i*(af X i 0*val (Y.take k))) :
  val (o.set (i+k) (t % 4294967296))+B32 ^ (i+(k+1))*(t / 4294967296)=val (X.take i)*val Y+B32 ^ i*(af X i 0*val (Y.take (k+1))):=by
 rw[KK x,fv z,<-ajf,aj1,aiR (af X i 0),aiR (B32 ^ i)];have y:B32 ^ i*(af X i 0*(B32 ^ k*af Y k 0))=B32 ^ (i+k)*(af X i 0*af Y k 0):=by rw[amA,akA (af X i 0),aiI]
 rw[y,<-alR,<-h,aiI];generalize B32 ^ (i+k)=p;generalize af X i 0*af Y k 0=q at *;generalize af o (i+k) 0=r at *;rw[alR,alR,<-aiR,<-aiR];congr 2;simp only[B32];omega
def Xy {X Y o:List Int} {i:Nat} {c:Int} (k:i < ae X) (x:i+ae Y < ae o) (y:af o (i+ae Y) 0=0)
  (h:val o+B32 ^ (i+ae Y)*c=val (X.take i)*val Y+B32 ^ i*(af X i 0*val (Y.take (ae Y)))) :
  val (o.set (i+ae Y) c)=val (X.take (i+1))*val Y:=by rw[KK x,y,aml,h,fv k,aiK,ajB,aiI]
def abn (n m:Int) (hn:ae (aX (ay n)) < 2147483648) (hm:ae (aX (ay m)) < 2147483648):bg prog 141 [ju n,ju m] (ju (n*m)):=by
 refine pw func141 ?_;have ⟨v,d,z⟩:=iK n;have ⟨w,g,y⟩:=iK m;have ⟨s,p,C⟩:=Bj z;have ⟨t,r,E⟩:=Bj y;have M:(s=aq/\t=aq)\/s=ar\/(s=aq/\t=ar):=by cases s<;>cases t<;>simp_all
 rcases M with ⟨rfl,rfl⟩ | rfl | ⟨rfl,rfl⟩
 case' inr.inl=>simp only[z.eq,y.eq,z.fr,y.fr,p,go_sem,↓reduceIte,ahZ]
 case' inr.inr=>simp only[z.eq,y.eq,z.fr,y.fr,p,r,go_sem,↓reduceIte,ahZ]
 case' inl =>
  have b1:=z.lo;have b2:=z.hi;have b3:=y.lo;have b4:=y.hi;have e1:au .i64 (0 - v) = -v:=by rw[wrap_i64 aD aD];omega
  have e2:au .i64 (0 - w) = -w:=by rw[wrap_i64 aD aD];omega
  have e3:au .u64 (max v (-v))=ay v:=by rw[bN aD aD];omega
  have e4:au .u64 (max w (-w))=ay w:=by rw[bN aD aD];omega
  simp only[z.eq,y.eq,z.fr,y.fr,p,r,go_sem,↓reduceIte,e1,e2,e3,e4];refine cX (XS (ay v) (ay w) aD aD) ?_;by_cases D:(ay v:Int)*ay w < 4611686018427387904
  .have hp:0<=(ay v:Int)*ay w:=ajw aD aD;have h1:(ay v:Int)*ay w / 18446744073709551616=0:=aD;have I:(ay v:Int)*ay w % 18446744073709551616=(ay v:Int)*ay w:=aD;refine Y3 h1 I D ?_;refine aH (z.eq ▸ Oj n) (by rw[<-z.eq];simp[fH]) rfl ?_;refine Y ?_;refine aH (y.eq ▸ Oj m) (by rw[<-y.eq];simp[fH]) rfl ?_;have hv:=(C rfl).2;have hw:=(E rfl).2;subst hv hw;have B:=LB v w;generalize hQ:(ay v:Int)*ay w=q at *;have G:au .i64 (v.sign*w.sign)=v.sign*w.sign:=by rcases rI v w with h | h | h<;>rw[h]<;>rfl
   have f2:au .i64 q=q:=wrap_i64 aD aD;have f3:-4611686018427387904 < v*w/\v*w < 4611686018427387904:=by rw[<-B];rcases rI v w with h | h | h<;>rw[h]<;>omega
   have f4:au .i64 (v*w)=v*w:=wrap_i64 aD aD;refine Y4 G f2 B f4 ?_;exact jw (oO f3).symm
  by_cases K:(ay v:Int)*ay w / 18446744073709551616=0
  case' pos =>
   have hp:0<=(ay v:Int)*ay w:=ajw aD aD;have I:(ay v:Int)*ay w % 18446744073709551616=(ay v:Int)*ay w:=aD;refine Y3 K I D ?_
  case' neg=>simp only[go_sem,↓reduceIte,ahZ,K]
 all_goals refine aH (z.eq ▸ Ao n) (by rw[<-z.eq];simp[fH]) rfl ?_
 all_goals simp only[go_sem,↓reduceIte,ahZ]
 all_goals refine aH (y.eq ▸ Ao m) (by rw[<-y.eq];simp[fH]) rfl ?_
 all_goals have F:au .i64 ((ae (aX (ay n)):Int)+ae (aX (ay m)))=((ae (aX (ay n))+ae (aX (ay m)):Nat):Int):=by rw[wrap_i64 aD aD];rfl
 all_goals simp only[go_sem,↓reduceIte,F]
 all_goals clear p C r E
 all_goals (
  have ⟨R,A2⟩:=fS (ay n)
  have ⟨S,B2⟩:=fS (ay m)
  clear z y F
  generalize aX (ay n)=X at *
  generalize aX (ay m)=Y at *
  refine ⟨aD,?_⟩
  refine aZ (fun N e H=>∃(i:Nat) (o:List Int),i<=ae X/\N=ae X - i/\ae o=ae X+ae Y/\DOk o/\val o=val (X.take i)*val Y/\(∀j,i+ae Y<=j->af o j 0=0)/\H=[ak ⟨2,0,[[.q0 0,.nil]]⟩,ak ⟨1,0,o.map j5⟩] /\
   e=[(4,.ptr 0 0 0 0),(7,.q0 n.sign),(9,.q0 m.sign),(10,eY Y),(11,.sl 1 1 0 0 (ae X+ae Y)),(74,eY X),(75,.q0 (ae X)),(76,.q0 i)])
   ⟨0,aA (ae X+ae Y) 0,aD,rfl,aO,fun q B=>by rw[ai1 B];decide,by rw[Tt];simp[val],fun j _=>by simp[af,aji];split<;>rfl,rfl,by simp only[go_sem,↓reduceIte];rfl⟩ ?_
  rintro N _ _ ⟨i,o,hi,a0,jz,a,x,f,rfl,rfl⟩
  by_cases A:(i:Int) < ae X
  .refine Y1 A ?_
   refine ⟨aD,?_⟩
   refine aZ (fun O e H=>∃(k:Nat) (c:Int) (o:List Int),k<=ae Y/\O=ae Y - k/\ae o=ae X+ae Y/\DOk o/\(0<=c/\c < B32)/\val o+B32 ^ (i+k)*c=val (X.take i)*val Y+B32 ^ i*(af X i 0*val (Y.take k))/\(∀j,i+ae Y<=j->af o j 0=0)/\H=[ak ⟨2,0,[[.q0 0,.nil]]⟩,ak ⟨1,0,o.map j5⟩] /\
    e=[(4,.ptr 0 0 0 0),(7,.q0 n.sign),(9,.q0 m.sign),(10,eY Y),(11,.sl 1 1 0 0 (ae X+ae Y)),(12,.q0 i),(13,.c (.int .u32 (af X i 0))),(14,.c (.int .u64 c)),(74,eY X),(75,.q0 (ae X)),(76,.q0 i),(81,eY Y),(82,.q0 (ae Y)),(83,.q0 k)])
    ⟨0,0,o,aD,rfl,jz,a,aR,by rw[x];simp[val],f,rfl,by simp only[go_sem,↓reduceIte];rfl⟩ ?_
   rintro O _ _ ⟨k,c,o,hk,a1,jz,a,hc,x,f,rfl,rfl⟩
   have U:=A2.getD i
   have V:=B2.getD k
   have hO:=a.getD (i+k)
   simp only[B32] at U V hO hc
   have w1:au .i64 ((i:Int)+k)=((i+k:Nat):Int):=by rw[wrap_i64 aD aD];rfl
   have w2:au .i64 ((k:Int)+1)=((k+1:Nat):Int):=by rw[wrap_i64 aD aD];rfl
   have w3:au .i64 ((i:Int)+1)=((i+1:Nat):Int):=by rw[wrap_i64 aD aD];rfl
   have w4:au .i64 ((i:Int)+ae Y)=((i+ae Y:Nat):Int):=by rw[wrap_i64 aD aD];rfl
   have v1:au .u64 (af X i 0)=af X i 0:=bN aD aD
   have v2:au .u64 (af Y k 0)=af Y k 0:=bN aD aD
   have v3:au .u64 (af o (i+k) 0)=af o (i+k) 0:=bN aD aD
   have pq:=oV U V
   by_cases W:(k:Int) < ae Y
   .generalize T:af X i 0*af Y k 0=l at *
    have v4:au .u64 l=l:=bN aD aD
    have v5:au .u64 (l+af o (i+k) 0)=l+af o (i+k) 0:=bN aD aD
    have v6:au .u64 (c+(l+af o (i+k) 0))=c+(l+af o (i+k) 0):=bN aD aD
    have b:(ah:Int)=0:=rfl
    simp only[go_sem,↓reduceIte,ahZ,aia,b,W,w1,w2,v1,v2,v3,T,v4,v5,v6,eI]
    have B:0<=c+(l+af o (i+k) 0)/\c+(l+af o (i+k) 0) < 18446744073709551616:=aD
    refine ⟨aD,aD,aD,aD,aD,aR,O - 1,aD,k+1,(c+(l+af o (i+k) 0)) / 4294967296,o.set (i+k) ((c+(l+af o (i+k) 0)) % 4294967296),aD,aD,by simpa using jz,a.set _ (by simp only[B32];omega),by simp only[B32];omega,Vh aD aD (by rw[T]) x,fun j hj=>?_,rfl,rfl⟩
    rw[Dr aD];exact f j hj
   .have L:k=ae Y:=aD
    subst L
    have v7:au .u32 c=c:=wrap_u32 aD aD
    have b:(ah:Int)=0:=rfl
    refine Z5 b W w1 w3 v7 ?_
    refine ⟨aD,aD,N - 1,aD,i+1,o.set (i+ae Y) c,aD,aD,by simpa using jz,a.set _ hc,Xy aD aD (f _ (ahZ _)) x,fun j hj=>?_,rfl,rfl⟩
    rw[Dr aD];exact f j aD
  .have J:i=ae X:=aD
   subst J
   have G:au .i64 (n.sign*m.sign)=n.sign*m.sign:=by rcases rI n m with h | h | h<;>rw[h]<;>rfl
   refine Y2 A G ?_
   rw[aiK] at x
   have hz:n.sign*m.sign=0->val o=0:=fun h=>by
    rcases Int.mul_eq_zero.1 h with h | h
    .have:n=0:=ai8.1 h;rw[x,R,this];simp
    .have:m=0:=ai8.1 h;rw[x,S,this];simp
   refine AU 1 0 (ob:=⟨1,0,o.map j5⟩) (by simp[aI]) (tL o) (F9 (n.sign*m.sign) o (rI n m) aD a ar hz) (by rw[aiS,aiS,ajE,td (by rw[ah3,jz])];rfl) rfl (fH _) ?_
   rw[x,R,S,LB]
   have ⟨v',d',P⟩:=iK (n*m)
   refine Y2 P.eq P.ic ?_
   rw[<-P.eq];exact jw rfl)
def Ij (t:IntKind) (m n:Int):xD t m n=xD t n m:=by unfold xD;rw[BitVec.or_comm]
def XQ (h l y:Int) (p:0<=h/\h < y) (q:0<=l/\l < 4294967296) (r:y < 4294967296) :
  bg prog 166 [.c (.int .u32 h),.c (.int .u32 l),.c (.int .u32 y)] (.bM [.c (.int .u32 ((h*4294967296+l) / y)),.c (.int .u32 ((h*4294967296+l) % y))]):=by
 refine pw func166 ?_;have z:¬y=0:=aD;have a:¬y<=h:=aD;have i:au .u64 h=h:=bN aD aD;have j:au .u64 l=l:=bN aD aD;have m:au .u64 y=y:=bN aD aD;have n:au .u64 (h*4294967296)=h*4294967296:=bN aD aD;have o:xD .u64 (h*4294967296) l=h*4294967296+l:=by rw[Ij,show h*4294967296=h*2 ^ 32 from rfl,v9 (k:=32) aD aD aD];omega
 have b:(h*4294967296+l) / y < 4294967296:=by refine ajX aD ?_;have:(h+1)*4294967296<=y*4294967296:=aik aD aR;omega
 have x:0<=(h*4294967296+l) / y:=ajY aD aD;have w:0<=(h*4294967296+l) % y:=ajZ _ aD;have e:(h*4294967296+l) % y < y:=ajA _ aD;have f:(h*4294967296+l).tdiv y=(h*4294967296+l) / y:=ai6 aD;have g:(h*4294967296+l).tmod y=(h*4294967296+l) % y:=ajn aD;refine Z7 z a i j m n o ?_;exact ⟨aR,z,z,aW (by rw[f,g,bN x aD,wrap_u32 x b,wrap_u32 w aD]) rfl⟩
def fT:List Int->Int->List Int × Int
 | [],_=>([],0)
 | d::r,y=>(((fT r y).2*B32+d) / y::(fT r y).1,((fT r y).2*B32+d) % y)
def Uv (x:List Int) (y:Int):(fT x y).1.length=ae x:=by
 induction x with
 | nil=>rfl
 | cons d r h=>simp[fT,h]
def E9 {y:Int} (k:0 < y):∀{x:List Int},DOk x->val x=val (fT x y).1*y+(fT x y).2/\DOk (fT x y).1/\0<=(fT x y).2/\(fT x y).2 < y
 | [],_=>⟨by simp[fT,val],.nil,by simp[fT],by simpa[fT] using k⟩
 | d::r,h=>by
  have ⟨a,b,c,f⟩:=E9 k h.tail;have g:=h.head;simp only[fT,val];generalize (fT r y).2=s at *;generalize (fT r y).1=q at *;have e:=ajL (s*B32+d) y;have w:0<=s*B32+d:=by simp only[B32] at *;omega
  have z:s*B32+d < B32*y:=by have:(s+1)*B32<=y*B32:=aik aD aR;rw[ajB,aj2,ai2 y] at this;omega
  refine ⟨?_,.cons ⟨ajY w aD,ajX k z⟩ b,ajZ _ aD,ajA _ k⟩;rw[a,ajB,aiI B32,aiR];generalize val q*y=p;rw[ai2 y] at e;rw[ai2 s B32] at *;omega
def RZ {x:List Int} {y:Int} {i:Nat} (h:i < ae x):fT (x.drop i) y=(((fT (x.drop (i+1)) y).2*B32+af x i 0) / y::(fT (x.drop (i+1)) y).1,((fT (x.drop (i+1)) y).2*B32+af x i 0) % y):=by rw[ail h,fT,show af x i 0=x[i] by simp[af,h]]
def pD {id ver:Nat} {r w:AV} {H:aF} {ob:bz} (z:aI H id ver=ak ob) (y:ob.xs.all (fun x=>x.all bT)=aq) (h:Fin 0 (dD id ver ob.k ob.xs r) (H.set id an) w []):Fin 0 r H w [] :=
 (uy z y).trans h
def X4 (x:List Int) (y:Int) (X:ae x < 4294967296) (g:DOk x) (l:0 < y/\y < 4294967296) (f:Bool) :
  bg prog 136 [.seq 1 f (eh x),.c (.int .u32 y)] (.bM [eY (fT x y).1,.c (.int .u32 (fT x y).2)]):=by
 refine pw func136 ?_;refine Y ?_;refine ⟨aD,?_⟩;rw[wrap_i64 aD aD];refine aZ (fun m e H=>∃(j:Nat) (o:List Int),j<=ae x/\m=j/\ae o=ae x/\o.drop j=(fT (x.drop j) y).1/\H=[ak ⟨1,0,o.map j5⟩] /\
  e=[(0,.seq 1 f (eh x)),(1,.c (.int .u32 y)),(6,.sl 1 0 0 0 (ae x)),(7,.c (.int .u32 (fT (x.drop j) y).2)),(8,.q0 ((j:Int) - 1))])
  ⟨ae x,aA (ae x) 0,ahZ _,rfl,aO,by simp[fT],rfl,by simp only[go_sem,↓reduceIte,aiZ,fT]⟩ ?_;rintro m _ _ ⟨j,o,v,K,jz,w,rfl,rfl⟩;by_cases n:j=0
 .subst n;refine Y ?_;refine ⟨fun h=>aD,fun _=>?_⟩;have q:o=(fT x y).1:=bu w;refine pD (id:=0) (ver:=0) (ob:=⟨1,0,o.map j5⟩) (by simp[aI]) (tL o) ?_;have e:dD 0 0 1 (o.map j5) (.bM [.sl 1 0 0 0 (ae x),.c (.int .u32 (fT x y).2)]) = .bM [eY o,.c (.int .u32 (fT x y).2)]:=by simp only[dD,qB,fm,aiS,ajE,ajx];rw[<-jz,<-ah3 (f:=j5),aiK];simp
  show Fin 0 (dD 0 0 1 (o.map j5) _) _ _ _;rw[e];exact aW (by rw[q]) rfl
 .have b:az ((j:Int) - 1)=j - 1:=aD;have a:(0:Int)<=(j:Int) - 1:=aD;have r:au .i64 ((j:Int) - 1 - 1)=((j - 1:Nat):Int) - 1:=by rw[wrap_i64 aD aD];omega
  have ⟨_,_,s,t⟩:=E9 l.1 (g.drop j);have p:=g.getD (j - 1);have k:(ah:Int)=0:=rfl;have z:=RZ (x:=x) (y:=y) (i:=j - 1) aD;rw[show j - 1+1=j by omega] at z;refine Y3 b a k ?_;refine ⟨aD,aH (XQ _ _ y ⟨s,t⟩ p l.2) rfl rfl ?_⟩;refine Z4 b a r k ?_;refine ⟨aD,aD,j - 1,aD,j - 1,o.set (j - 1) (((fT (x.drop j) y).2*4294967296+af x (j - 1) 0) / y),aD,rfl,bu jz,?_,rfl,by rw[z]⟩;rw[z,ail (by rw[ah8];omega:j - 1 < ae (o.set (j - 1) (((fT (x.drop j) y).2*4294967296+af x (j - 1) 0) / y))),akW,akc (by omega),show j - 1+1=j by omega,w]
section
variable {P:Program} {I:Imm} {β β1:Bet} {w:World}
section out
variable {ρ:Nat->Nat} (hβ:∀id ver B,β1 id ver=some B->β (ρ id) ver=some B)
include hβ
end out
section inn
variable {ρ:Nat->Nat} {n:Nat} (hβ:∀id ver B,id < n->β (ρ id) ver=some B->β1 id ver=some B)
include hβ
end inn
def bR.fin {f:FuncId} {args:List AV} {H y z:aF} {r a:AV} (h:bR P f args H r y) (g:Fin (ae H) r y a z):bR P f args H a z:=by have ⟨i,j⟩:=h;have ⟨R,x,l⟩:=g;refine ⟨i,fun I β w v s k=>(j I β w v s k).mono fun D K m=>?_⟩;have ⟨rv,b,A,e,X,q,o⟩:=m;have ⟨c,C,t,p,W⟩:=x b A K q;exact ⟨rv,c,C,e,W I β H w (ahZ _) s.jr X,t,p _ _ _ l o⟩
end
end Go.Fx
