/- A state of the product is allowed or initial exactly when its two parts are; ProductStates returns true whatever its arguments are: part 4 of 10. No condition. -/
import Derived.Test.YtkpkkhepecgeiaaGreatBc
import Derived.KernelRfl
import Derived.Test.YtkpkkhepecgeiaaGreatProg
set_option linter.all false
set_option maxRecDepth 8000
set_option maxHeartbeats 9000000
set_option autoImplicit true
set_option relaxedAutoImplicit true
namespace Go.Fx
open Go.Proofs.Tryz
open List renaming length->ae,getD->af,replicate->aA,eraseIdx->aB,range->aC
open Inhabited renaming default->ah
open Option renaming some->ak,none->an
open Bool renaming true->aq,false->ar
open Go.IntKind renaming wrap->au
open Int renaming natAbs->ay,toNat->az
abbrev B32:Int:=4294967296
def val:List Int->Int
 | []=>0
 | d::r=>d+B32*val r
def DOk (l:List Int):Prop:=∀d,d∈l->0<=d/\d < B32
def DOk.nil:DOk []:=by intro d h;simp at h
def DOk.cons {d:Int} {l:List Int} (h:0<=d/\d < B32) (g:DOk l):DOk (d::l):=by
 intro x k;simp at k;rcases k with rfl | k
 .exact h
 .exact g x k
def DOk.head {d:Int} {l:List Int} (h:DOk (d::l)):0<=d/\d < B32:=h d aK
def DOk.tail {d:Int} {l:List Int} (h:DOk (d::l)):DOk l:=fun x k=>h x (by simp[k])
def DOk.getD (h:DOk l) (i:Nat):0<=af l i 0/\af l i 0 < B32:=by
 rcases Xe i (ae l) with k | k
 .have:af l i 0=l[i]:=by simp[af,k]
  rw[this];exact h _ (YN k)
 .grind
def DOk.take (h:DOk l) (n:Nat):DOk (l.take n):=fun x k=>h x (YW k)
def DOk.drop (h:DOk l) (n:Nat):DOk (l.drop n):=fun x k=>h x (Yv k)
def DOk.set {l:List Int} (h:DOk l) (n:Nat) {d:Int} (y:0<=d/\d < B32):DOk (l.set n d):=by
 intro x k;rcases Yq k with k | rfl
 .exact h x k
 .exact y
def cp:∀{l:List Int},DOk l->0<=val l
 | [],_=>by simp[val]
 | d::r,h=>by have:=cp h.tail;have:=h.head;simp only[val,B32];omega
def vH (l m:List Int):val (l++m)=val l+B32 ^ ae l*val m:=by
 induction l with
 | nil=>simp[val]
 | cons d r h =>
  simp only[XU,val,h,XG,YR,XN];rw[Yg (B32 ^ ae r) B32,Xw];omega
def iM:∀{l:List Int},DOk l->val l < B32 ^ ae l
 | [],_=>by simp[val]
 | d::r,h=>by have x:=iM h.tail;have k:=h.head;simp only[val,XG,YR];rw[Yg (B32 ^ ae r)];generalize B32 ^ ae r=p at *;simp only[B32] at *;omega
def dH {m:List Int} {i:Nat} (h:i < ae m):val (m.take (i+1))=val (m.take i)+B32 ^ i*af m i 0:=by rw[XW h,vH];simp[val,af,h,XV (aa5 h)]
def aO (n:Nat):List Int:=if h:n=0 then [] else ((n % 4294967296:Nat):Int)::aO (n / 4294967296)
termination_by n
decreasing_by omega
def kf:aO 0=[]:=by unfold aO;simp
def nH (h:n≠0):aO n=((n % 4294967296:Nat):Int)::aO (n / 4294967296):=by rw[aO];simp[h]
def ep (n:Nat):val (aO n)=n/\DOk (aO n):=by
 induction n using Nat.strongRecOn with
 | _ n y =>
  by_cases h:n=0
  .subst h;rw[kf];exact ⟨rfl,.nil⟩
  .rw[nH h];have ⟨k,x⟩:=y (n / 4294967296) aD;refine ⟨?_,.cons ⟨aD,by simp only[B32];omega⟩ x⟩;simp only[val,k,B32];omega
def fU:aO n=[]↔n=0:=by
 constructor
 .intro h;by_cases k:n=0
  .exact k
  .rw[nH k] at h;simp at h
 .rintro rfl;exact kf
def lr:∀{l:List Int},DOk l->dC l=aO (az (val l))
 | [],_=>by simp[dC,val,kf]
 | d::r,h=>by
  have z:=lr h.tail;have a:=cp h.tail;have y:=h.head;simp only[B32] at y;simp only[dC,z,fU];have hv:val (d::r)=d+4294967296*val r:=rfl;by_cases k:az (val r)=0/\d=0
  .rw[W0 k,hv];have ⟨x,w⟩:=k;rw[show az (d+4294967296*val r)=0 by omega,kf]
  .rw[WX k];have x:az (val (d::r))≠0:=by rw[hv];omega
   rw[nH x,hv];congr 1
   .omega
   .congr 1;omega
def iF (n:Nat):dC (aO n)=aO n:=by rw[lr (ep n).2,(ep n).1];rfl
def CW (l:List Int):ae (dC l)<=ae l:=by
 induction l with
 | nil=>simp[dC]
 | cons d r h=>simp only[dC];split<;>simp<;>omega
def fT:ae (aO n)<=k↔n < 4294967296 ^ k:=by
 induction k generalizing n with
 | zero=>simp[List.length_eq_zero_iff,fU]
 | succ k x =>
  by_cases h:n=0
  .subst h;simp[kf,abf]
  .rw[nH h,XG,Nat.add_le_add_iff_right,x,abS,abH aD]
def sU (h:i < ae l):val l=val (l.take i)+B32 ^ i*(af l i 0+B32*val (l.drop (i+1))):=by
 have e:l=l.take i++(af l i 0::l.drop (i+1)):=by rw[show af l i 0=l[i] by simp[af,h],<-XA h,aas]
 conv=>lhs;rw[e]
 rw[vH,XI,XV (aa5 h)];rfl
def gH (i:Nat):0 < B32 ^ i:=abg aS
def GR (b:DOk l) (hm:DOk m) (k:i < ae l) (w:i < ae m) (a:l.drop (i+1)=m.drop (i+1)) (h:af l i 0 < af m i 0):val l < val m:=by
 rw[sU k,sU w,a];have z:=iM (b.take i);have c:=cp (hm.take i);rw[XI,XV (aa5 k)] at z;have f:=gH i;generalize B32 ^ i=p at *;generalize val (m.drop (i+1))=r;generalize af l i 0=x at *;generalize af m i 0=y at *;have e:p*(x+B32*r)+p<=p*(y+B32*r):=by have:p*(x+B32*r+1)<=p*(y+B32*r):=Xs aD aD;rw[XN p _ 1,ZO] at this;exact this
 omega
def GS (z:DOk l) (hm:DOk m) (w:dC m=m) (h:ae l < ae m):val l < val m:=by
 have k:=iM z;have a:=cp hm;have x:¬ae (aO (az (val m)))<=ae l:=by rw[<-lr hm,w];omega
 rw[fT] at x;have y:(B32 ^ ae l:Int)=((4294967296 ^ ae l:Nat):Int):=by rw[Zf];rfl
 rw[y] at k;omega
def fN (n:Int):AV:=if -4611686018427387904 < n/\n < 4611686018427387904 then .agg [.c (.int .i64 n),.nil] else .agg [.c (.int .i64 n.sign),dx (aO (ay n))]
def jQ (h:-4611686018427387904 < n/\n < 4611686018427387904):fN n = .agg [.q0 n,.nil]:=W0 h
def oz (h:¬(-4611686018427387904 < n/\n < 4611686018427387904)):fN n = .agg [.q0 n.sign,dx (aO (ay n))]:=WX h
structure IF (n:Int) (v:Int) (d:AV):Prop where
 eq:fN n = .agg [.c (.int .i64 v),d]
 fr:cN d=true
 ic:bh d=true
 nd:eC d=true
 cs:d.cells=[d]
 lo:-4611686018427387904 < v
 hi:v < 4611686018427387904
 sg:v.sign=n.sign
 cases:(d = .nil/\v=n)\/(d=dx (aO n.natAbs)/\v=n.sign/\¬(-4611686018427387904 < n/\n < 4611686018427387904))
def eY (n:Int):∃v d,IF n v d:=by
 by_cases h:-4611686018427387904 < n/\n < 4611686018427387904
 .exact ⟨n,.nil,jQ h,rfl,rfl,rfl,rfl,h.1,h.2,rfl,.inl ⟨rfl,rfl⟩⟩
 .refine ⟨n.sign,dx (aO (ay n)),oz h,rfl,rfl,rfl,rfl,?_,?_,aK,.inr ⟨rfl,rfl,h⟩⟩<;>rcases aac n with h | h | h<;>rw[h]<;>decide
def dR (n:Int):bP (fN n)=aq:=by unfold fN;split<;>rfl
def KJ (n:Int):fP (fN n)=aq:=by unfold fN;split<;>rfl
def K9 (n:Int):jR 0 (fN n)=aq:=by unfold fN;split<;>rfl
def fW (h:a=fN n):Fin 0 a H (fN n) []:=aV h (by rw[h];exact K9 n)
def m9 (l:List Int):(cZ l).all (fun x=>x.all b8)=aq:=by simp[cZ,gD,b8]
def ft:List Int->List Int->Int->List Int
 | [],_,c=>[c]
 | a::r,s,c=>((a+s.headD 0+c) % B32)::ft r s.tail ((a+s.headD 0+c) / B32)
def Ks (a b:List Int) (c:Int):ae (ft a b c)=ae a+1:=by
 induction a generalizing b c with
 | nil=>rfl
 | cons x r h=>simp[ft,h]
def wE:∀{a b:List Int} {c:Int},DOk a->DOk b->0<=c/\c<=1->ae b<=ae a->val (ft a b c)=val a+val b+c/\DOk (ft a b c)
 | [],b,c,_,_,g,z=>by have:b=[]:=Xy (bk z);subst this;refine ⟨by simp[ft,val],.cons (by simp only[B32];omega) .nil⟩
 | x::r,b,c,w,e,g,z=>by
  have i:=w.head;have j:0<=b.headD 0/\b.headD 0 < B32:=by
   cases b with
   | nil=>decide
   | cons y s=>exact e.head
  have k:DOk b.tail:=by
   cases b with
   | nil=>exact .nil
   | cons y s=>exact e.tail
  have h:val b=b.headD 0+B32*val b.tail:=by cases b<;>simp[val]
  simp only[B32] at i j h;have f:=wE w.tail k (c:=(x+b.headD 0+c) / B32) (by simp only[B32];omega) (by cases b<;>simp at z ⊢;omega);simp only[ft,val,f.1];refine ⟨?_,.cons (by simp only[B32];omega) f.2⟩;rw[h];simp only[B32];omega
def iR:List Int->List Int->Int->List Int
 | [],_,_=>[]
 | a::r,s,c=>((a - s.headD 0 - c) % B32)::iR r s.tail (-((a - s.headD 0 - c) / B32))
def Fc (a b:List Int) (c:Int):ae (iR a b c)=ae a:=by
 induction a generalizing b c with
 | nil=>rfl
 | cons x r h=>simp[iR,h]
def CX:∀{a b:List Int} {c:Int},DOk a->DOk b->0<=c/\c<=1->ae b<=ae a->val b+c<=val a->val (iR a b c)=val a - val b - c/\DOk (iR a b c)
 | [],b,c,_,_,g,z,hv=>by have:b=[]:=Xy (bk z);subst this;refine ⟨by simp[iR,val] at *;omega,.nil⟩
 | x::r,b,c,w,e,g,z,hv=>by
  have i:=w.head;have j:0<=b.headD 0/\b.headD 0 < B32:=by
   cases b with
   | nil=>decide
   | cons y s=>exact e.head
  have k:DOk b.tail:=by
   cases b with
   | nil=>exact .nil
   | cons y s=>exact e.tail
  have h:val b=b.headD 0+B32*val b.tail:=by cases b<;>simp[val]
  simp only[B32] at i j h;simp only[val,B32] at hv;have f:=CX w.tail k (c := -((x - b.headD 0 - c) / B32)) (by simp only[B32];omega) (by cases b<;>simp at z ⊢;omega) (by simp only[B32];omega);simp only[iR,val,f.1];refine ⟨?_,.cons (by simp only[B32];omega) f.2⟩;rw[h];simp only[B32];omega
def uT {l:List Int} {i:Nat}:(l.drop i).headD 0=af l i 0:=by
 induction l generalizing i with
 | nil=>simp
 | cons d r h=>cases i<;>simp_all
def drop_tail {l:List Int} {i:Nat}:(l.drop i).tail=l.drop (i+1):=by simp[List.tail_drop]
def Cj {a b:List Int} {c:Int} {i:Nat} (h:i < ae a):ft (a.drop i) (b.drop i) c=((af a i 0+af b i 0+c) % B32)::ft (a.drop (i+1)) (b.drop (i+1)) ((af a i 0+af b i 0+c) / B32):=by rw[XA h,ft,uT,drop_tail,show af a i 0=a[i] by simp[af,h]]
def JV {a b:List Int} {c:Int} {i:Nat} (h:i < ae a):iR (a.drop i) (b.drop i) c=((af a i 0 - af b i 0 - c) % B32)::iR (a.drop (i+1)) (b.drop (i+1)) (-((af a i 0 - af b i 0 - c) / B32)):=by rw[XA h,iR,uT,drop_tail,show af a i 0=a[i] by simp[af,h]]
def Cf (h:i < ae l):val (l.set i y)=val l+B32 ^ i*(y - af l i 0):=by
 have w:i < ae (l.set i y):=bk h;rw[sU h,sU w];have k:(l.set i y).take i=l.take i:=by rw[Zd (WY _)]
 have x:(l.set i y).drop (i+1)=l.drop (i+1):=by rw[Zq (YD _)]
 have z:af (l.set i y) i 0=y:=by simp[af,h]
 rw[k,x,z,Zt,XN,XN];omega
def Eo {l:List Int} {i j:Nat} {y:Int} (h:i≠j):af (l.set i y) j 0=af l j 0:=by simp[af,XS h]
def J6 (n:Nat):val (aA n 0)=0:=by
 induction n with
 | zero=>rfl
 | succ n h=>rw[aba,val,h];rfl
abbrev B30:Int:=1073741824
def vl:List Int->Int
 | []=>0
 | d::r=>d+B30*vl r
def Ou (n:Nat):List Int:=if h:n=0 then [] else ((n % 1073741824:Nat):Int)::Ou (n / 1073741824)
termination_by n
decreasing_by omega
inductive Qd where
 | n (k:IntKind) | b | g | p | f | q | s (e:Nat) | a (n e:Nat) | o (l:List (Nat × Nat))
def qG:Nat->Qd
 | 4 => .b | 5 => .n .u8 | 9 => .g | 22 => .s 60 | 23 => .s 64 | 24 => .s 70 | 26 => .o [(0,3),(1,22),(2,23),(3,24)] | 27 => .s 3 | 33 => .s 40 | 40 => .a 2 3 | 41 => .s 117 | 43 => .o [(0,3),(1,41)] | 50 => .o [(0,26),(4,26),(8,27)] | 55 => .o [(0,23),(1,33)] | 56 => .s 80 | 58 => .o [(0,3),(1,56)] | 60 => .o [(0,58),(2,58)] | 62 => .s 75 | 64 => .o [(0,3),(1,3),(2,3),(3,58),(5,62)] | 70 => .o [(0,3),(1,58)] | 73 => .o [(0,27),(1,3)] | 75 => .o [(0,3),(1,73),(3,3)] | 80 => .o [(0,73),(2,4)] | 90 | 101 | 118 | 128 | 131 => .f | 94 => .s 126 | 98 => .s 124 | 102 => .s 58 | 108 => .o [(0,3),(1,3),(2,3),(3,3)] | 111 => .s 142 | 117 => .o [(0,3),(1,3)] | 120 => .s 184 | 122 => .o [(0,3),(1,120)] | 124 => .o [(0,122),(2,122)] | 126 => .o [(0,98),(1,124),(5,4)] | 135 => .s 137 | 137 => .o [(0,3),(1,4),(2,27)] | 139 => .o [(0,135),(1,137)] | 142 => .o [(0,139),(4,4)] | 144 => .o [(0,137),(3,137)] | 145 => .s 144 | 153 => .o [(0,3),(1,124),(5,98),(6,98),(7,98)] | 169 | 195 => .p | 171 => .o [(0,3),(1,144),(7,145)] | 173 => .s 171 | 175 => .o [(0,3),(1,27),(2,173),(3,171)] | 183 => .n .u64 | 184 => .n .u32 | 199 => .s 98 | 201 => .o [(0,3),(1,94),(2,27),(3,27),(4,199),(5,98)] | 241 => .q
 | _ => .n .i64
def pk:Nat->Nat->List AV
 | 0,_=>[]
 | d+1,t=>match qG t with
  | .n k=>[.c (.int k 0)]
  | .b=>[.c (.bool ar)]
  | .g=>[.c (.string ⟨#[]⟩)]
  | .p=>[.c (.pointer an)]
  | .f=>[.c .nilFunc]
  | .q=>[.c .nilIface]
  | .s _=>[.nil]
  | .a n e=>(aA n (pk d e)).flatten
  | .o l=>l.flatMap fun x=>pk d x.2
def ij (t:Nat):Nat:=ae (pk 9 t)
def yN (t:Nat):Bool:=match qG t with
 | .o _ | .a _ _=>aq
 | _=>ar
def lY (t:Nat):Nat:=match qG t with
 | .s e | .a _ e=>e
 | _=>0
def yO (t i:Nat):Nat × Nat:=match qG t with
 | .o l=>af l i (0,0)
 | .a _ e=>(i*ij e,e)
 | _=>(0,0)
def Qe:Value->AV
 | .slice an _ _ => .nil
 | .agg cs => .agg (cs.toList.map fun v=>match v with | .slice an _ _ => .nil | v => .c v)
 | v => .c v
def cL:Operand->Opd
 | .tmp t => .t t
 | .const v => .k (Qe v)
 | .func f => .k (.fn f [] [])
 | _ => .k .aY
def nY (a:Array Operand):List Opd:=a.toList.map cL
def MB:Op->List Operand
 | .move x | .assign x | .box _ x | .load _ x | .nilCheck x | .unOp _ _ x | .convert _ _ x | .fieldAddr _ x _ | .field _ x _ | .extract x _=>[x]
 | .store _ a b | .binOp _ _ a b _ | .makeSlice _ a b | .indexAddr _ a b | .index _ a b=>[a,b]
 | .pick a b c=>[a,b,c]
 | .build _ p | .buildSlice _ _ p=>p.toList.map (·.2)
 | .makeFunc _ a b=>a.toList++b.toList
 | .slice _ x a b c=>x::(a.toList++b.toList++c.toList)
 | .call ⟨.value f,a,_⟩=>f::a.toList
 | .call ⟨_,a,_⟩=>a.toList
 | _=>[]
def Fl (l:List Nat):Operand->Bool
 | .tmp t=>l.contains t
 | _=>ar
structure Hn where
 lv:List Nat:=[]
 fz:List Nat:=[]
 cm:List Nat:=[]
 wk:List Nat:=[]
 yi:List Nat:=[]
def J4:List Nat:=[22,126,127,128,129,132,155,179]
def NK:List Nat:=[158,159,163]
def Pb:Operand->Bool
 | .global _=>aq
 | _=>ar
def Pc (h:Hn) (fz:List Nat) (dr:Bool) (n:Nat):Op->AOp
 | .move x | .assign x => .mv (cL x)
 | .pick c a b => .pick (cL c) (cL a) (cL b)
 | .alloc e => .new (ij e) (pk 9 e)
 | .box _ x=>if h.lv.contains n then .nz (cL x) else .box (cL x)
 | .build t ps => .bd (pk 9 t) (ps.toList.map fun p=>((yO t p.1).1,ij (yO t p.1).2,cL p.2))
 | .buildSlice t _ ps=>if h.lv.contains n then .qe (ij (lY t)) (ps.toList.map (cL ·.2)) else .bs (ij (lY t)) (ps.toList.map (cL ·.2))
 | .load t a=>if Fl fz a then .xB (cL a) (yN t) (ij t) else .ld (cL a) (yN t) (ij t)
 | .store t a v => .st (cL a) (cL v) (ij t)
 | .nilCheck x => .nc (cL x)
 | .binOp o t x y _=>match qG t with
  | .n _ => .bin o (cL x) (cL y)
  | .b => .beq (o == .neq) (cL x) (cL y)
  | .s _ => .fj (o == .neq) (cL x)
  | _ => .Cr (o == .neq) ((pk 9 t).map fun z=>match z with | .c (.bool _)=>aq | _=>ar) (cL x) (cL y)
 | .unOp o _ x => .un o (cL x)
 | .convert _ t x=>match qG t with
  | .n k => .cv k (cL x)
  | _ => .bad
 | .makeFunc (.func f) a b => .mf f (nY a) (nY b)
 | .makeSlice t l c=>if h.fz.contains n then .A9 (ij (lY t)) (pk 9 (lY t)) (cL l) else .mk (ij (lY t)) (pk 9 (lY t)) (cL l) (cL c)
 | .slice t x l g m => .nj (cL x) (l.map cL) (g.map cL) (m.map cL) (ij (lY t))
 | .fieldAddr t x f => .fa (cL x) (yO t f).1
 | .field t x f => .fd (cL x) (yO t f).1 (yN (yO t f).2) (ij (yO t f).2)
 | .indexAddr t x i=>match qG t with
  | .a n e => .CF (cL x) (cL i) n (ij e)
  | _ => .vX (cL x) (cL i) (ij (lY t))
 | .index t x i=>match qG t with
  | .a n e => .ix (cL x) (cL i) n (ij e) (yN e)
  | _ => .bad
 | .extract x i => .ex (cL x) i
 | .call ⟨.value (.func f),a,_⟩=>if dr&&(J4.contains f || NK.contains f || h.cm.contains f) then .iW f (nY a) else .call f (nY a)
 | .call ⟨.value x,a,_⟩ => .jz (cL x) (nY a)
 | .call ⟨.builtin .len,a,_⟩ => .len ((nY a).headD OD)
 | .call ⟨.builtin .append,a,t⟩=>match nY a,qG (af t.toList 1 0) with
  | [x,y],.n _ => .mM x y (ij (lY (af t.toList 0 0))) (pk 9 (lY (af t.toList 0 0)))
  | [x,y],_ => .app x y (ij (lY (af t.toList 0 0)))
  | _,_ => .bad
 | .call ⟨.builtin .max,a,_⟩ => .mx (nY a)
 | .call ⟨.builtin .min,a,_⟩ => .mn (nY a)
 | .call ⟨.builtin .clear,a,t⟩ => .q9 ((nY a).headD OD) (pk 9 (lY (af t.toList 0 0)))
 | .call ⟨.builtin .copy,a,t⟩=>match nY a with
  | [x,y] => .tJ x y (ij (lY (af t.toList 0 0)))
  | _ => .bad
 | _ => .bad
def rS (x:Nat):List Nat->List Nat
 | []=>[x]
 | y::r=>if y < x then x::y::r else if y=x then y::r else y::rS x r
def J2 (x:Nat):List Nat->List Nat
 | []=>[]
 | y::r=>if x < y then y::J2 x r else if y=x then r else y::r
def x9 (a b:List Nat):List Nat:=a.foldr rS b
def Fk (x:Operand) (L:List Nat):List Nat:=match x with
 | .tmp t=>rS t L
 | _=>L
def Fo (gs:List Nat):List Oper->List Nat->List Nat
 | [],L=>L
 | o::r,L=>(MB o.op).foldr Fk ((match o.guard with
  | some g=>rS (af gs g.1 0)
  | none=>id) (match o.dst with
  | some d=>J2 d (Fo gs r L)
  | none=>Fo gs r L))
def J3 (l:List Oper):List Nat:=l.map fun o=>o.dst.getD 0
def BA (h:Hn):List Oper->List Nat->List Nat
 | [],D=>D
 | o::r,D=>BA h r (match o.op with
  | .box _ _=>if h.lv.contains (o.dst.getD 0) then D else o.dst.getD 0::D
  | .fieldAddr _ x _ | .nilCheck x=>if Fl D x then o.dst.getD 0::D else D
  | .indexAddr t x _=>if yN t&&Fl D x then o.dst.getD 0::D else D
  | _=>D)
def Iv:Code->List Oper
 | .region _ l _=>l.toList
 | .seq a _=>Iv a
 | _=>[]
def Mz (h:Hn) (fz:List Nat) (dr:Bool) (l:List Oper):List bA:=l.map fun o=>⟨o.dst,if (MB o.op).any Pb then .bad else Pc h (BA h l fz) dr (o.dst.getD 0) o.op,o.guard.map fun g=>(af (J3 l) g.1 0,g.2)⟩
def J1 (ed:List (List Nat)):List (List Nat):=ed.foldl (fun bs l=>bs++[l.foldl (fun b j=>rS j (x9 (af bs j []) b)) []]) []
def Qf:AOp->Nat
 | .new _ _ | .nz _ | .qe _ _ | .st _ _ _ | .mk _ _ _ _ | .app _ _ _ | .q9 _ _ | .mM _ _ _ _=>1
 | .iW _ _=>4
 | .ld _ _ _ | .nj _ _ _ _ _=>2
 | .call _ _ | .jz _ _=>3
 | _=>0
def Pa (h:Hn) (L:List Nat) (A:List bA) (ed b:List (List Nat)):bL :=
 let n:=ae A
 let k:=A.map fun o=>Qf o.op
 match A.getLast?,(J1 ed).getLast? with
 | some ⟨x,.iW f a,g⟩,ak l=>if J4.contains f&&ae l==n - 1 then .vm L ed A.dropLast ⟨x,.call f a,g⟩ else .rI L ed [] A
 | _,_=>match A.findIdx? fun o=>match o.op with | .jz (.t x) _=>h.yi.contains x | _=>ar with
  | some q => .rJ L ed (A.take q) (A.drop q)
  | none =>
   let un:=((aC n).filter fun x=>af k x 0==1 || af k x 0==4).flatMap fun x=>((aC n).filter fun y=>x != y&&af k y 0 != 0 && !((af b y []).contains x || (af b x []).contains y)).map fun y=>(x,y)
   if un.isEmpty then .tp L ed A else if k.contains 4 then .rI L ed (un.filter fun p=>af k p.2 0 != 3) A else .pX L ed (un.filter fun p=>af k p.2 0 != 3) A
def rT:Code->Nat
 | .region i _ _=>i+1
 | .seq a b | .cond _ a b=>match rT a with
  | 0=>rT b
  | n=>n
 | .block _ a | .loop a=>rT a
 | .rangeFunc _ _ a _=>rT a
 | _=>0
def QQ (i:Nat):List (Nat × bL)->Option bL
 | []=>an
 | (j,c)::r=>if i=j then ak c else QQ i r
def MA (i:Nat):List (Nat × List Nat)->List Nat
 | []=>[]
 | (j,c)::r=>if i=j then c else MA i r
def j5:Code->List Nat->List (Nat × List Nat)->List Nat->List Nat
 | .region _ ops _,L,_,_=>Fo (J3 ops.toList) ops.toList L
 | .seq a b,L,E,R=>j5 a (j5 b L E R) E R
 | .cond c a b,L,E,R=>Fk c (x9 (j5 a L E R) (j5 b L E R))
 | .block i a,L,E,R=>j5 a L ((i,L)::E) R
 | .loop a,_,E,R=>j5 a [] E R
 | .rangeFunc g ps a b,L,E,R=>Fk g (x9 L (x9 R (E.foldr (fun x l=>x9 x.2 l) ((j5 a (j5 b [] [] []) [] R).filter fun x => !ps.toList.contains x))))
 | .exit i,_,E,_=>MA i E
 | .ret,_,_,R=>R
 | _,L,_,_=>L
def pj (h:Hn) (sp:List (Nat × bL)) (fz:List Nat):Code->List Nat->List (Nat × List Nat)->List Nat->bL
 | .region _ ops d,L,_,_=>if d then Pa h L.reverse (Mz h fz aq ops.toList) (ops.toList.map bn) (J1 (ops.toList.map bn)) else .ki L.reverse (Mz h fz ar ops.toList)
 | .seq a b,L,E,R => .seq (pj h sp fz a (j5 b L E R) E R) ((if h.wk.contains (rT b) then bL.wk else id) (match QQ (rT b) sp with
  | some z=>z
  | none=>pj h sp fz b L E R))
 | .cond c a b,L,E,R => .cond (cL c) (pj h sp fz a L E R) (pj h sp fz b L E R)
 | .block i a,L,E,R => .block i (pj h sp fz a L ((i,L)::E) R)
 | .loop a,_,E,R => .loop (j5 a [] E R).reverse (pj h sp fz a (j5 a [] E R) E R)
 | .rangeFunc g ps a b,_,_,R => .vZ (cL g) (ps.toList.headD 0) (pj h sp fz a (j5 b [] [] []) [] R) (pj h sp fz b [] [] [])
 | .exit i,_,_,_ => .exit i
 | .ret,_,_,_ => .ret
 | .skip,_,_,_ => .skip
 | .label i,_,_,_ => .label i
 | _,_,_,_ => .bad
def sT (h:Hn) (sp:List (Nat × bL)) (fz:List Nat) (i:Nat):Code->List Nat->List (Nat × List Nat)->List Nat->Option bL
 | .seq a b,L,E,R=>if rT b=i then ak (pj h sp fz b L E R) else (sT h sp fz i b L E R).or (sT h sp fz i a (j5 b L E R) E R)
 | .cond _ a b,L,E,R=>(sT h sp fz i a L E R).or (sT h sp fz i b L E R)
 | .block j a,L,E,R=>sT h sp fz i a L ((j,L)::E) R
 | .loop a,_,E,R=>sT h sp fz i a (j5 a [] E R) E R
 | .rangeFunc _ _ a b,_,_,R=>sT h sp fz i a (j5 b [] [] []) [] R
 | _,_,_,_=>an
def BB (f:Func):List Nat:=f.results.toList.foldr (fun r l=>match r with | .tmp t=>rS t l | .cell a _=>rS a l) []
def Br (f:Func):List gC:=f.results.toList.map fun r=>match r with
 | .tmp t => .t t
 | .cell a t => .cell a (yN t) (ij t)
def Tz (i:Nat) (f:Func) (h:Hn:={}) (j:Nat:=999) (a:bL := .skip) (k:Nat:=999) (b:bL := .skip):bL:=match f.body with
 | some c=>if i=0 then pj h [(j,a),(k,b)] (BA h (Iv c) h.fz) c (BB f) [] (BB f) else (sT h [(j,a),(k,b)] (BA h (Iv c) h.fz) i c (BB f) [] (BB f)).getD .bad
 | none => .bad
def Bb (P:Program) (f:Func) (c:bL):Bool:=match f.body with
 | some b=>dE P f.ntmps b c&&mZ P f.results.toList (Br f)&&cM c && !(f.name== "runtime.NumGoroutine")
 | none=>ar
section
variable {P:Program} {f:FuncId} {fn:Func} {c:bL} {rs:List gC} {args:List AV} {r:AV} {H H2:aE}
def sH (h:Bb P fn c=aq) (x:P.funcs[f]?=ak fn):zD P f fn.ntmps c (Br fn)/\cM c=aq:=by
 unfold Bb at h;split at h
 .rename_i b k;simp only[WZ,Yd] at h;exact ⟨⟨fn,b,x,h.2,k,rfl,h.1.1.1,h.1.1.2⟩,h.1.2⟩
 .cases h
def qc (h:P.funcs[f]?=ak fn) (c:bL) {Post:AV->aE->Prop} (w:WP P fn.ntmps c (ky rs Post) (jl args) H) (o:Bb P fn c=aq:=by kernel_rfl) (k:Br fn=rs:=by conv=>lhs;cbv)
  (x:Nat.ble (ae args) fn.ntmps=aq:=by rfl):cF P f args H Post:=by subst k;exact KI (sH o h).1 (aat x) (sH o h).2 w
def cc (h:P.funcs[f]?=ak fn) (c:bL) (w:WP P fn.ntmps c (pQ rs (ae H) r H2) (jl args) H) (o:Bb P fn c=aq:=by kernel_rfl) (k:Br fn=rs:=by conv=>lhs;cbv)
  (x:Nat.ble (ae args) fn.ntmps=aq:=by rfl):bK P f args H r H2:=by subst k;exact MY (sH o h).1 (aat x) (sH o h).2 w
def pc (h:P.funcs[f]?=ak fn) (c:bL) (w:WP P fn.ntmps c (pQ rs 0 r []) (jl args) []) (o:Bb P fn c=aq:=by kernel_rfl) (k:Br fn=rs:=by conv=>lhs;cbv)
  (x:Nat.ble (ae args) fn.ntmps=aq:=by rfl):a9 P f args r:=cc (H:=[]) h c w o k x
def qw (h:P.funcs[f]?=ak fn) {Post:AV->aE->Prop} (w:WP P fn.ntmps c (ky rs Post) (jl args) H) (e:Tz 0 fn=c:=by conv=>lhs;cbv) (o:Bb P fn (Tz 0 fn)=aq:=by kernel_rfl) (k:Br fn=rs:=by conv=>lhs;cbv)
  (x:Nat.ble (ae args) fn.ntmps=aq:=by rfl):cF P f args H Post:=qc h _ (e ▸ w) o k x
def cw (h:P.funcs[f]?=ak fn) (w:WP P fn.ntmps c (pQ rs (ae H) r H2) (jl args) H) (e:Tz 0 fn=c:=by conv=>lhs;cbv) (o:Bb P fn (Tz 0 fn)=aq:=by kernel_rfl) (k:Br fn=rs:=by conv=>lhs;cbv)
  (x:Nat.ble (ae args) fn.ntmps=aq:=by rfl):bK P f args H r H2:=cc h _ (e ▸ w) o k x
def pw (h:P.funcs[f]?=ak fn) (w:WP P fn.ntmps c (pQ rs 0 r []) (jl args) []) (e:Tz 0 fn=c:=by conv=>lhs;cbv) (o:Bb P fn (Tz 0 fn)=aq:=by kernel_rfl) (k:Br fn=rs:=by conv=>lhs;cbv)
  (x:Nat.ble (ae args) fn.ntmps=aq:=by rfl):a9 P f args r:=cw (H:=[]) h w e o k x
def uz {N i j k:Nat} {h:Hn} {a b:bL} {R:bN} {e:Env} {g:bL->bL->bL} (w:WP P N (g a b) R e H) (E:∀y z,Tz i fn h j y k z=g y z:=by intro y z;conv=>lhs;cbv):WP P N (Tz i fn h j a k b) R e H:=E a b ▸ w
end
def Qr:Nat->Nat->Nat
 | 0,_=>0
 | d+1,n=>if n=0 then 0 else Qr d (n / 2)+1
def HI:List Nat:=(aC 256).map (Qr 8)
noncomputable section
def tE:=Tz 0 f15 {fz:=[34,41]}
def fu:Hn:={fz:=[7,9,11,13,15],wk:=[8,11,19,24,27]}
def kM:=Tz 30 f32 fu
def kL:=Tz 21 f32 fu 30 kM
def kK:=Tz 14 f32 fu 21 kL
def kJ:=Tz 5 f32 fu 14 kK
def s8:=Tz 0 f32 fu 5 kJ
def wm:=Tz 0 f73 {cm:=[98]}
def jm:Hn:={fz:=[4,7,10,12],wk:=[4,13,22,25],yi:=[34,73,122]}
def kI:=Tz 19 f75 jm
def kG:=Tz 10 f75 jm 19 kI
def gI:=Tz 0 f75 jm 10 kG
def kF:=Tz 9 f77 {wk:=[5]}
def s7:=Tz 0 f77 {wk:=[5]} 9 kF
def FM:=Tz 0 f91 {lv:=[2,3]}
def q7:=Tz 6 f97 {lv:=[2,3]}
def Db:=Tz 0 f97 {lv:=[2,3]} 6 q7
def n9:=Tz 16 f109 {}
def n7:=Tz 10 f109 {} 16 n9
def zI:=Tz 0 f109 {} 10 n7
def DX:=Tz 0 f126 {lv:=[20,66]}
def rX:=Tz 0 f127 {lv:=[1],cm:=[133]}
def c8:Hn:={lv:=[1,171],cm:=[133]}
def gX:=Tz 22 f129 c8
def kE:=Tz 43 f129 c8
def j9:=Tz 41 f129 c8 43 kE
def kD:=Tz 37 f129 c8 41 j9
def kC:=Tz 26 f129 c8 37 kD
def j8:=Tz 16 f129 c8 22 gX 26 kC
def kB:=Tz 11 f129 c8 16 j8
def s6:=Tz 0 f129 c8 11 kB
def nE:=Tz 6 f131 {}
def yR:=Tz 0 f131 {} 6 nE
def qf:bL := .seq (.ki [0,2] [d 2 (.mv (i64 0))]) (.seq (.seq (.ki [0,2,4] [d 3 (.mv (.t 0)),d 4 (.bin .geq (.t 3) (u32 65536))]) (.cond (.t 4) (.seq (.ki [0] [d 5 (.mv (.t 0)),d 6 (.bin .shr (.t 5) (u64 16)),d 0 (.mv (.t 6))]) (.ki [0,2] [d 2 (.mv (i64 16))])) .skip)) (.seq (.seq (.ki [0,2,8] [d 7 (.mv (.t 0)),d 8 (.bin .geq (.t 7) (u32 256))]) (.cond (.t 8) (.seq (.ki [0,2] [d 9 (.mv (.t 0)),d 10 (.bin .shr (.t 9) (u64 8)),d 0 (.mv (.t 10))]) (.ki [0,2] [d 11 (.mv (.t 2)),d 12 (.bin .add (.t 11) (i64 8)),d 2 (.mv (.t 12))])) .skip)) (.seq (.ki [2] [d 13 (.mv (.t 2)),d 14 (.mv (.t 0)),d 15 (.cv .u8 (.t 14)),d 16 (.AN HI (.t 15)),d 17 (.cv .i64 (.t 16)),d 18 (.bin .add (.t 13) (.t 17)),d 2 (.mv (.t 18))]) .ret)))
end
def yd (l:List Int) (w:ae l < 4294967296) (f:Bool):a9 prog 165 [.seq 1 f (cZ l)] (dx (dC l)):=by
 refine pw func165 ?_;refine Y ?_;refine bE (fun n e H=>∃m f,e=[(0,AV.seq 1 f (cZ m))]/\H=[]/\n=ae m/\ae m < 4294967296/\dC m=dC l) ⟨l,f,rfl,rfl,rfl,w,rfl⟩ ?_;rintro _ _ _ ⟨m,f,rfl,rfl,rfl,b,y⟩;have k:dC m=m->Fin 0 (AV.seq 1 f (cZ m)) [] (dx (dC l)) []:=fun h=>by
  rw[<-y,h];cases f
  .exact iZ rfl
  .exact oD (.cell (.full 1 _)) rfl
 by_cases h:(0:Int) < ae m
 .have a:au .i64 (ae m - 1)=ae m - 1:=wrap_i64 aD aD;have z:az ((ae m:Int) - 1)=ae m - 1:=aD;refine Y3 h a z ?_;refine ⟨aD,fun x=>⟨aD,ae m - 1,aD,m.take (ae m - 1),_,rfl,?_,?_,?_⟩,fun x=>k (Bx x)⟩
  .simp
  .simp;omega
  .rw[tu aD x,y]
 .refine Y1 h ?_;have:m=[]:=Xy aD;subst this;exact k rfl
def Ft (n:Int):a9 prog 111 [fN n] (.q0 n.sign):=by
 have key:∀(v:Int) (d:AV),cN d=aq->a9 prog 111 [.agg [.q0 v,d]] (.q0 v.sign):=fun v d k=>by refine pw func111 ?_;refine Y1 k ?_;refine ⟨fun h=>aV (by rw[Zu h]) rfl,fun h=>⟨fun h=>aV (by rw[Y9 h]) rfl,fun h=>aV (by rw[show v=0 by omega];rfl) rfl⟩⟩
 unfold fN;split
 .exact key n .nil rfl
 .have:=key n.sign (dx (aO (ay n))) rfl
  rwa [show n.sign.sign=n.sign by simp] at this
def MC (n:Int):a9 prog 115 [fN n] (fN (-n)):=by
 have key:∀(v:Int) (d:AV),d = .nil\/(∃k f y,d = .seq k f y) -> -9223372036854775808 < v/\v < 9223372036854775808->a9 prog 115 [.agg [.q0 v,d]] (.agg [.q0 (-v),d]):=fun v d z hv=>by
  refine pw func115 ?_;have x:au .i64 (0 - v) = -v:=by rw[wrap_i64 aD aD];omega
  rcases z with rfl | ⟨k,f,y,rfl⟩
  .refine Y1 x ?_;exact aV rfl rfl
  .refine Y1 x ?_;exact aV rfl rfl
 by_cases h:-4611686018427387904 < n/\n < 4611686018427387904
 .rw[jQ h,jQ aD];exact key n .nil (.inl rfl) aD
 .rw[oz h,oz aD];have:=key n.sign (dx (aO (ay n))) (.inr ⟨_,_,_,rfl⟩) (by rcases aac n with h | h | h<;>rw[h]<;>decide)
  rwa [show ay (-n)=ay n by omega,show (-n).sign = -n.sign by simp]
def Qh (n:Int):a9 prog 110 [fN n] (fN (ay n)):=by
 refine pw func110 ?_;have ⟨v,d,z⟩:=eY n;refine Y2 z.eq z.fr ?_;refine ⟨fun h=>?_,fun h=>?_⟩
 .have k:n < 0:=by have:=z.sg;rw[Y9 h] at this;exact abj.1 this.symm
  refine aG (z.eq ▸ MC n) (by rw[<-z.eq];simp[dR]) (dR _) ?_;have ⟨w,y,x⟩:=eY (-n);refine Y2 x.eq x.ic ?_;exact fW (by rw[<-x.eq];congr 1;omega)
 .have k:¬n < 0:=by intro k;have:=z.sg;rw[Y9 k] at this;exact h (abj.1 this)
  refine Y1 z.ic ?_;exact fW (by rw[<-z.eq];congr 1;omega)
def yc (s:Int) (l:List Int) (B:s=1\/s = -1\/s=0) (F:ae l < 4294967296) (a:DOk l) (f:Bool) (C:s=0->val l=0):a9 prog 137 [.q0 s,.seq 1 f (cZ l)] (fN (s*val l)):=by
 refine pw func137 ?_;refine Y ?_;refine cX (yd l F f) ?_;have I:=CW l;have ⟨g,x⟩:=ep (az (val l));have N:=cp a;rw[<-lr a] at g x;generalize v:dC l=m at *;simp only[go_sem,↓reduceIte];have p:val m=val l:=by rw[g];omega
 have L:dC m=m:=by rw[<-v,lr a,iF]
 have y:¬val l < 4611686018427387904->∀H,Fin 0 (AV.agg [AV.c (Value.int IntKind.i64 s),AV.seq 1 ar (cZ m)]) H (fN (s*val l)) []:=fun P H=>by
  refine fW ?_;have J:s≠0:=fun h=>dp (C h);have z:m=aO (az (val l)):=by rw[<-v,lr a]
  have j:s=1\/s = -1:=aD;rw[oz (by rcases j with rfl | rfl<;>omega),z];rcases j with rfl | rfl
  .rw[YO,Zu (by omega),show ay (val l)=az (val l) by omega]
  .rw[Y9 (by omega),show ay (-1*val l)=az (val l) by omega]
 refine ⟨fun A=>?_,fun A=>?_⟩
 .have G:ae m<=2:=aD;refine bE (fun n e H=>∃i:Nat,i<=ae m/\n=ae m - i/\H=[ak {k:=2,ver:=0,xs:=[[AV.c (Value.int IntKind.i64 0),AV.nil]]}]/\e=[(0,AV.c (Value.int IntKind.i64 s)),(1,dx m),(4,AV.ptr 0 0 0 0),(5,AV.c (Value.int IntKind.u64 (val (m.take i)))),(13,dx m),(14,AV.c (Value.int IntKind.i64 (ae m))),(15,AV.c (Value.int IntKind.i64 i))]) ⟨0,aD,rfl,rfl,?_⟩ ?_
  .simp only[go_sem,↓reduceIte,val];rfl
  .rintro _ _ _ ⟨i,R,rfl,rfl,rfl⟩;simp only[go_sem,↓reduceIte,Nat.reduceLeDiff,WY];refine ⟨fun t=>⟨aD,?_⟩,fun D=>?_⟩
   .have O:au .i64 (32*(i:Int))=32*i:=wrap_i64 aD aD;have w:=ws i;have b:=x.getD i;have M:=cp (x.take i);have K:=iM (x.take i);rw[XI,XV (by omega)] at K;have W:au .u64 (af m i 0)=af m i 0:=br b.1 (by simp only[B32] at b;omega);rw[O,w];refine ⟨aD,ae m - (i+1),aD,i+1,aD,rfl,?_⟩;rw[dH (by omega)];have r:i=0\/i=1:=aD;have E:pG .u64 (val (m.take i)) (au .u64 (au .u64 (af m i ah)*2 ^ min (az (32*(i:Int))) 64))=val (m.take i)+B32 ^ i*af m i 0:=by
     rw[show (ah:Int)=0 from rfl,W];simp only[B32] at *;rcases r with rfl | rfl
     .have e:((af m 0 0)*2 ^ min (az (32*((0:Nat):Int))) 64)=af m 0 0*2 ^ 0:=by congr 1
      rw[e,br (by omega) (by omega),oN (by omega) (by omega) (by omega)];omega
     .have e:((af m 1 0)*2 ^ min (az (32*((1:Nat):Int))) 64)=af m 1 0*2 ^ 32:=by congr 1
      rw[e,br (by omega) (by omega),oN (by omega) (by omega) (by omega)];omega
    rw[E]
   .have q:i=ae m:=aD;subst q;rw[XP,p];refine ⟨fun o=>?_,fun o=>?_⟩
    .have X:au .i64 (val l)=val l:=wrap_i64 aD aD;have w:au .i64 (s*val l)=s*val l:=by rcases B with rfl | rfl | rfl<;>exact wrap_i64 aD aD
     rw[X,w];exact fW (jQ (by rcases B with rfl | rfl | rfl<;>omega)).symm
    .exact y o _
 .simp only[WY,Qa];refine ⟨aat rfl,y (fun t=>A ?_) _⟩;have z:m=aO (az (val l)):=by rw[<-v,lr a]
  have:ae (aO (az (val l)))<=2:=fT.2 aD;rw[<-z] at this;omega
def Aq (x:0<=n) (h:n < 18446744073709551616) (y:a=n % 4294967296) (z:b=n / 4294967296):dC [a,b]=aO (ay n):=by have k:DOk [a,b] := .cons (by simp only[B32];omega) (.cons (by simp only[B32];omega) .nil);rw[lr k];congr 1;simp only[val,B32];omega
def rV (n:Int):a9 prog 134 [fN n] (.bI [.q0 n.sign,dx (aO (ay n))]):=by
 refine pw func134 ?_;have ⟨v,d,z⟩:=eY n;rcases z.cases with ⟨rfl,rfl⟩ | ⟨rfl,rfl,l⟩
 .have c:=z.lo;have j:=z.hi;have y:au .i64 (0 - v) = -v:=by rw[wrap_i64 aD aD];omega
  have fin:∀(s m a b:Int) H,s=v.sign->0<=m->m < 4611686018427387904->ay m=ay v->a=m % 4294967296->b=m / 4294967296 ->
    Fin 0 (.bI [.q0 s,dx (dC [a,b])]) H (.bI [.q0 v.sign,dx (aO (ay v))]) []:=fun s m a b H i w c g e f =>
   aV (by rw[i,Aq w aD e f,g]) rfl;refine Y2 z.eq y ?_;refine ⟨fun h=>?_,fun h=>⟨fun x=>?_,fun x=>?_⟩⟩
  .refine ⟨aS,aG (yd [_,_] aK aq) rfl rfl ?_⟩;refine Y ?_;have k:au .u64 v=v:=br aD aD;exact fin _ v _ _ _ (Zu h).symm aD aD rfl (by rw[k,dc]) (by rw[k,dc];omega)
  .refine ⟨aS,aG (yd [_,_] aK aq) rfl rfl ?_⟩;refine Y ?_;have k:au .u64 (-v) = -v:=br aD aD;exact fin _ (-v) _ _ _ (Y9 x).symm aD aD aD (by rw[k,dc]) (by rw[k,dc];omega)
  .refine ⟨aS,aG (yd [_,_] aK aq) rfl rfl ?_⟩;refine Y ?_;have k:v=0:=aD;subst k;exact fin _ 0 _ _ _ rfl aD aD rfl rfl rfl
 .refine Y1 z.eq ?_;refine ⟨fun h=>?_,aV rfl rfl⟩;rw[fU] at h;omega
def uk (x y c:Int) (f:0<=x/\x < 4294967296) (g:0<=y/\y < 4294967296) (e:0<=c/\c<=1):a9 prog 169 [.c (.int .u32 x),.c (.int .u32 y),.c (.int .u32 c)] (.bI [.c (.int .u32 ((x+y+c) % 4294967296)),.c (.int .u32 ((x+y+c) / 4294967296))]):=by refine pw func169 ?_;have h:au .u64 x=x:=br aD aD;have k:au .u64 y=y:=br aD aD;have z:au .u64 c=c:=br aD aD;have w:au .u64 (x+y)=x+y:=br aD aD;have b:au .u64 (x+y+c)=x+y+c:=br aD aD;refine Y5 h k z w b ?_;refine ⟨aS,aV ?_ rfl⟩;rw[dc,dc,ZG (a:=(x+y+c) / 4294967296) aD aD]
def vD {n:Int} (h:0 < n):n.sign=1:=Zu h
def sign_neg {n:Int} (h:n < 0):n.sign = -1:=Y9 h
def C6 (l m:List Int) (K:ae l < 4294967296) (hm:ae m < 4294967296) (x:DOk l) (y:DOk m) (q:dC l=l) (r:dC m=m) (f g:Bool) :
  a9 prog 135 [.seq 1 f (cZ l),.seq 1 g (cZ m)] (.c (.int .i64 (val l - val m).sign)):=by
 refine pw func135 ?_;refine Y ?_;refine ⟨fun t=>?_,fun t=>⟨fun h=>aV ?_ rfl,fun h=>aV ?_ rfl⟩⟩
 .have j:ae l=ae m:=aD;rw[show au .i64 ((ae l:Int) - 1)=(ae l:Int) - 1 from wi];refine bE (fun n e H=>∃i:Nat,i<=ae l/\n=i/\H=[]/\l.drop i=m.drop i/\e=[(0,AV.seq 1 f (cZ l)),(1,AV.seq 1 g (cZ m)),(5,AV.c (Value.int IntKind.i64 ((i:Int) - 1)))]) ⟨ae l,WY _,rfl,rfl,by rw[YX,j,YX],rfl⟩ ?_;rintro n _ _ ⟨i,v,X,rfl,w,rfl⟩;by_cases s:i=0
  .subst s;refine Y ?_;refine ⟨fun h=>aD,fun _=>aV ?_ rfl⟩;have:l=m:=bk w;rw[this];simp
  .have o:az ((i:Int) - 1)=i - 1:=by omega
   have k:l.drop (i - 1+1)=m.drop (i - 1+1):=by rw[show i - 1+1=i by omega];exact w
   refine Y1 o ?_;refine ⟨fun _=>⟨aD,aD,fun p=>?_,fun p=>⟨aD,aD,fun z=>aV ?_ rfl,fun z=>aV ?_ rfl⟩⟩,fun h=>aD⟩
   .refine ⟨i - 1,by omega,i - 1,by omega,rfl,?_,?_⟩
    .rw[XA (by omega:i - 1 < ae l),XA (by omega:i - 1 < ae m),k];congr 1;simpa[af,show i - 1 < ae l by omega,show i - 1 < ae m by omega] using p
    .rw[wrap_i64 (by omega) (by omega),show ((i - 1:Nat):Int)=(i:Int) - 1 by omega]
   .rw[sign_neg];have:=GR x y aD aD k z;omega
   .rw[vD];have:af m (i - 1) 0 < af l (i - 1) 0:=by have a:¬af l (i - 1) 0=af m (i - 1) 0:=p;have b:¬af l (i - 1) 0 < af m (i - 1) 0:=z;omega
    have:=GR y x aD aD k.symm this;omega
 .rw[sign_neg];have:=GS x y r aD;omega
 .rw[vD];have:=GS y x q aD;omega
def Pm (a b:List Int) (D:ae a < 4294967295) (E:ae b < 4294967295) (A:DOk a) (B:DOk b) (f g:Bool) :
  a9 prog 170 [.seq 1 f (cZ a),.seq 1 g (cZ b)] (dx (if ae a < ae b then ft b a 0 else ft a b 0)):=by
 refine pw func170 ?_;by_cases h:ae a < ae b
 .have X:(ae a:Int) < ae b:=by omega
  have r:au .i64 ((ae b:Int)+1)=ae b+1:=wrap_i64 aD aD;rw[W0 h];refine Y2 X r ?_;refine ⟨aD,?_⟩;refine bE (fun n e H=>∃(i ver:Nat) (c:Int) (o:List Int),i<=ae b/\n=ae b - i/\ae o=i/\(0<=c/\c<=1)/\ft b a 0=o++ft (b.drop i) (a.drop i) c/\H=[ak ⟨1,ver,cZ o⟩] /\
   e=[(0,.seq 1 g (cZ b)),(1,.seq 1 f (cZ a)),(5,.sl 1 0 ver 0 i),(6,.c (.int .u32 c)),(22,.q0 (ae b)),(23,.q0 i)]) ⟨0,0,0,[],aD,rfl,rfl,aS,rfl,rfl,?_⟩ ?_
  .simp only[go_sem,↓reduceIte];rfl
  rintro n _ _ ⟨i,ver,c,o,C,F,j,K,x,rfl,rfl⟩;by_cases w:(i:Int) < ae b
  .have r:=ws i;have z:=B.getD i;have l:=A.getD i;simp only[B32] at z l;have m:∀y:Int,y=af a i 0->(((af b i 0+y+c) / 4294967296:Int)>=0/\(af b i 0+y+c) / 4294967296<=1)/\ft b a 0=(o++[(af b i 0+y+c) % 4294967296])++ft (b.drop (i+1)) (a.drop (i+1)) ((af b i 0+y+c) / 4294967296):=fun y W=>by subst W;refine ⟨aD,?_⟩;rw[x,Cj (by omega)];simp
   by_cases q:(i:Int) < ae a
   .refine Y2 w q ?_;refine ⟨aD,aD,aG (uk _ _ _ z l K) rfl rfl ?_⟩;refine Y ?_;rw[kV (by simp[j])];refine Y1 r ?_;have ⟨s,t⟩:=m _ rfl;exact ⟨aD,n - 1,aD,i+1,ver+1,_,_,aD,aD,by simp[j],s,t,by simp[cZ,gD],rfl⟩
   .have v:af a i 0=0:=by simp[af,show ae a<=i by omega]
    refine Y2 w q ?_;refine ⟨aD,aG (uk _ 0 _ z aS K) rfl rfl ?_⟩;refine Y ?_;rw[kV (by simp[j])];refine Y1 r ?_;have ⟨s,t⟩:=m 0 v.symm;exact ⟨aD,n - 1,aD,i+1,ver+1,_,_,aD,aD,by simp[j],s,t,by simp[cZ,gD],rfl⟩
  .refine Y1 w ?_;rw[kV (by simp[j])];refine Y ?_;refine ⟨aD,?_⟩;have p:i=ae b:=aD;rw[x,p,YX,ft];have:=yr (k:=1) (ver:=ver+1) (n:=ae b+1) (xs:=cZ (o++[c])) (by simp[j,p]) (m9 _);simpa[dx,cZ,gD] using this
 .have X:¬(ae a:Int) < ae b:=by omega
  have r:au .i64 ((ae a:Int)+1)=ae a+1:=wrap_i64 aD aD;rw[WX h];refine Y2 X r ?_;refine ⟨aD,?_⟩;refine bE (fun n e H=>∃(i ver:Nat) (c:Int) (o:List Int),i<=ae a/\n=ae a - i/\ae o=i/\(0<=c/\c<=1)/\ft a b 0=o++ft (a.drop i) (b.drop i) c/\H=[ak ⟨1,ver,cZ o⟩] /\
   e=[(0,.seq 1 f (cZ a)),(1,.seq 1 g (cZ b)),(5,.sl 1 0 ver 0 i),(6,.c (.int .u32 c)),(22,.q0 (ae a)),(23,.q0 i)]) ⟨0,0,0,[],aD,rfl,rfl,aS,rfl,rfl,?_⟩ ?_
  .simp only[go_sem,↓reduceIte];rfl
  rintro n _ _ ⟨i,ver,c,o,C,F,j,K,x,rfl,rfl⟩;by_cases w:(i:Int) < ae a
  .have r:=ws i;have z:=A.getD i;have l:=B.getD i;simp only[B32] at z l;have m:∀y:Int,y=af b i 0->(((af a i 0+y+c) / 4294967296:Int)>=0/\(af a i 0+y+c) / 4294967296<=1)/\ft a b 0=(o++[(af a i 0+y+c) % 4294967296])++ft (a.drop (i+1)) (b.drop (i+1)) ((af a i 0+y+c) / 4294967296):=fun y W=>by subst W;refine ⟨aD,?_⟩;rw[x,Cj (by omega)];simp
   by_cases q:(i:Int) < ae b
   .refine Y2 w q ?_;refine ⟨aD,aD,aG (uk _ _ _ z l K) rfl rfl ?_⟩;refine Y ?_;rw[kV (by simp[j])];refine Y1 r ?_;have ⟨s,t⟩:=m _ rfl;exact ⟨aD,n - 1,aD,i+1,ver+1,_,_,aD,aD,by simp[j],s,t,by simp[cZ,gD],rfl⟩
   .have v:af b i 0=0:=by simp[af,show ae b<=i by omega]
    refine Y2 w q ?_;refine ⟨aD,aG (uk _ 0 _ z aS K) rfl rfl ?_⟩;refine Y ?_;rw[kV (by simp[j])];refine Y1 r ?_;have ⟨s,t⟩:=m 0 v.symm;exact ⟨aD,n - 1,aD,i+1,ver+1,_,_,aD,aD,by simp[j],s,t,by simp[cZ,gD],rfl⟩
  .refine Y1 w ?_;rw[kV (by simp[j])];refine Y ?_;refine ⟨aD,?_⟩;have p:i=ae a:=aD;rw[x,p,YX,ft];have:=yr (k:=1) (ver:=ver+1) (n:=ae a+1) (xs:=cZ (o++[c])) (by simp[j,p]) (m9 _);simpa[dx,cZ,gD] using this
def GV (x y c:Int) (a:0<=x/\x < 4294967296) (b:0<=y/\y < 4294967296) (w:0<=c/\c<=1):a9 prog 181 [.c (.int .u32 x),.c (.int .u32 y),.c (.int .u32 c)] (.bI [.c (.int .u32 ((x - y - c) % 4294967296)),.c (.int .u32 (-((x - y - c) / 4294967296)))]):=by
 refine pw func181 ?_;have h:au .u32 (au .u32 (x - y) - c)=(x - y - c) % 4294967296:=by rw[dc,dc];omega
 refine Y1 h ?_;have k:(if IntKind.u32.signed=aq then (-1:Int) else IntKind.u32.max)=4294967295:=rfl;have z:((2:Int) ^ min (Int.toNat 31) 32)=2147483648:=rfl;refine ⟨aS,aV ?_ rfl⟩;rw[k,z,YZ _ aS,Ho a b w rfl]
def GW (a b:List Int) (X:ae a < 4294967295) (W:ae b < 4294967295) (v:DOk a) (K:DOk b) (f g:Bool) :
  a9 prog 171 [.seq 1 f (cZ a),.seq 1 g (cZ b)] (dx (iR a b 0)):=by
 refine pw func171 ?_;refine Y ?_;refine ⟨aD,?_⟩;refine bE (fun n e H=>∃(i ver:Nat) (c:Int) (o:List Int),i<=ae a/\n=ae a - i/\ae o=i/\(0<=c/\c<=1)/\iR a b 0=o++iR (a.drop i) (b.drop i) c/\H=[ak ⟨1,ver,cZ o⟩] /\
  e=[(0,.seq 1 f (cZ a)),(1,.seq 1 g (cZ b)),(5,.sl 1 0 ver 0 i),(6,.c (.int .u32 c)),(14,.q0 (ae a)),(15,.q0 i)]) ⟨0,0,0,[],aD,rfl,rfl,aS,rfl,rfl,?_⟩ ?_
 .simp only[go_sem,↓reduceIte];rfl
 rintro n _ _ ⟨i,ver,c,o,B,C,m,s,h,rfl,rfl⟩;by_cases x:(i:Int) < ae a
 .have t:=ws i;have k:=v.getD i;have z:=K.getD i;simp only[B32] at k z;have w:∀y:Int,y=af b i 0->((-((af a i 0 - y - c) / 4294967296):Int)>=0 /\ -((af a i 0 - y - c) / 4294967296)<=1)/\iR a b 0=(o++[(af a i 0 - y - c) % 4294967296])++iR (a.drop (i+1)) (b.drop (i+1)) (-((af a i 0 - y - c) / 4294967296)):=fun y A=>by subst A;refine ⟨aD,?_⟩;rw[h,JV (by omega)];simp
  by_cases l:(i:Int) < ae b
  .refine Y2 x l ?_;refine ⟨aD,aD,aG (GV _ _ _ k z s) rfl rfl ?_⟩;refine Y ?_;rw[kV (by simp[m])];refine Y1 t ?_;have ⟨p,q⟩:=w _ rfl;exact ⟨aD,n - 1,aD,i+1,ver+1,_,_,aD,aD,by simp[m],p,q,by simp[cZ,gD],rfl⟩
  .have r:af b i 0=0:=by simp[af,show ae b<=i by omega]
   refine Y2 x l ?_;refine ⟨aD,aG (GV _ 0 _ k aS s) rfl rfl ?_⟩;refine Y ?_;rw[kV (by simp[m])];refine Y1 t ?_;have ⟨p,q⟩:=w 0 r.symm;exact ⟨aD,n - 1,aD,i+1,ver+1,_,_,aD,aD,by simp[m],p,q,by simp[cZ,gD],rfl⟩
 .refine Y1 x ?_;have j:i=ae a:=aD;rw[h,j,YX,iR,Xz];exact yr (by simp[m,j]) (m9 _)
section
variable {P:Program} {N:Nat} {e:Env} {H H' H2:aE} {K:AV->aE->Prop}
def II (C:WkS (ae H) H H2 R) (m:ae k=ae args) (B:∀(j:Nat) a c,args[j]?=ak a->k[j]?=ak c->R a c) (h:bK P f k H2 r H'):bK P f args H r H':=by
 have ⟨t,X⟩:=h;refine ⟨t,fun I β w n s y=>?_⟩;have ⟨i,o,F,hR,D⟩:=C I β w s;have x:=D I β H w (WY _) s.gw (.refl _ _ _ _);have z:bJ i o k n:=by refine ⟨m ▸ y.1,fun j c v b q=>?_⟩;have W:j < ae args:=m ▸ (W9.1 b).1;have l:=W7 W;exact hR _ _ _ (B j _ _ l b) (y.2 j _ v l q)
 refine (X i o w n F z).mono fun L M A=>?_;have ⟨rv,p,J,b,G,E,g⟩:=A;exact ⟨rv,p,J,b,x.trans G,E,g⟩
def wN (id ver:Nat) (w:aH H id ver=ak ob) (z:ob.xs.all (fun x=>x.all b8)=aq) (h:a9 P f y r) (c:args.map (dT id ver ob.k ob.xs)=y)
  (i:y.all bP=aq) (m:bP r=aq) (l:K r (H.set id an)):jy P .any f args H K:=by refine dK ?_ l;refine II (lZ w z) (by rw[<-c];simp) (fun j a n g b=>?_) (h.call _ i m);rw[<-c,Ys,g] at b;exact (aby b).symm
def rn {id ver k n:Nat} {xs:List (List AV)} (h:n=ae xs):dT id ver k xs (.sl k id ver 0 n) = .seq k ar xs:=by simp[dT,oF,fX,h]
end
def JU (h:b≠0):dC [a,b]=[a,b]:=by simp[dC,h]
def Pg (n:Int) (l:-9223372036854775808<=n/\n < 9223372036854775808):a9 prog 92 [.q0 n] (fN n):=by
 refine pw func92 ?_;have k:∀(s m a b:Int) H,¬(-4611686018427387904 < n/\n < 4611686018427387904)->s=n.sign->0<=m->ay m=ay n->a=m % 4294967296->b=m / 4294967296 ->
   Fin 0 (.agg [.q0 s,.seq 1 aq [[.c (.int .u32 a)],[.c (.int .u32 b)]]]) H (fN n) []:=fun s m a b H h j w i f g=>by refine oD (r := .agg [.q0 s,.seq 1 aq [[.c (.int .u32 a)],[.c (.int .u32 b)]]]) ?_ rfl;rw[oz h,<-i,<-Aq w aD f g,JU aD,j];exact .agg (.cons (.refl _) (.cons (.full _ _) .nil))
 by_cases x:-4611686018427387904 < n
 .by_cases z:n < 4611686018427387904
  .refine Y2 x z ?_;exact fW (jQ ⟨x,z⟩).symm
  .have y:¬n < 0:=aD;refine Y3 x z y ?_;refine ⟨aS,k _ n _ _ _ aD (vD aD).symm aD rfl ?_ ?_⟩
   .rw[br aD aD,dc]
   .rw[br aD aD,dc];omega
 .have y:n < 0:=aD;refine Y2 x y ?_;have e:au .u64 (0 - au .u64 n) = -n:=by rw[jP,jP];omega
  refine ⟨aS,k _ (-n) _ _ _ aD (sign_neg y).symm aD aD ?_ ?_⟩
  .rw[e,dc]
  .rw[e,dc];omega
def sR {n v:Int} {d:AV} (z:IF n v d):∃b:Bool,(∀K,sY ar d K=K (.v0 b))/\(b=aq->d = .nil/\v=n):=by
 rcases z.cases with ⟨rfl,rfl⟩ | ⟨rfl,rfl,h⟩
 .exact ⟨aq,fun K=>Ee,fun _=>⟨rfl,rfl⟩⟩
 .refine ⟨ar,fun K=>?_,aK⟩;rw[zN];have:aO (ay n)≠[]:=fun k=>by rw[fU] at k;omega
  simp[this]
def jG (n:Int):n.sign*(ay n:Int)=n:=Int.sign_mul_natAbs n
def gh (n:Int):n.sign=1\/n.sign = -1\/n.sign=0:=by rcases aac n with h | h | h<;>omega
def JA (a b:List Int) (y:DOk a) (z:DOk b):val (if ae a < ae b then ft b a 0 else ft a b 0)=val a+val b/\DOk (if ae a < ae b then ft b a 0 else ft a b 0):=by
 split
 .rename_i h;have ⟨k,x⟩:=wE z y (c:=0) aS aD;exact ⟨by rw[k];omega,x⟩
 .rename_i h;have ⟨k,x⟩:=wE y z (c:=0) aS aD;exact ⟨by rw[k];omega,x⟩
def Lu (a b:List Int) (h:ae a < 4294967294) (k:ae b < 4294967294):ae (if ae a < ae b then ft b a 0 else ft a b 0) < 4294967296:=by split<;>rw[Ks]<;>omega
def vR (h:m<=n):ae (aO m)<=ae (aO n) :=
 fT.2 (abk h (fT.1 (WY _)))
def A8 (h:m<=n):val (iR (aO n) (aO m) 0)=n - m/\DOk (iR (aO n) (aO m) 0):=by have ⟨k,y⟩:=ep n;have ⟨x,z⟩:=ep m;have ⟨w,a⟩:=CX y z (c:=0) aS (vR h) (by rw[k,x];omega);exact ⟨by rw[w,k,x];omega,a⟩
def F4 {n:Int} (h:0<=n.sign):0<=n:=by
 by_cases k:n < 0
 .rw[sign_neg k] at h;omega
 .omega
def opposite (k:¬n.sign=0) (x:¬m.sign=0) (y:¬n.sign=m.sign):n.sign*((ay n:Int) - ay m)=n+m/\m.sign*((ay m:Int) - ay n)=n+m:=by
 have e:m.sign = -n.sign:=by rcases gh n with h | h | h<;>rcases gh m with g | g | g<;>omega
 have a:=jG n;have b:=jG m;rw[Zt,Zt,a,b];rw[e,Int.neg_mul] at b;rw[e,Int.neg_mul];omega
def Qi (n m:Int) (I:ae (aO (ay n)) < 4294967294) (hm:ae (aO (ay m)) < 4294967294):a9 prog 140 [fN n,fN m] (fN (n+m)):=by
 refine pw func140 ?_;obtain ⟨v,d,z⟩:=eY n;obtain ⟨w,g,y⟩:=eY m;obtain ⟨s,l,X⟩:=sR z;obtain ⟨t,o,W⟩:=sR y;by_cases F:s=aq/\t=aq
 .obtain ⟨rfl,rfl⟩:=F;have J:=z.lo;have L:=z.hi;have M:=y.lo;have N:=y.hi;have e:au .i64 (v+w)=v+w:=wrap_i64 aD aD;refine Y7 z.eq y.eq z.fr y.fr l o e ?_;refine aG (Pg (v+w) aD) rfl (dR _) ?_;rw[(X rfl).2,(W rfl).2];obtain ⟨C,q,k⟩:=eY (n+m);refine Y2 k.eq k.ic ?_;rw[<-k.eq];exact fW rfl
 .have K:s=ar\/(s=aq/\t=ar):=by cases s<;>cases t<;>simp_all
  rcases K with rfl | ⟨rfl,rfl⟩
  all_goals simp only[z.eq,y.eq,z.fr,y.fr,l,o,go_sem,↓reduceIte,WY]
  all_goals refine aG (z.eq ▸ rV n) (by rw[<-z.eq];simp[dR]) rfl ?_
  all_goals simp only[go_sem,↓reduceIte,WY]
  all_goals refine aG (y.eq ▸ rV m) (by rw[<-y.eq];simp[dR]) rfl ?_
  all_goals simp only[z.ic,y.ic,go_sem,↓reduceIte,WY]
  all_goals have A:ae (aO (ay n)) < 4294967295:=aD
  all_goals have B:ae (aO (ay m)) < 4294967295:=aD
  all_goals obtain ⟨D,a⟩:=ep (ay n)
  all_goals obtain ⟨E,b⟩:=ep (ay m)
  all_goals (
   refine ⟨fun x=>?_,fun x=>⟨fun j=>?_,fun j=>⟨fun p=>?_,fun p=>?_⟩⟩⟩
   .rw[<-y.eq];exact fW (by congr 1;have:n=0:=XM.1 x;omega)
   .rw[<-z.eq];exact fW (by congr 1;have:m=0:=XM.1 j;omega)
   .refine aG (Pm (aO (ay n)) (aO (ay m)) A B a b ar ar) rfl rfl ?_
    obtain ⟨c,f⟩:=JA _ _ a b
    have i:=Lu _ _ I hm
    generalize (if ae (aO (ay n)) < ae (aO (ay m)) then ft (aO (ay m)) (aO (ay n)) 0 else ft (aO (ay n)) (aO (ay m)) 0)=r at *
    refine Y ?_
    refine aG (yc n.sign r (gh n) i f ar (fun h=>absurd h x)) rfl (dR _) ?_
    have G:n.sign*val r=n+m:=by rw[c,D,E,XN,jG];rw[p,jG]
    rw[G]
    obtain ⟨C,q,k⟩:=eY (n+m)
    refine Y2 k.eq k.ic ?_
    rw[<-k.eq];exact fW rfl
   .refine aG (C6 (aO (ay n)) (aO (ay m)) aD aD a b (iF _) (iF _) ar ar) rfl rfl ?_
    rw[D,E]
    refine Y ?_
    refine ⟨fun H=>?_,fun H=>?_⟩
    .refine aG (GW (aO (ay n)) (aO (ay m)) A B a b ar ar) rfl rfl ?_
     obtain ⟨c,f⟩:=A8 (m:=ay m) (n:=ay n) (by have:=F4 H;omega)
     have i:ae (iR (aO (ay n)) (aO (ay m)) 0) < 4294967296:=by rw[Fc];omega
     generalize iR (aO (ay n)) (aO (ay m)) 0=r at *
     refine Y ?_
     refine aG (yc n.sign r (gh n) i f ar (fun h=>absurd h x)) rfl (dR _) ?_
     rw[c,(opposite x j p).1]
     obtain ⟨C,q,k⟩:=eY (n+m)
     refine Y2 k.eq k.ic ?_
     rw[<-k.eq];exact fW rfl
    .refine aG (GW (aO (ay m)) (aO (ay n)) B A b a ar ar) rfl rfl ?_
     obtain ⟨c,f⟩:=A8 (m:=ay n) (n:=ay m) (by
      by_cases h:(ay n:Int) - ay m < 0
      .omega
      .exfalso;apply H;rcases Int.lt_or_eq_of_le (aaC.1 h) with h | h
       .rw[vD h];decide
       .rw[<-h];decide)
     have i:ae (iR (aO (ay m)) (aO (ay n)) 0) < 4294967296:=by rw[Fc];omega
     generalize iR (aO (ay m)) (aO (ay n)) 0=r at *
     refine Y ?_
     refine aG (yc m.sign r (gh m) i f ar (fun h=>absurd h j)) rfl (dR _) ?_
     rw[c,(opposite x j p).2]
     obtain ⟨C,q,k⟩:=eY (n+m)
     refine Y2 k.eq k.ic ?_
     rw[<-k.eq];exact fW rfl)
def NT (x y:Int) (s:0<=x/\x < 18446744073709551616) (v:0<=y/\y < 18446744073709551616):a9 prog 172 [.c (.int .u64 x),.c (.int .u64 y)] (.bI [.c (.int .u64 (x*y / 18446744073709551616)),.c (.int .u64 (x*y % 18446744073709551616))]):=by
 refine pw func172 ?_;have X:=jX (a:=x % 4294967296) (b:=y % 4294967296) aD aD;have A:=jX (a:=x / 4294967296) (b:=y % 4294967296) aD aD;have W:=jX (a:=x % 4294967296) (b:=y / 4294967296) aD aD;have B:=jX (a:=x / 4294967296) (b:=y / 4294967296) aD aD;have t:x*y=(x / 4294967296)*(y / 4294967296)*18446744073709551616+((x / 4294967296)*(y % 4294967296)+(x % 4294967296)*(y / 4294967296))*4294967296+(x % 4294967296)*(y % 4294967296):=by have e:x=x / 4294967296*4294967296+x % 4294967296:=aD;have f:y=y / 4294967296*4294967296+y % 4294967296:=aD;generalize x / 4294967296=a at *;generalize x % 4294967296=b at *;generalize y / 4294967296=c at *;generalize y % 4294967296=d at *;subst e f;rw[Yo,XN,XN,Xw a 4294967296 (c*4294967296),<-Xw 4294967296 c,Yg 4294967296 c,Xw c,<-Xw a c,Xw a 4294967296 d,Yg 4294967296 d,<-Xw a d,<-Xw b c];omega
 generalize o:(x / 4294967296)*(y / 4294967296)=w at *;generalize p:(x / 4294967296)*(y % 4294967296)=k at *;generalize q:(x % 4294967296)*(y / 4294967296)=z at *;generalize r:(x % 4294967296)*(y % 4294967296)=h at *;have m1:=zU s;have H:=zU v;have g:au .u64 h=h:=br aD aD;have e:au .u64 k=k:=br aD aD;have f:au .u64 (k+h / 4294967296)=k+h / 4294967296:=br aD aD;have i:au .u64 z=z:=br aD aD;have K:=zU (x:=k+h / 4294967296) aD;have j:au .u64 ((k+h / 4294967296) % 4294967296+z)=(k+h / 4294967296) % 4294967296+z:=br aD aD;have l:au .u64 w=w:=br aD aD;have m:au .u64 (w+(k+h / 4294967296) / 4294967296)=w+(k+h / 4294967296) / 4294967296:=br aD aD;have n:au .u64 (w+(k+h / 4294967296) / 4294967296+((k+h / 4294967296) % 4294967296+z) / 4294967296)=x*y / 18446744073709551616:=by have:x*y / 18446744073709551616=w+(k+h / 4294967296) / 4294967296+((k+h / 4294967296) % 4294967296+z) / 4294967296:=aD;rw[this,jP];apply ZG<;>omega
 simp only[go_sem,↓reduceIte,m1,H,o,p,q,r,g,e,f,K,i,j,l,m,n];exact ⟨aS,aS,aS,aS,aS,aV (by rw[jP]) rfl⟩
def CN (n m:Int):n.sign*m.sign*((ay n:Int)*ay m)=n*m:=by rw[show n.sign*m.sign*((ay n:Int)*ay m)=(n.sign*ay n)*(m.sign*ay m) by rw[Xw,Xw,ZH m.sign],jG,jG]
def lV (n m:Int):n.sign*m.sign=1\/n.sign*m.sign = -1\/n.sign*m.sign=0:=by rcases gh n with h | h | h<;>rcases gh m with g | g | g<;>rw[h,g]<;>decide
def Lq {X Y o:List Int} {i k:Nat} {c t:Int} (z:k < ae Y) (x:i+k < ae o) (w:t=c+(af X i 0*af Y k 0+af o (i+k) 0))
  (h:val o+B32 ^ (i+k)*c=val (X.take i)*val Y+B32 ^ i*(af X i 0*val (Y.take k))) :
  val (o.set (i+k) (t % 4294967296))+B32 ^ (i+(k+1))*(t / 4294967296)=val (X.take i)*val Y+B32 ^ i*(af X i 0*val (Y.take (k+1))):=by
 rw[Cf x,dH z,<-XY,YR,XN (af X i 0),XN (B32 ^ i)];have y:B32 ^ i*(af X i 0*(B32 ^ k*af Y k 0))=B32 ^ (i+k)*(af X i 0*af Y k 0):=by rw[Int.pow_add,ZH (af X i 0),Xw]
 rw[y,<-abP,<-h,Xw];generalize B32 ^ (i+k)=p;generalize af X i 0*af Y k 0=q at *;generalize af o (i+k) 0=r at *;rw[abP,abP,<-XN,<-XN];congr 2;simp only[B32];omega
def Nu {X Y o:List Int} {i:Nat} {c:Int} (k:i < ae X) (x:i+ae Y < ae o) (y:af o (i+ae Y) 0=0)
  (h:val o+B32 ^ (i+ae Y)*c=val (X.take i)*val Y+B32 ^ i*(af X i 0*val (Y.take (ae Y)))) :
  val (o.set (i+ae Y) c)=val (X.take (i+1))*val Y:=by rw[Cf x,y,Int.sub_zero,h,dH k,XP,Yo,Xw]
def Qk (n m:Int) (hn:ae (aO (ay n)) < 2147483648) (hm:ae (aO (ay m)) < 2147483648):a9 prog 141 [fN n,fN m] (fN (n*m)):=by
 refine pw func141 ?_;have ⟨v,d,z⟩:=eY n;have ⟨w,g,y⟩:=eY m;have ⟨s,p,C⟩:=sR z;have ⟨t,r,E⟩:=sR y;have M:(s=aq/\t=aq)\/s=ar\/(s=aq/\t=ar):=by cases s<;>cases t<;>simp_all
 rcases M with ⟨rfl,rfl⟩ | rfl | ⟨rfl,rfl⟩
 case' inr.inl=>simp only[z.eq,y.eq,z.fr,y.fr,p,go_sem,↓reduceIte,WY]
 case' inr.inr=>simp only[z.eq,y.eq,z.fr,y.fr,p,r,go_sem,↓reduceIte,WY]
 case' inl =>
  have b1:=z.lo;have b2:=z.hi;have b3:=y.lo;have b4:=y.hi;have e1:au .i64 (0 - v) = -v:=by rw[wrap_i64 aD aD];omega
  have e2:au .i64 (0 - w) = -w:=by rw[wrap_i64 aD aD];omega
  have e3:au .u64 (max v (-v))=ay v:=by rw[br aD aD];omega
  have e4:au .u64 (max w (-w))=ay w:=by rw[br aD aD];omega
  simp only[z.eq,y.eq,z.fr,y.fr,p,r,go_sem,↓reduceIte,e1,e2,e3,e4];refine cX (NT (ay v) (ay w) aD aD) ?_;by_cases D:(ay v:Int)*ay w < 4611686018427387904
  .have hp:0<=(ay v:Int)*ay w:=YB aD aD;have h1:(ay v:Int)*ay w / 18446744073709551616=0:=aD;have I:(ay v:Int)*ay w % 18446744073709551616=(ay v:Int)*ay w:=aD;refine Y3 h1 I D ?_;refine aG (z.eq ▸ Ft n) (by rw[<-z.eq];simp[dR]) rfl ?_;refine Y ?_;refine aG (y.eq ▸ Ft m) (by rw[<-y.eq];simp[dR]) rfl ?_;have hv:=(C rfl).2;have hw:=(E rfl).2;subst hv hw;have B:=CN v w;generalize hQ:(ay v:Int)*ay w=q at *;have G:au .i64 (v.sign*w.sign)=v.sign*w.sign:=by rcases lV v w with h | h | h<;>rw[h]<;>rfl
   have f2:au .i64 q=q:=wrap_i64 aD aD;have f3:-4611686018427387904 < v*w/\v*w < 4611686018427387904:=by rw[<-B];rcases lV v w with h | h | h<;>rw[h]<;>omega
   have f4:au .i64 (v*w)=v*w:=wrap_i64 aD aD;refine Y4 G f2 B f4 ?_;exact fW (jQ f3).symm
  by_cases K:(ay v:Int)*ay w / 18446744073709551616=0
  case' pos =>
   have hp:0<=(ay v:Int)*ay w:=YB aD aD;have I:(ay v:Int)*ay w % 18446744073709551616=(ay v:Int)*ay w:=aD;refine Y3 K I D ?_
  case' neg=>simp only[go_sem,↓reduceIte,WY,K]
 all_goals refine aG (z.eq ▸ rV n) (by rw[<-z.eq];simp[dR]) rfl ?_
 all_goals simp only[go_sem,↓reduceIte,WY]
 all_goals refine aG (y.eq ▸ rV m) (by rw[<-y.eq];simp[dR]) rfl ?_
 all_goals have F:au .i64 ((ae (aO (ay n)):Int)+ae (aO (ay m)))=((ae (aO (ay n))+ae (aO (ay m)):Nat):Int):=by rw[wrap_i64 aD aD];rfl
 all_goals simp only[go_sem,↓reduceIte,F]
 all_goals clear p C r E
 all_goals (
  have ⟨R,A2⟩:=ep (ay n)
  have ⟨S,B2⟩:=ep (ay m)
  clear z y F
  generalize aO (ay n)=X at *
  generalize aO (ay m)=Y at *
  refine ⟨aD,?_⟩
  refine bE (fun N e H=>∃(i:Nat) (o:List Int),i<=ae X/\N=ae X - i/\ae o=ae X+ae Y/\DOk o/\val o=val (X.take i)*val Y/\(∀j,i+ae Y<=j->af o j 0=0)/\H=[ak ⟨2,0,[[.q0 0,.nil]]⟩,ak ⟨1,0,o.map gD⟩] /\
   e=[(4,.ptr 0 0 0 0),(7,.q0 n.sign),(9,.q0 m.sign),(10,dx Y),(11,.sl 1 1 0 0 (ae X+ae Y)),(74,dx X),(75,.q0 (ae X)),(76,.q0 i)])
   ⟨0,aA (ae X+ae Y) 0,aD,rfl,aK,fun q B=>by rw[X7 B];decide,by rw[J6];simp[val],fun j _=>by simp[af,YH];split<;>rfl,rfl,by simp only[go_sem,↓reduceIte];rfl⟩ ?_
  rintro N _ _ ⟨i,o,hi,a0,jD,a,x,f,rfl,rfl⟩
  by_cases A:(i:Int) < ae X
  .refine Y1 A ?_
   refine ⟨aD,?_⟩
   refine bE (fun O e H=>∃(k:Nat) (c:Int) (o:List Int),k<=ae Y/\O=ae Y - k/\ae o=ae X+ae Y/\DOk o/\(0<=c/\c < B32)/\val o+B32 ^ (i+k)*c=val (X.take i)*val Y+B32 ^ i*(af X i 0*val (Y.take k))/\(∀j,i+ae Y<=j->af o j 0=0)/\H=[ak ⟨2,0,[[.q0 0,.nil]]⟩,ak ⟨1,0,o.map gD⟩] /\
    e=[(4,.ptr 0 0 0 0),(7,.q0 n.sign),(9,.q0 m.sign),(10,dx Y),(11,.sl 1 1 0 0 (ae X+ae Y)),(12,.q0 i),(13,.c (.int .u32 (af X i 0))),(14,.c (.int .u64 c)),(74,dx X),(75,.q0 (ae X)),(76,.q0 i),(81,dx Y),(82,.q0 (ae Y)),(83,.q0 k)])
    ⟨0,0,o,aD,rfl,jD,a,aS,by rw[x];simp[val],f,rfl,by simp only[go_sem,↓reduceIte];rfl⟩ ?_
   rintro O _ _ ⟨k,c,o,hk,a1,jD,a,hc,x,f,rfl,rfl⟩
   have U:=A2.getD i
   have V:=B2.getD k
   have hO:=a.getD (i+k)
   simp only[B32] at U V hO hc
   have w1:au .i64 ((i:Int)+k)=((i+k:Nat):Int):=by rw[wrap_i64 aD aD];rfl
   have w2:au .i64 ((k:Int)+1)=((k+1:Nat):Int):=by rw[wrap_i64 aD aD];rfl
   have w3:au .i64 ((i:Int)+1)=((i+1:Nat):Int):=by rw[wrap_i64 aD aD];rfl
   have w4:au .i64 ((i:Int)+ae Y)=((i+ae Y:Nat):Int):=by rw[wrap_i64 aD aD];rfl
   have v1:au .u64 (af X i 0)=af X i 0:=br aD aD
   have v2:au .u64 (af Y k 0)=af Y k 0:=br aD aD
   have v3:au .u64 (af o (i+k) 0)=af o (i+k) 0:=br aD aD
   have pq:=jX U V
   by_cases W:(k:Int) < ae Y
   .generalize T:af X i 0*af Y k 0=l at *
    have v4:au .u64 l=l:=br aD aD
    have v5:au .u64 (l+af o (i+k) 0)=l+af o (i+k) 0:=br aD aD
    have v6:au .u64 (c+(l+af o (i+k) 0))=c+(l+af o (i+k) 0):=br aD aD
    have b:(ah:Int)=0:=rfl
    simp only[go_sem,↓reduceIte,WY,Xb,b,W,w1,w2,v1,v2,v3,T,v4,v5,v6,dc]
    have B:0<=c+(l+af o (i+k) 0)/\c+(l+af o (i+k) 0) < 18446744073709551616:=aD
    refine ⟨aD,aD,aD,aD,aD,aS,O - 1,aD,k+1,(c+(l+af o (i+k) 0)) / 4294967296,o.set (i+k) ((c+(l+af o (i+k) 0)) % 4294967296),aD,aD,by simpa using jD,a.set _ (by simp only[B32];omega),by simp only[B32];omega,Lq aD aD (by rw[T]) x,fun j hj=>?_,rfl,rfl⟩
    rw[Eo aD];exact f j hj
   .have L:k=ae Y:=aD
    subst L
    have v7:au .u32 c=c:=wrap_u32 aD aD
    have b:(ah:Int)=0:=rfl
    refine Z5 b W w1 w3 v7 ?_
    refine ⟨aD,aD,N - 1,aD,i+1,o.set (i+ae Y) c,aD,aD,by simpa using jD,a.set _ hc,Nu aD aD (f _ (WY _)) x,fun j hj=>?_,rfl,rfl⟩
    rw[Eo aD];exact f j aD
  .have J:i=ae X:=aD
   subst J
   have G:au .i64 (n.sign*m.sign)=n.sign*m.sign:=by rcases lV n m with h | h | h<;>rw[h]<;>rfl
   refine Y2 A G ?_
   rw[XP] at x
   have hz:n.sign*m.sign=0->val o=0:=fun h=>by
    rcases Int.mul_eq_zero.1 h with h | h
    .have:n=0:=XM.1 h;rw[x,R,this];simp
    .have:m=0:=XM.1 h;rw[x,S,this];simp
   refine wN 1 0 (ob:=⟨1,0,o.map gD⟩) (by simp[aH]) (m9 o) (yc (n.sign*m.sign) o (lV n m) aD a ar hz) (by rw[XD,XD,Yi,rn (by rw[W4,jD])];rfl) rfl (dR _) ?_
   rw[x,R,S,CN]
   have ⟨v',d',P⟩:=eY (n*m)
   refine Y2 P.eq P.ic ?_
   rw[<-P.eq];exact fW rfl)
def zZ (t:IntKind) (m n:Int):pG t m n=pG t n m:=by unfold pG;rw[BitVec.or_comm]
def NR (h l y:Int) (p:0<=h/\h < y) (q:0<=l/\l < 4294967296) (r:y < 4294967296) :
  a9 prog 166 [.c (.int .u32 h),.c (.int .u32 l),.c (.int .u32 y)] (.bI [.c (.int .u32 ((h*4294967296+l) / y)),.c (.int .u32 ((h*4294967296+l) % y))]):=by
 refine pw func166 ?_;have z:¬y=0:=aD;have a:¬y<=h:=aD;have i:au .u64 h=h:=br aD aD;have j:au .u64 l=l:=br aD aD;have m:au .u64 y=y:=br aD aD;have n:au .u64 (h*4294967296)=h*4294967296:=br aD aD;have o:pG .u64 (h*4294967296) l=h*4294967296+l:=by rw[zZ,show h*4294967296=h*2 ^ 32 from rfl,oN (k:=32) aD aD aD];omega
 have b:(h*4294967296+l) / y < 4294967296:=by refine YS aD ?_;have:(h+1)*4294967296<=y*4294967296:=Xj aD aS;omega
 have x:0<=(h*4294967296+l) / y:=Zg aD aD;have w:0<=(h*4294967296+l) % y:=YK _ aD;have e:(h*4294967296+l) % y < y:=Yk _ aD;have f:(h*4294967296+l).tdiv y=(h*4294967296+l) / y:=aaD aD;have g:(h*4294967296+l).tmod y=(h*4294967296+l) % y:=ZX aD;refine Z7 z a i j m n o ?_;exact ⟨aS,z,z,aV (by rw[f,g,br x aD,wrap_u32 x b,wrap_u32 w aD]) rfl⟩
def et:List Int->Int->List Int × Int
 | [],_=>([],0)
 | d::r,y=>(((et r y).2*B32+d) / y::(et r y).1,((et r y).2*B32+d) % y)
def KM (x:List Int) (y:Int):(et x y).1.length=ae x:=by
 induction x with
 | nil=>rfl
 | cons d r h=>simp[et,h]
def wV {y:Int} (k:0 < y):∀{x:List Int},DOk x->val x=val (et x y).1*y+(et x y).2/\DOk (et x y).1/\0<=(et x y).2/\(et x y).2 < y
 | [],_=>⟨by simp[et,val],.nil,by simp[et],by simpa[et] using k⟩
 | d::r,h=>by
  have ⟨a,b,c,f⟩:=wV k h.tail;have g:=h.head;simp only[et,val];generalize (et r y).2=s at *;generalize (et r y).1=q at *;have e:=YF (s*B32+d) y;have w:0<=s*B32+d:=by simp only[B32] at *;omega
  have z:s*B32+d < B32*y:=by have:(s+1)*B32<=y*B32:=Xj aD aS;rw[Yo,YO,Yg y] at this;omega
  refine ⟨?_,.cons ⟨Zg w aD,YS k z⟩ b,YK _ aD,Yk _ k⟩;rw[a,Yo,Xw B32,XN];generalize val q*y=p;rw[Yg y] at e;rw[Yg s B32] at *;omega
def IQ {x:List Int} {y:Int} {i:Nat} (h:i < ae x):et (x.drop i) y=(((et (x.drop (i+1)) y).2*B32+af x i 0) / y::(et (x.drop (i+1)) y).1,((et (x.drop (i+1)) y).2*B32+af x i 0) % y):=by rw[XA h,et,show af x i 0=x[i] by simp[af,h]]
def qJ {id ver:Nat} {r w:AV} {H:aE} {ob:bC} (z:aH H id ver=ak ob) (y:ob.xs.all (fun x=>x.all b8)=aq) (h:Fin 0 (dT id ver ob.k ob.xs r) (H.set id an) w []):Fin 0 r H w [] :=
 (uP z y).trans h
def NY (x:List Int) (y:Int) (X:ae x < 4294967296) (g:DOk x) (l:0 < y/\y < 4294967296) (f:Bool) :
  a9 prog 136 [.seq 1 f (cZ x),.c (.int .u32 y)] (.bI [dx (et x y).1,.c (.int .u32 (et x y).2)]):=by
 refine pw func136 ?_;refine Y ?_;refine ⟨aD,?_⟩;rw[wrap_i64 aD aD];refine bE (fun m e H=>∃(j:Nat) (o:List Int),j<=ae x/\m=j/\ae o=ae x/\o.drop j=(et (x.drop j) y).1/\H=[ak ⟨1,0,o.map gD⟩] /\
  e=[(0,.seq 1 f (cZ x)),(1,.c (.int .u32 y)),(6,.sl 1 0 0 0 (ae x)),(7,.c (.int .u32 (et (x.drop j) y).2)),(8,.q0 ((j:Int) - 1))])
  ⟨ae x,aA (ae x) 0,WY _,rfl,aK,by simp[et],rfl,by simp only[go_sem,↓reduceIte,YX,et]⟩ ?_;rintro m _ _ ⟨j,o,v,K,jD,w,rfl,rfl⟩;by_cases n:j=0
 .subst n;refine Y ?_;refine ⟨fun h=>aD,fun _=>?_⟩;have q:o=(et x y).1:=bk w;refine qJ (id:=0) (ver:=0) (ob:=⟨1,0,o.map gD⟩) (by simp[aH]) (m9 o) ?_;have e:dT 0 0 1 (o.map gD) (.bI [.sl 1 0 0 0 (ae x),.c (.int .u32 (et x y).2)]) = .bI [dx o,.c (.int .u32 (et x y).2)]:=by simp only[dT,oF,fX,XD,Yi,Yx];rw[<-jD,<-W4 (f:=gD),XP];simp
  show Fin 0 (dT 0 0 1 (o.map gD) _) _ _ _;rw[e];exact aV (by rw[q]) rfl
 .have b:az ((j:Int) - 1)=j - 1:=aD;have a:(0:Int)<=(j:Int) - 1:=aD;have r:au .i64 ((j:Int) - 1 - 1)=((j - 1:Nat):Int) - 1:=by rw[wrap_i64 aD aD];omega
  have ⟨_,_,s,t⟩:=wV l.1 (g.drop j);have p:=g.getD (j - 1);have k:(ah:Int)=0:=rfl;have z:=IQ (x:=x) (y:=y) (i:=j - 1) aD;rw[show j - 1+1=j by omega] at z;refine Y3 b a k ?_;refine ⟨aD,aG (NR _ _ y ⟨s,t⟩ p l.2) rfl rfl ?_⟩;refine Z4 b a r k ?_;refine ⟨aD,aD,j - 1,aD,j - 1,o.set (j - 1) (((et (x.drop j) y).2*4294967296+af x (j - 1) 0) / y),aD,rfl,bk jD,?_,rfl,by rw[z]⟩;rw[z,XA (by rw[Xa];omega:j - 1 < ae (o.set (j - 1) (((et (x.drop j) y).2*4294967296+af x (j - 1) 0) / y))),aau,Zq (by omega),show j - 1+1=j by omega,w]
section
variable {P:Program} {I:Imm} {β β1:Bet} {w:World}
section out
variable {ρ:Nat->Nat} (hβ:∀id ver B,β1 id ver=some B->β (ρ id) ver=some B)
include hβ
end out
section inn
variable {ρ:Nat->Nat} {n:Nat} (hβ:∀id ver B,id < n->β (ρ id) ver=some B->β1 id ver=some B)
include hβ
end inn
def bK.fin {f:FuncId} {args:List AV} {H y z:aE} {r a:AV} (h:bK P f args H r y) (g:Fin (ae H) r y a z):bK P f args H a z:=by have ⟨i,j⟩:=h;have ⟨R,x,hR⟩:=g;refine ⟨i,fun I β w t s k=>(j I β w t s k).mono fun C v l=>?_⟩;have ⟨rv,b,W,e,K,p,m⟩:=l;have ⟨c,A,q,o,X⟩:=x b W v p;exact ⟨rv,c,A,e,X I β H w (WY _) s.gw K,q,o _ _ _ hR m⟩
end
def iw:List Int->Int->Int->List Int
 | [],_,c=>[c]
 | d::r,p,c=>((d*p+c) % B32)::iw r p ((d*p+c) / B32)
def ue (x:List Int) (p c:Int):ae (iw x p c)=ae x+1:=by
 induction x generalizing c with
 | nil=>rfl
 | cons d r h=>simp[iw,h]
def vB {p:Int} (w:0 < p/\p<=B32):∀{x:List Int} {c:Int},DOk x->0<=c/\c < p->val (iw x p c)=val x*p+c/\DOk (iw x p c)
 | [],c,_,y=>⟨by simp[iw,val],.cons aD .nil⟩
 | d::r,c,h,y=>by
  have z:=h.head;have e:0<=d*p:=YB z.1 aD;have f:d*p+p<=B32*p:=by have:(d+1)*p<=B32*p:=Xj aD aD;rw[Yo,YO] at this;exact this
  have k:0<=(d*p+c) / B32/\(d*p+c) / B32 < p:=by refine ⟨Zg aD aS,YS aS (by rw[Yg p B32];omega)⟩
  have ⟨a,b⟩:=vB w h.tail k;simp only[iw,val,a];refine ⟨?_,.cons ⟨YK _ aS,Yk _ aS⟩ b⟩;rw[Yo,Xw,XN];generalize val r*p=q;simp only[B32];omega
def LH {x:List Int} {p c:Int} {i:Nat} (h:i < ae x):iw (x.drop i) p c=((af x i 0*p+c) % B32)::iw (x.drop (i+1)) p ((af x i 0*p+c) / B32):=by rw[XA h,iw,show af x i 0=x[i] by simp[af,h]]
def OU {c d:Int} {n:Nat} (m:n < 32) (l:0<=d/\d < 4294967296) (i:0<=c/\c < 2 ^ n):pG .u32 c (d*2 ^ n % 4294967296)=(d*2 ^ n+c) % 4294967296/\d*2 ^ n / 4294967296=(d*2 ^ n+c) / 4294967296:=by
 obtain ⟨a,rfl⟩:∃a:Nat,c=a:=⟨az c,aD⟩;obtain ⟨b,rfl⟩:∃b:Nat,d=b:=⟨az d,by omega⟩;have g:a < 2 ^ n:=by have:=i.2;exact_mod_cast this
 have y:(4294967296:Nat)=2 ^ (32 - n)*2 ^ n:=by rw[<-aan,show 32 - n+n=32 by omega]
 have z:((b:Int)*2 ^ n)=((b*2 ^ n:Nat):Int):=by rw[YT,Zf];rfl
 have k:b*2 ^ n % 4294967296=b % 2 ^ (32 - n)*2 ^ n:=by rw[y,Nat.mul_mod_mul_right]
 have j:b*2 ^ n % 4294967296+a < 4294967296:=by rw[k];have e:b % 2 ^ (32 - n) < 2 ^ (32 - n):=aaz _ (abf aS);have f:(b % 2 ^ (32 - n)+1)*2 ^ n<=2 ^ (32 - n)*2 ^ n:=XK _ e;rw[XF,Nat.one_mul,<-y] at f;omega
 rw[z];have w:((b*2 ^ n:Nat):Int) % 4294967296=((b*2 ^ n % 4294967296:Nat):Int):=rfl;have x:=aa8 g (b % 2 ^ (32 - n));rw[Nat.shiftLeft_eq,<-k] at x;have h:a < 4294967296:=aD;rw[w,Jt h (by omega),Nat.or_comm,<-x];generalize b*2 ^ n=q at *;omega
def xR (x:List Int) (n:Nat) (M:ae x < 4294967295) (A:DOk x) (B:n < 32) (f:Bool) :
  bK prog 168 [.seq 1 f (cZ x),.q0 n] [] (.sl 1 0 0 0 (ae x+1)) [ak ⟨1,0,cZ (iw x (2 ^ n) 0)⟩]:=by
 refine cw (H:=[]) func168 ?_;have q:au .i64 ((ae x:Int)+1)=((ae x+1:Nat):Int):=by rw[wrap_i64 (by omega) (by omega)];rfl
 refine Y1 q ?_;refine ⟨aD,?_⟩;have l:(0:Int) < 2 ^ n:=abg aS;have m:(2:Int) ^ n<=2147483648:=by
  have:(2:Nat) ^ n<=2 ^ 31:=ZY aS aD;have e:(2:Int) ^ n=((2 ^ n:Nat):Int):=by rw[Zf];rfl
  rw[e];omega
 refine bE (fun r e H=>∃(i:Nat) (o:List Int),i<=ae x/\r=ae x - i/\ae o=ae x+1/\(0<=af o i 0/\af o i 0 < 2 ^ n)/\o.take i++iw (x.drop i) (2 ^ n) (af o i 0)=iw x (2 ^ n) 0/\H=[ak ⟨1,0,o.map gD⟩] /\
  e=[(1,.q0 n),(5,.sl 1 0 0 0 (ae x+1)),(13,.seq 1 f (cZ x)),(14,.q0 (ae x)),(15,.q0 i)])
  ⟨0,aA (ae x+1) 0,aD,rfl,aK,bk l,aK,rfl,by simp only[go_sem,↓reduceIte];rfl⟩ ?_;rintro r _ _ ⟨i,o,J,L,jD,W,h,rfl,rfl⟩;by_cases z:(i:Int) < ae x
 .have g:=A.getD i;simp only[B32] at g;have k:(ah:Int)=0:=rfl;have D:=ws i;have F:au .u64 (af x i 0)=af x i 0:=br aD aD;have w:min n 64=n:=aD;have K:0<=af x i 0*2 ^ n:=YB g.1 aD;have I:af x i 0*2 ^ n<=4294967296*2147483648:=Int.mul_le_mul aD m aD aS;have G:au .u64 (af x i 0*2 ^ n)=af x i 0*2 ^ n:=br K aD;obtain ⟨t,v⟩:=OU B g W;have a:=LH (x:=x) (p:=2 ^ n) (c:=af o i 0) (i:=i) (by omega);refine Z8 z D F G w k dc t ?_;have y:0<=(af x i 0*2 ^ n+af o i 0) / 4294967296/\(af x i 0*2 ^ n+af o i 0) / 4294967296 < 2 ^ n:=by have X:(af x i 0+1)*2 ^ n<=4294967296*2 ^ n:=Xj (by omega) (by omega);rw[Yo,YO] at X;exact ⟨Zg (by omega) (by decide),YS (by decide) (by rw[Yg (2 ^ n)];omega)⟩
  simp only[B32] at a;rw[v,ZG y.1 (by omega)];generalize (af x i 0*2 ^ n+af o i 0) / 4294967296=cc at *;generalize (af x i 0*2 ^ n+af o i 0) % 4294967296=b at *;have s:af ((o.set i b).set (i+1) cc) (i+1) 0=cc:=by simp[af,show i+1 < ae o by omega]
  have E:((o.set i b).set (i+1) cc).take (i+1)=o.take i++[b]:=by rw[Zd (WY _),XW (by rw[Xa];omega),Zd (WY _),aau]
  refine ⟨aD,aD,aD,aD,aD,aD,aS,aD,by rw[Xa];omega,r - 1,aD,i+1,(o.set i b).set (i+1) cc,aD,aD,by rw[Xa,Xa,jD],by rw[s];exact y,?_,rfl,rfl⟩;rw[s,E,<-h,a,XC];rfl
 .refine Y1 z ?_;have j:i=ae x:=aD;subst j;rw[YX,iw] at h;have C:o=iw x (2 ^ n) 0:=by
   rw[<-h];have:o.drop (ae x)=[af o (ae x) 0]:=by rw[XA (by omega),ZN (by omega)];simp[af,show ae x < ae o by omega]
   rw[<-this,aas]
  rw[<-C];exact eH (Wk1.refl _)
def Ke (x:List Int) (n:Nat) (y:ae x < 4294967295) (h:DOk x) (k:n < 32) (f:Bool) :
  a9 prog 168 [.seq 1 f (cZ x),.q0 n] (dx (iw x (2 ^ n) 0)) :=
 (xR x n y h k f).fin (yr (by simp[ue]) (m9 _))
def Qj (n b:Int) (w:0<=b/\b < 4611686018427387904):a9 prog 93 [fN n,.q0 b] (.bI (if -b<=n/\n<=b then [.q0 n,.v0 aq] else [.q0 0,.v0 ar])):=by
 refine pw func93 ?_;have ⟨v,d,z⟩:=eY n;rcases z.cases with ⟨rfl,rfl⟩ | ⟨rfl,rfl,a⟩
 .have e:au .i64 (0 - b) = -b:=by rw[wrap_i64 aD aD];omega
  by_cases h:b < v
  .rw[WX aD];simp only[z.eq,z.fr,go_sem,↓reduceIte,h];exact aV rfl rfl
  .by_cases x:v < -b
   .rw[WX aD];simp only[z.eq,z.fr,go_sem,↓reduceIte,W3,h,x,e];exact aV rfl rfl
   .rw[W0 aD];simp only[z.eq,z.fr,go_sem,↓reduceIte,W3,h,x,e];exact aV rfl rfl
 .rw[WX aD];have k:aO (ay n)≠[]:=fun y=>by rw[fU] at y;omega
  simp only[z.eq,z.fr,go_sem,↓reduceIte];exact ⟨k,aV rfl rfl⟩
def dk (n:Nat):Nat:=if n=0 then 0 else n.log2+1
def Jh:∀i,i < 256->HI[i]?=ak (dk i):=by decide +kernel
def Jc (h:0<=n/\n < 256):Ko HI (.c (.int t n)) K=K (.c (.int .u8 (dk (az n)))):=by unfold Ko;simp only[W0 h.1,Jh (az n) aD,XL,pF]
def qZ (h:2 ^ k<=n):dk n=k+dk (n / 2 ^ k):=by
 have z:0 < 2 ^ k:=abf aS;have x:n≠0:=aD;have y:n / 2 ^ k≠0:=dp (Nat.div_pos h z);unfold dk;rw[WX x,WX y];have e:n.log2=k+(n / 2 ^ k).log2:=by
  have a:=Nat.log2_self_le y;have b:=Nat.lt_log2_self (n:=n / 2 ^ k);refine (Nat.log2_eq_iff x).2 ⟨?_,?_⟩
  .rw[aan,abR];exact XX (XK _ a) (Nat.div_mul_le_self _ _)
  .rw[show k+(n / 2 ^ k).log2+1=((n / 2 ^ k).log2+1)+k by omega,aan];exact (abH z).1 b
 omega
def UX:Int.fdiv x (2 ^ min (Int.toNat 16) 32)=x / 65536:=by rw[show ((2:Int) ^ min (Int.toNat 16) 32)=65536 from rfl,YZ _ aS]
def Wf:Int.fdiv x (2 ^ min (Int.toNat 8) 32)=x / 256:=by rw[show ((2:Int) ^ min (Int.toNat 8) 32)=256 from rfl,YZ _ aS]
attribute [go_sem] UX Wf
def NS (x:Int) (p:0<=x/\x < 4294967296):a9 prog 180 [.c (.int .u32 x)] (.q0 (dk (az x))):=by
 refine pc func180 qf ?_;unfold qf;have l:∀y:Int,0<=y->y < 256->au .u8 y=y:=fun y w z=>FG rfl w z;have j:∀y:Nat,y<=64->au .i64 (y:Int)=y:=fun y h=>wi;have e:∀y:Int,0<=y->y < 256->dk (az y)<=8:=fun y w z=>by
  have:∀i,i < 256->dk i<=8:=by decide +kernel
  exact this _ aD
 have fin:∀(c a y:Int),c=a->0<=y->y < 256->0<=a->a<=24->a+(dk (az y):Int)=dk (az x)->∀H,Fin 0 (.q0 (au .i64 (c+au .i64 (dk (az y):Int)))) H (.q0 (dk (az x))) []:=fun c a y f w z m o g H=>by subst f;have:=e y w z;exact aV (by rw[wrap_i64 (n:=(dk (az y):Int)) (by omega) (by omega),wrap_i64 (by omega) (by omega),g]) rfl
 refine Y ?_;refine ⟨fun w=>⟨aS,fun z=>⟨aS,?_⟩,fun z=>?_⟩,fun w=>⟨fun z=>⟨aS,?_⟩,fun z=>?_⟩⟩
 all_goals rw[l _ (by omega) (by omega),Jc (by omega)]
 all_goals simp only[go_sem,↓reduceIte]
 .refine fin _ 24 (x / 65536 / 256) rfl aD aD aD aD ?_ _;have b:=qZ (n:=az x) (k:=24) aD;rw[b,show az x / 2 ^ 24=az (x / 65536 / 256) by omega];omega
 .refine fin _ 16 (x / 65536) rfl aD aD aD aD ?_ _;have b:=qZ (n:=az x) (k:=16) aD;rw[b,show az x / 2 ^ 16=az (x / 65536) by omega];omega
 .refine fin _ 8 (x / 256) rfl aD aD aD aD ?_ _;have b:=qZ (n:=az x) (k:=8) aD;rw[b,show az x / 2 ^ 8=az (x / 256) by omega];omega
 .exact fin _ 0 x rfl aD aD aD aD aD _
def iT {l:List Int} {i:Nat} (h:i < ae l):val (l.drop i)=af l i 0+B32*val (l.drop (i+1)):=by rw[XA h,val,show af l i 0=l[i] by simp[af,h]]
def fD (l:List Int) (h:i<=ae l):val l=val (l.take i)+B32 ^ i*val (l.drop i):=by
 conv=>lhs;rw[<-aas i l]
 rw[vH,XI,XV h]
def KP (c:V=(x*B32+z)*p+w) (e:W=(top*B32+y)*p+a) (i:top=q*x+r) (l:0 < p) (k:0<=w) (f:a < p)
  (g:0<=q) (h:r*B32+y < q*z):W < q*V:=by
 have b:(top*B32+y+1)*p<=(q*(x*B32+z))*p:=by refine Xj ?_ aD;rw[i,XN,Yo,<-Xw q x];omega
 have j:=YB g k;rw[c,XN,<-Xw,e];rw[Yo,YO] at b;omega
def Cs {q r k x z p W V top y a:Int} (e:V=(k*B32+x)*p+y) (s:W=(top*B32+z)*p+a) (j:top=q*k+r) (t:0 < p) (f:0<=y/\y < p) (g:0<=a)
  (i:0<=q/\q < B32) (w:1<=k) (l:0<=x) (h:q*x<=r*B32+z):q*V < W+V:=by
 have m:(q*(k*B32+x))*p<=(top*B32+z)*p:=by refine Xj ?_ aD;rw[j,XN,Yo,<-Xw q k];omega
 have n:q*y<=q*p:=Xs aD i.1;have b:(q+1)*p<=B32*p:=Xj (by omega) (by omega);have c:(1*B32)*p<=(k*B32+x)*p:=by refine Xj ?_ (by omega);have:=Xj w (show (0:Int)<=B32 by decide);omega
 rw[Yo,YO] at b;rw[YO] at c;have o:q*V<=(top*B32+z)*p+q*p:=by rw[e,XN,<-Xw];omega
 omega
def mc:List Int->Int->List Int
 | [],_=>[]
 | d::r,p=>((d+B32*r.headD 0) / p) % B32::mc r p
def NG (l:List Int) (p:Int):ae (mc l p)=ae l:=by
 induction l with
 | nil=>rfl
 | cons d r h=>simp[mc,h]
def Fa {p z:Int} (w:0 < p) (b:B32=p*z):∀{l:List Int},DOk l->val (mc l p)=val l / p/\DOk (mc l p)
 | [],_=>by simp[mc,val];exact .nil
 | d::r,h=>by
  have ⟨o,q⟩:=Fa w b h.tail;have H:=h.head;simp only[mc,val,o];refine ⟨?_,.cons ⟨YK _ aS,Yk _ aS⟩ q⟩;have j:∃t,val r=r.headD 0+B32*t:=by
   cases r with
   | nil=>exact ⟨0,by simp[val]⟩
   | cons x s=>exact ⟨val s,rfl⟩
  have ⟨t,K⟩:=j;generalize r.headD 0=a at *;generalize val r=y at *;have c:=YF y p;have v:=YK y (show p≠0 by omega);have r1:=Yk y w;generalize m:y / p=Y at *;generalize n:y % p=ρ at *;have e:d+B32*y=(d+B32*ρ)+p*(B32*Y):=by rw[<-c,XN,ZH];omega
  rw[e,abI _ _ (by omega:p≠0)];have f:a=ρ+p*(Y - z*t):=by rw[Zt,<-Xw,<-b];omega
  have g:d+B32*a=(d+B32*ρ)+p*(B32*(Y - z*t)):=by rw[f,XN,ZH];omega
  rw[g,abI _ _ (by omega:p≠0),Int.add_mul_emod_self_left];have i:(d+B32*ρ) / p < B32:=by refine YS w ?_;have:B32*(ρ+1)<=B32*p:=Xs aD aS;rw[XN,ZO] at this;omega
  have k:0<=(d+B32*ρ) / p:=Zg (by have:=YB (show (0:Int)<=B32 by decide) v;omega) (by omega);rw[ZG k i]
def JM (u:List Int) (p:Int) (i:Nat):(mc u p).drop i=mc (u.drop i) p:=by
 induction u generalizing i with
 | nil=>simp[mc]
 | cons d r h=>cases i with
  | zero=>rfl
  | succ i=>simp only[List.drop_succ_cons,mc];exact h i
def LI {l:List Int} {p:Int} {i:Nat} (h:i < ae l):mc (l.drop i) p=((af l i 0+B32*af l (i+1) 0) / p) % B32::mc (l.drop (i+1)) p:=by rw[XA h,mc,uT,show af l i 0=l[i] by simp[af,h]]
def uH (a b:Nat):B32 ^ (a+b)=B32 ^ a*B32 ^ b:=Int.pow_add _ _ _
def zi {u u':List Int} {k:Nat} {X:Int} (y:k<=ae u) (x:k<=ae u') (z:u'.take k=u.take k) (h:val u'=val u+B32 ^ k*X):val (u'.drop k)=val (u.drop k)+X:=by
 rw[fD u y,fD u' x,z] at h;have w:=gH k;have:B32 ^ k*val (u'.drop k)=B32 ^ k*(val (u.drop k)+X):=by rw[XN];omega
 exact Int.eq_of_mul_eq_mul_left aD this
def Kf {u v:List Int} {k:Nat} (x:DOk u) (hv:DOk v) (g:k+ae v+1<=ae u) (h:val (u.drop (k+1)) < val v) :
  val (u.drop k) < B32 ^ (ae v+1)/\val (u.drop (k+ae v+1))=0/\val (u.drop k) < B32*val v:=by
 have a:=iT (l:=u) (i:=k) (by omega);have f:=x.getD k;have b:=iM hv;have y:val (u.drop k) < B32 ^ (ae v+1):=by rw[YR,Yg];have:B32*(val (u.drop (k+1))+1)<=B32*B32 ^ ae v:=Xs (by omega) (by decide);rw[XN,ZO] at this;omega
 refine ⟨y,?_,?_⟩
 .have z:=fD (u.drop k) (i:=ae v+1) (by rw[Zy];omega);rw[Ya] at z;have c:=cp ((x.drop k).take (ae v+1));have e:=cp (x.drop (k+(ae v+1)));rw[show k+ae v+1=k+(ae v+1) by omega];have j:=gH (ae v+1);generalize B32 ^ (ae v+1)=p at *;rcases Za 0 (val (u.drop (k+(ae v+1)))) with w | w
  .have:p*1<=p*val (u.drop (k+(ae v+1))):=Xs aD aD;omega
  .omega
 .have:B32*(val (u.drop (k+1))+1)<=B32*val v:=Xs (by omega) (by decide);rw[XN,ZO] at this;omega
def C8 {u:List Int} {k n:Nat} (y:DOk u) (z:k+n<=ae u) (h:val (u.drop (k+n))=0):val (u.drop k) < B32 ^ n:=by have x:=fD (u.drop k) (i:=n) (by rw[Zy];omega);rw[Ya,h,Zk,aav] at x;rw[x];have:=iM ((y.drop k).take n);rw[XI,Zy,XV aD] at this;exact this
def LK {u u' v:List Int} {k:Nat} {q b:Int} (f:DOk u) (x:DOk u') (hv:DOk v) (a:k+ae v+1<=ae u) (j:ae u'=ae u) (h:val (u.drop (k+1)) < val v)
  (c:u'.take k=u.take k) (w:u'.drop (k+ae v+1)=u.drop (k+ae v+1)) (i:0<=b/\b<=1) (y:val u'=val u - B32 ^ k*(q*val v)+B32 ^ (k+ae v+1)*b) :
  val (u'.drop k)=val (u.drop k) - q*val v+B32 ^ (ae v+1)*b/\(b=0->q*val v<=val (u.drop k))/\(b=1->val (u.drop k) < q*val v):=by
 have ⟨o,g,p⟩:=Kf f hv a h;have e:val u'=val u+B32 ^ k*(B32 ^ (ae v+1)*b - q*val v):=by rw[y,Zt,<-Xw (B32 ^ k) (B32 ^ (ae v+1)),<-uH,show k+(ae v+1)=k+ae v+1 by omega];omega
 have z:=zi (by omega) (by omega) c e;have l:=cp (x.drop k);have m:=C8 (u:=u') (k:=k) (n:=ae v+1) x (by omega) (by rw[<-XY,w];exact g);refine ⟨aD,?_,?_⟩
 .rintro rfl;rw[Zk] at z;omega
 .rintro rfl;rw[ZO] at z;omega
def Kt (x:DOk h) (hv:DOk v) (l:k+ae v+1<=ae u') (m:ae h=ae u')
  (b:h.take k=u'.take k) (a:val (h.drop (k+ae v+1))=0) (j:0<=c/\c<=1) (y:val h=val u'+B32 ^ k*val v - B32 ^ (k+ae v+1)*c)
  (i:val (u'.drop k)=X+B32 ^ (ae v+1)) (f:X < 0) (g:0<=X+val v):val (h.drop k)=X+val v:=by
 have e:val h=val u'+B32 ^ k*(val v - B32 ^ (ae v+1)*c):=by rw[y,Zt,<-Xw (B32 ^ k) (B32 ^ (ae v+1)),<-uH,show k+(ae v+1)=k+ae v+1 by omega];omega
 have w:=zi (by omega) (by omega) b e;have o:=cp (x.drop k);have p:=C8 (u:=h) (k:=k) (n:=ae v+1) x aD (by rw[<-XY];exact a);have z:c=0\/c=1:=aD;rcases z with rfl | rfl
 .rw[Zk] at w;omega
 .rw[ZO] at w;omega
def vI {u:List Int} {j:Nat} {y t b:Int} (k:j < ae u) (h:y=af u j 0 - t+B32*b):val (u.set j y)=val u+B32 ^ j*(B32*b - t):=by rw[Cf k,h];congr 2;omega
def OG (h:-B32<=x/\x < B32):x % B32=x+B32*(if x < 0 then 1 else 0):=by simp only[B32] at *;split<;>omega
def FE (h:-B32<=x/\x < B32):(x % 18446744073709551616) % 4294967296=x % B32/\x % 18446744073709551616 / 9223372036854775808=if x < 0 then 1 else 0:=by simp only[B32] at *;split<;>omega
def Nt {u ui v:List Int} {k i:Nat} {q c b d p x:Int} (f:DOk ui) (H:k+i < ae ui) (s:i < ae v) (g:d=af v i 0) (X:0<=q/\q < B32) (hv:DOk v)
  (r:0<=c/\c < B32) (C:0<=b/\b<=1) (z:val ui=val u - B32 ^ k*(q*val (v.take i))+B32 ^ (k+i)*(c+b))
  (K:p=q*d+c) (A:x=af ui (k+i) 0 - p % B32 - b) :
  (0<=p/\p < 18446744073709551616)/\(0<=p / B32/\p / B32 < B32)/\(-B32<=x/\x < B32)/\val (ui.set (k+i) (x % B32))=val u - B32 ^ k*(q*val (v.take (i+1)))+B32 ^ (k+(i+1))*(p / B32+if x < 0 then 1 else 0):=by
 have h:=hv.getD i;rw[<-g] at h;have B:=jX (a:=q) (b:=d) (bk X) (bk h);have D:=f.getD (k+i);have e:0<=p/\p < 18446744073709551616:=by simp only[B32] at r;omega
 have w:-B32<=x/\x < B32:=by simp only[B32] at *;omega
 refine ⟨e,by simp only[B32];omega,w,?_⟩;have W:=vI (u:=ui) (j:=k+i) (y:=x % B32) (t:=p % B32+b) (b:=if x < 0 then 1 else 0) H (by rw[OG w,A];omega);rw[W,z,dH s,<-g,<-XY,YR];have l:B32*(p / B32)=p - p % B32:=dp (YF p B32);generalize (if x < 0 then (1:Int) else 0)=n;have m:B32 ^ k*(q*(val (v.take i)+B32 ^ i*d))=B32 ^ k*(q*val (v.take i))+B32 ^ (k+i)*(q*d):=by rw[XN,XN,uH,ZH q,<-Xw (B32 ^ k) (B32 ^ i)]
 rw[m];generalize B32 ^ (k+i)=P;have o:P*B32*(p / B32+n)=P*(B32*(p / B32)+B32*n):=by rw[Xw,XN]
 rw[o,l,K];simp only[XN,Zt];omega
def Ns {u ui:List Int} {k m:Nat} {q c b x V:Int} (w:DOk ui) (a:k+m < ae ui) (i:0<=c/\c < B32) (g:0<=b/\b<=1) (h:val ui=val u - B32 ^ k*(q*V)+B32 ^ (k+m)*(c+b)) (f:x=af ui (k+m) 0 - c - b) :
  (-B32<=x/\x < B32)/\val (ui.set (k+m) (x % B32))=val u - B32 ^ k*(q*V)+B32 ^ (k+m+1)*(if x < 0 then 1 else 0):=by
 have l:=w.getD (k+m);have z:-B32<=x/\x < B32:=by simp only[B32] at *;omega
 refine ⟨z,?_⟩;have e:=vI (u:=ui) (j:=k+m) (y:=x % B32) (t:=c+b) (b:=if x < 0 then 1 else 0) a (by rw[OG z,f];omega);rw[e,h,YR,Zt,Xw];omega
def MG {u ui v:List Int} {k i:Nat} {c s:Int} (z:k+i < ae ui) (y:i < ae v) (h:val ui=val u+B32 ^ k*val (v.take i) - B32 ^ (k+i)*c) (w:s=af ui (k+i) 0+af v i 0+c) :
  val (ui.set (k+i) (s % B32))=val u+B32 ^ k*val (v.take (i+1)) - B32 ^ (k+(i+1))*(s / B32):=by
 have x:s % B32=af ui (k+i) 0 - (-(af v i 0+c))+B32*(-(s / B32)):=by have:=YF s B32;rw[ZZ];omega
 rw[vI z x,h,dH y,<-XY,YR,XN (B32 ^ k),<-Xw (B32 ^ k) (B32 ^ i),<-uH,Xw,Zt,ZZ,ZZ,ZZ,XN];omega
def MF {u ui:List Int} {k m:Nat} {c s V:Int} (y:k+m < ae ui) (h:val ui=val u+B32 ^ k*V - B32 ^ (k+m)*c) (z:s=af ui (k+m) 0+c) :
  val (ui.set (k+m) (s % B32))=val u+B32 ^ k*V - B32 ^ (k+m+1)*(s / B32):=by
 have x:s % B32=af ui (k+m) 0 - (-c)+B32*(-(s / B32)):=by have:=YF s B32;rw[ZZ];omega
 rw[vI y x,h,YR,Xw,Zt,ZZ,ZZ,ZZ];omega
def Cl (h:x < 4294967296):dk x<=32:=by
 unfold dk;split
 .omega
 .rename_i y;have:=(Nat.log2_lt y (k:=32)).2 aD;omega
def Ag (x:Int) (h:0<=x/\x < 4294967296):a9 prog 167 [.c (.int .u32 x)] (.q0 ((32 - dk (az x):Nat):Int)):=by
 refine pw func167 ?_;have k:=Cl (x:=az x) aD;have e:au .i64 (32 - (dk (az x):Int))=((32 - dk (az x):Nat):Int):=by rw[wrap_i64 aD aD];omega
 refine Y ?_;refine cX (NS x h) ?_;refine Y1 e ?_;exact aV rfl rfl
def GP (z:x≠0) (h:x < 4294967296):2147483648<=x*2 ^ (32 - dk x)/\x*2 ^ (32 - dk x) < 4294967296/\32 - dk x < 32:=by
 have w:=Cl h;have e:dk x=x.log2+1:=by unfold dk;rw[WX z]
 have a:=Nat.log2_self_le z;have b:=Nat.lt_log2_self (n:=x);have k:(2147483648:Nat)=2 ^ x.log2*2 ^ (32 - dk x):=by rw[<-aan,show x.log2+(32 - dk x)=31 by omega]
 have y:(4294967296:Nat)=2 ^ (x.log2+1)*2 ^ (32 - dk x):=by rw[<-aan,show x.log2+1+(32 - dk x)=32 by omega]
 refine ⟨?_,?_,aD⟩
 .rw[k];exact XK _ a
 .rw[y];exact Nat.mul_lt_mul_of_pos_right b (abf aS)
def mT:Nat->Int->List Int
 | 0,_=>[]
 | k+1,v=>v % B32::mT k (v / B32)
def B8:∀{l:List Int},DOk l->l=mT (ae l) (val l)
 | [],_=>rfl
 | d::r,h=>by have k:=B8 h.tail;have x:=h.head;simp only[XG,mT,val];simp only[B32] at *;rw[show (d+4294967296*val r) % 4294967296=d by omega,show (d+4294967296*val r) / 4294967296=val r by omega,<-k]
def EO (k:Nat) (v:Int):ae (mT k v)=k:=by
 induction k generalizing v with
 | zero=>rfl
 | succ k h=>simp[mT,h]
def GF (k:Nat) (v:Int):DOk (mT k v):=by
 induction k generalizing v with
 | zero=>exact .nil
 | succ k h=>exact .cons ⟨YK _ aS,Yk _ aS⟩ (h _)
def z8:∀{k:Nat} {v:Int},0<=v->v < B32 ^ k->val (mT k v)=v
 | 0,v,x,h=>by simp at h;simp[mT,val];omega
 | k+1,v,x,h=>by have:=z8 (k:=k) (v:=v / B32) (Zg x aS) (YS aS (by rw[YR] at h;exact h));simp only[mT,val,this];have:=YF v B32;omega
def HO (o:DOk y) (O:2<=ae y) (R:af y (ae y - 1) 0≠0) (J:n=32 - dk (az (af y (ae y - 1) 0))) :
  ∃v,dC (iw y (2 ^ n) 0)=v/\ae v=ae y/\DOk v/\val v=val y*2 ^ n/\2147483648<=af v (ae v - 1) 0:=by
 have F:=o.getD (ae y - 1);simp only[B32] at F;generalize s:af y (ae y - 1) 0=t at *;have ⟨X,l,W⟩:=GP (x:=az t) aD aD;rw[<-J] at X l W;have p:(0:Int) < 2 ^ n:=abg aS;have r:(2:Int) ^ n<=B32:=by
  have:(2:Nat) ^ n<=2 ^ 31:=ZY aS aD;have e:(2:Int) ^ n=((2 ^ n:Nat):Int):=by rw[Zf];rfl
  rw[e];simp only[B32];omega
 have ⟨L,f⟩:=vB ⟨p,r⟩ (x:=y) (c:=0) o ⟨aS,p⟩;rw[aav] at L;have b:=ue y (2 ^ n) 0;have A:(2147483648:Int)<=t*2 ^ n:=by
  obtain ⟨x,rfl⟩:∃x:Nat,t=x:=⟨az t,aD⟩;have e:(x:Int)*2 ^ n=((x*2 ^ n:Nat):Int):=by rw[YT,Zf];rfl
  rw[e];simp at X;omega
 have N:t*2 ^ n+2 ^ n<=4294967296:=by
  obtain ⟨x,rfl⟩:∃x:Nat,t=x:=⟨az t,aD⟩;have e:(x:Int)*2 ^ n+2 ^ n=((x*2 ^ n+2 ^ n:Nat):Int):=by rw[Int.natCast_add,YT,Zf];rfl
  rw[e];simp at l;have z:(4294967296:Nat)=2 ^ (32 - n)*2 ^ n:=by rw[<-aan,show 32 - n+n=32 by omega]
  rw[z] at l;have:x < 2 ^ (32 - n):=Nat.lt_of_mul_lt_mul_right l;have:(x+1)*2 ^ n<=2 ^ (32 - n)*2 ^ n:=XK _ this;rw[XF,Nat.one_mul,<-z] at this;omega
 have K:=dH (m:=y) (i:=ae y - 1) aD;rw[show ae y - 1+1=ae y by omega,XP,s] at K;have j:=iM (o.take (ae y - 1));rw[XI,XV (by omega)] at j;have M:=cp (o.take (ae y - 1));have P:=gH (ae y - 1);have w:B32 ^ ae y=B32 ^ (ae y - 1)*B32:=by rw[<-YR];congr 1;omega
 have I:val y*2 ^ n < B32 ^ ae y:=by
  rw[w,K,Yo];have C:val (y.take (ae y - 1))*2 ^ n < B32 ^ (ae y - 1)*2 ^ n:=abl j p;have D:B32 ^ (ae y - 1)*t*2 ^ n+B32 ^ (ae y - 1)*2 ^ n<=B32 ^ (ae y - 1)*B32:=by rw[Xw,<-XN];exact Xs (by simp only[B32];omega) aD
  omega
 have G:B32 ^ (ae y - 1)*2147483648<=val y*2 ^ n:=by
  rw[K,Yo];have C:0<=val (y.take (ae y - 1))*2 ^ n:=YB M aD;have D:B32 ^ (ae y - 1)*2147483648<=B32 ^ (ae y - 1)*t*2 ^ n:=by rw[Xw];exact Xs A aD
  omega
 have H:val (iw y (2 ^ n) 0)=val ((iw y (2 ^ n) 0).take (ae y))+B32 ^ ae y*af (iw y (2 ^ n) 0) (ae y) 0:=by have:=dH (m:=iw y (2 ^ n) 0) (i:=ae y) aD;rw[<-this,<-b,XP]
 have k:af (iw y (2 ^ n) 0) (ae y) 0=0:=by
  have g:=f.getD (ae y);have g2:=cp (f.take (ae y));have E:=gH (ae y);rcases Za 0 (af (iw y (2 ^ n) 0) (ae y) 0) with h | h
  .have:B32 ^ ae y*1<=B32 ^ ae y*af (iw y (2 ^ n) 0) (ae y) 0:=Xs aD aD;omega
  .omega
 refine ⟨(iw y (2 ^ n) 0).take (ae y),?_,by rw[XI];omega,f.take _,by rw[k,Zk] at H;omega,?_⟩
 .rw[<-tu (by omega) (by rw[b];exact k),b,show ae y+1 - 1=ae y by omega];refine Bx ?_;rw[XI,b,XV (by omega)];intro B;have:=dH (m:=(iw y (2 ^ n) 0).take (ae y)) (i:=ae y - 1) (by rw[XI];omega);rw[B,Zk,aav,show ae y - 1+1=ae y by omega,abc,Nat.min_self,abc,XV (by omega)] at this;have q:=iM (f.take (ae y - 1));rw[XI,XV (by omega)] at q;rw[k,Zk] at H;omega
 .rw[XI,b,XV (by omega)];have:=dH (m:=(iw y (2 ^ n) 0).take (ae y)) (i:=ae y - 1) (by rw[XI];omega);rw[show ae y - 1+1=ae y by omega,abc,Nat.min_self,abc,XV (by omega)] at this;have q:=iM (f.take (ae y - 1));rw[XI,XV (by omega)] at q;rw[k,Zk] at H;generalize af ((iw y (2 ^ n) 0).take (ae y)) (ae y - 1) 0=a at *;rcases Za a 2147483648 with h | h
  .have:B32 ^ (ae y - 1)*(a+1)<=B32 ^ (ae y - 1)*2147483648:=Xs aD aD;rw[XN,ZO] at this;omega
  .exact h
structure Ak (u0:Int) (v:List Int) (L K:Nat) (u o:List Int):Prop where
 xu:u.length=L
 jD:o.length=L - v.length
 hu:DOk u
 ho:DOk o
 hK:K<=L - v.length
 lt:val (u.drop K) < val v
 eq:val v*(B32 ^ K*val (o.drop K))+val u=u0
def Ak.step {y:Int} {v:List Int} {L k:Nat} {u o u':List Int} (I:Ak y v L (k+1) u o) (g:ae v<=L) (hv:DOk v) {q:Int} (j:ae u'=ae u) (e:DOk u') (c:u'.take k=u.take k) (b:0<=q/\q < B32)
  (h:val (u'.drop k)=val (u.drop k) - q*val v) (x:val (u'.drop k) < val v):Ak y v L k u' (o.set k q):=by
 have hK:=I.hK;have f:=I.xu;have a:=I.jD;refine ⟨aD,by rw[Xa];exact a,e,I.ho.set _ b,aD,x,?_⟩;have z:(o.set k q).drop k=q::o.drop (k+1):=by rw[XA (by rw[Xa];omega),aau,Zq aD]
 have w:val u'=val u - B32 ^ k*(q*val v):=by rw[fD u' (i:=k) aD,fD u (i:=k) aD,c,h,Zt];omega
 rw[z,w,val,<-I.eq,YR,XN,XN,Xw (B32 ^ k) B32,ZH (val v) (B32 ^ k) q,Yg (val v) q];omega
def Eh (y:DOk x) (hv:DOk v) (t:1<=ae v) (g:ae v<=ae x) (X:(2:Int) ^ n<=2147483648) (W:2147483648<=af v (ae v - 1) 0) :
  val ((iw x (2 ^ n) 0).drop (ae x+1 - ae v)) < val v:=by
 have k:(0:Int) < 2 ^ n:=abg aS;have ⟨j,z⟩:=vB ⟨k,show (2:Int) ^ n<=B32 by simp only[B32];omega⟩ (x:=x) (c:=0) y ⟨aS,k⟩;have f:=ue x (2 ^ n) 0;rw[aav] at j;generalize iw x (2 ^ n) 0=u at *;have a:=dH (m:=u) (i:=ae x) aD;rw[<-f,XP] at a;have r:=cp (z.take (ae x));have b:=iM y;have s:=abl b k;have H:=gH (ae x);have K:af u (ae x) 0 < 2 ^ n:=by
  rcases Za (af u (ae x) 0) (2 ^ n) with h | h
  .exact h
  .have:=Xs h (show (0:Int)<=B32 ^ ae x by omega);omega
 have o:ae (u.drop (ae x+1 - ae v))=ae v:=by rw[Zy];omega
 have w:=dH (m:=u.drop (ae x+1 - ae v)) (i:=ae v - 1) aD;rw[show ae v - 1+1=ae (u.drop (ae x+1 - ae v)) by omega,XP] at w;have p:af (u.drop (ae x+1 - ae v)) (ae v - 1) 0=af u (ae x) 0:=by simp only[af,YU];rw[show ae x+1 - ae v+(ae v - 1)=ae x by omega]
 rw[p] at w;have q:=iM ((z.drop (ae x+1 - ae v)).take (ae v - 1));rw[XI,o,XV (by omega)] at q;have l:=dH (m:=v) (i:=ae v - 1) aD;rw[show ae v - 1+1=ae v by omega,XP] at l;have A:=cp (hv.take (ae v - 1));have e:=gH (ae v - 1);have:B32 ^ (ae v - 1)*(af u (ae x) 0+1)<=B32 ^ (ae v - 1)*af v (ae v - 1) 0:=Xs aD aD;rw[XN,ZO] at this;omega
def ID {u:List Int} {k m:Nat} (x:DOk u) (hm:2<=m) (z:k+m+1<=ae u) (y:val (u.drop (k+m+1))=0) :
  ∃h,0<=h/\h < B32 ^ (m - 2)/\val (u.drop k)=((af u (k+m) 0*B32+af u (k+m - 1) 0)*B32+af u (k+m - 2) 0)*B32 ^ (m - 2)+h:=by
 refine ⟨val ((u.drop k).take (m - 2)),cp ((x.drop k).take _),?_,?_⟩
 .have:=iM ((x.drop k).take (m - 2));rw[XI,Zy,XV aD] at this;exact this
 .have e:=fD (u.drop k) (i:=m - 2) (by rw[Zy];omega);rw[Ya,iT (l:=u) (i:=k+(m - 2)) (by omega),iT (l:=u) (i:=k+(m - 2)+1) (by omega),iT (l:=u) (i:=k+(m - 2)+1+1) (by omega),
   show k+(m - 2)+1+1+1=k+m+1 by omega,y,show k+(m - 2)+1+1=k+m by omega,show k+(m - 2)+1=k+m - 1 by omega,show k+(m - 2)=k+m - 2 by omega] at e;rw[e,Yg (B32 ^ (m - 2))];rw[Int.add_comm];congr 2;simp only[B32];omega
def FT (hv:DOk v) (hm:2<=ae v) :
  ∃h,0<=h/\h < B32 ^ (ae v - 2)/\val v=(af v (ae v - 1) 0*B32+af v (ae v - 2) 0)*B32 ^ (ae v - 2)+h:=by
 refine ⟨val (v.take (ae v - 2)),cp (hv.take _),?_,?_⟩
 .have:=iM (hv.take (ae v - 2));rw[XI,XV aD] at this;exact this
 .have e:=fD v (i:=ae v - 2) aD;rw[iT (l:=v) (i:=ae v - 2) (by omega),iT (l:=v) (i:=ae v - 2+1) (by omega),
   show ae v - 2+1+1=ae v by omega,YX,show ae v - 2+1=ae v - 1 by omega] at e
  conv=>lhs;rw[e]
  rw[Yg (B32 ^ (ae v - 2)),Int.add_comm];congr 2;simp only[B32,val];omega
def O9 (l:V=(k*B32+x)*p+y) (m:W=(top*B32+w)*p+e) (n:0 < p) (f:y < p) (g:0<=e) (j:x < B32) (i:0<=w) (h:W < B32*V):top<=k*B32+(B32 - 1):=by
 rcases Za (k*B32+(B32 - 1)) top with z | z
 .exfalso;have a:(k*B32+B32)*B32*p<=(top*B32+w)*p:=by refine Xj ?_ aD;have:(k*B32+B32)*B32<=top*B32:=Xj aD aS;omega
  have b:(k*B32+x)*p+y < (k*B32+B32)*p:=by have:(k*B32+x+1)*p<=(k*B32+B32)*p:=Xj aD aD;rw[Yo,YO] at this;omega
  have c:B32*V < B32*((k*B32+B32)*p):=Int.mul_lt_mul_of_pos_left aD aS;have d:B32*((k*B32+B32)*p)=(k*B32+B32)*B32*p:=by rw[<-Xw,Yg B32]
  omega
 .exact z
section
variable {P:Program} {N:Nat} {e:Env} {H:aE}
def Dw (id:Nat) (Post:Env->aE->Prop):bN:=fun x e H=>x = .exit id/\Post e H
@[go_sem] def PC {id j:Nat} {Post:Env->aE->Prop}:Dw id Post (.exit j) e H=(j=id/\Post e H):=by simp[Dw]
def FF {aR:List Nat} {c:bL} {id:Nat} {K:Env->aE->Prop} {R:bN} (Inv:Nat->Env->aE->Prop) (Post:Env->aE->Prop) {n:Nat} (y:Inv n (cG aR e) H)
  (round:∀n e H,Inv n e H->WP P N c (j4 (fun k h=>∃m,m < n/\Inv m (cG aR k) h) (Dw id Post)) e H) (w:∀e H,Post e H->K e H):Al P N aR c (nu id (j4 K R)) e H:=by intro z;refine (bE (Q:=Dw id Post) Inv y round z).mono fun x e H b=>?_;obtain ⟨rfl,a⟩:=b;simp only[FL,Yj,Fj];exact w _ _ a
@[go_sem] def UZ:Int.fdiv x (2 ^ min (Int.toNat 63) 64)=x / 9223372036854775808:=by rw[show ((2:Int) ^ min (Int.toNat 63) 64)=9223372036854775808 from rfl,YZ _ aS]
def OI (t:Nat) (l:Env):lk t l = .aY\/∃p,p∈l/\lk t l=p.2:=by
 induction l with
 | nil=>exact .inl rfl
 | cons x r y =>
  have ⟨s,v⟩:=x;simp only[lk];split
  .exact .inr ⟨(s,v),aK,rfl⟩
  .rcases y with h | ⟨p,k,h⟩
   .exact .inl h
   .exact .inr ⟨p,by simp[k],h⟩
def Mf (aR:List Nat) (m:Nat) (Inv:Nat->Env->aE->Prop) (n:Nat):Env->aE->Prop:=fun e' H'=>∃k,k < n/\(H'.take m).all (eI m)=aq/\(cG aR e').all (fun p=>jR m p.2)=aq/\Inv k (cG aR e') (H'.take m)
def yf {aR:List Nat} {c:bL} {Q:bN} (m:Nat) (Inv:Nat->Env->aE->Prop) {n:Nat} (y:∀n e H,Inv n e H->ae H=m) (g:Inv n (cG aR e) H)
  (round:∀n e H,Inv n e H->WP P N c (j4 (Mf aR m Inv n) Q) e H):Al P N aR c Q e H:=by
 intro o;refine BL (ye _ aR e H) (DV (e:=cG aR e) Inv g fun n e H a=>?_);have hm:=y n e H a;refine (WP.aw o (round n e H a)).mono fun x z f b=>?_;cases x with
 | normal =>
  have ⟨k,q,i,j,l⟩:=b;refine ⟨k,cG aR z,f.take m,q,?_,l⟩;rw[hm];refine WkS.FB (FD (WY _) i) fun t=>?_;rcases Gq aR z t with h | h
  .rcases OI t (cG aR z) with w | ⟨p,r,w⟩
   .exact .inl w
   .exact .inr ⟨h,by rw[<-h,w];exact W6.1 j p r⟩
  .exact .inl h
 | _=>exact b
@[go_sem] def VU {aR:List Nat} {m n:Nat} {Inv:Nat->Env->aE->Prop}:Mf aR m Inv n e H=∃k,k < n/\(H.take m).all (eI m)=aq/\(cG aR e).all (fun p=>jR m p.2)=aq/\Inv k (cG aR e) (H.take m):=(rfl)
def G8 (v:AV) (n:Nat) (H:aE) (r:AV) (H2:aE):AV->Prop:=fun w=>Fin n (.bI [v,w]) H r H2
@[go_sem] def VJ:G8 v n H r h w=Fin n (.bI [v,w]) H r h:=(rfl)
def Me (y:AV) (ag:Bool) (k n:Nat) (H:aE) (r:AV) (H2:aE):AV->Prop:=fun v=>LdP ag k y H (G8 v n H r H2)
@[go_sem] def VI:Me y ag k n H r h v=LdP ag k y H (G8 v n H r h):=(rfl)
def Je:LdP ag k a H K=bD (match a with
  | .fp cs o=>fm ag cs o k
  | .ptr id ver i o=>(aH H id ver).bind fun ob=>(ob.xs[i]?).bind fun x=>fm ag x o k
  | _=>an) K:=(rfl)
def CR:Ad e H (.cell x ag k)=(match lk x e with
  | .fp cs o=>fm ag cs o k
  | .ptr id ver i o=>(aH H id ver).bind fun ob=>(ob.xs[i]?).bind fun x=>fm ag x o k
  | _=>an):=(rfl)
@[go_sem] def PU:uy e H [.cell x ag k,.cell y h w] n r z=LdP ag k (lk x e) H (Me (lk y e) h w n H r z):=by simp only[uy,mj,CR,Je,gO,rE,XL];congr 1
end
def yh (a b:Int):au .u64 (au .u64 a - b)=(a - b) % 18446744073709551616:=by rw[jP,jP];omega
def KO {top y p W V h f z w:Int} (g:V=(h*B32+f)*p+z) (n:W=(top*B32+y)*p+w) (o:0 < p) (i:0<=z) (j:w < p) (m:y < B32) (k:0 < h) (x:0<=f) (l:0<=top):W < (top / h+1)*V:=by
 have e:=YF top h;have r1:=Yk top k;have r:0<=top / h:=Zg l aD;generalize top / h=q at *;have a:(top+1)*B32*p<=(q+1)*h*B32*p:=by refine Xj (Xj ?_ (by decide)) (by omega);rw[Yo,Yg q h];omega
 have b:(q+1)*h*B32*p<=(q+1)*V:=by rw[g,Xw (q+1) h B32,Xw (q+1)];refine Xs ?_ (by omega);rw[Yo];have:=YB x (show 0<=p by omega);omega
 have c:W < (top+1)*B32*p:=by have:(top*B32+y+1)*p<=(top+1)*B32*p:=Xj (by rw[Yo];simp only[B32] at *;omega) aD;rw[Yo,YO] at this;omega
 omega
def Pk (x y:List Int) (hx:DOk x) (hy:DOk y) (hl:ae x < 4294967294) (h2:2<=ae y) (k7:ae y<=ae x) (hs:dC y=y) (f g:Bool) :
  a9 prog 138 [.seq 1 f (cZ x),.seq 1 g (cZ y)] (.bI [dx (mT (ae x+1 - ae y) (val x / val y)),dx (mT (ae y) (val x % val y))]):=by
 have i9:af y (ae y - 1) 0≠0:=by intro h0;have:=tu (l:=y) aD h0;have R:=CW (y.take (ae y - 1));rw[this,hs,XI] at R;omega
 have ⟨v,i5,e7,w,a1,i6⟩:=HO hy h2 i9 rfl;have e8:=hy.getD (ae y - 1);simp only[B32] at e8;have ⟨_,_,hn⟩:=GP (x:=az (af y (ae y - 1) 0)) aD aD;generalize g9:32 - dk (az (af y (ae y - 1) 0))=n at *;refine pw func138 ?_;have z:(ah:Int)=0:=rfl;have e1:au .i64 ((ae y:Int) - 1)=((ae y - 1:Nat):Int):=by rw[wrap_i64 (by omega) (by omega)];omega
 have b1:((ae y - 1:Nat):Int) < (ae y:Int):=aD;have nn:∀n:Nat,(0<=(n:Int)):=fun n=>aD;refine Y4 z e1 b1 nn ?_;refine cX (Ag _ e8) ?_;rw[g9];refine Y ?_;refine dK (xR x n aD hx hn f) ?_;refine Y ?_;refine cY (Ke y n (by omega) hy hn g) ?_;refine cX (yd (iw y (2 ^ n) 0) (by rw[ue];omega) ar) ?_;rw[i5];have e2:au .i64 (((ae x+1:Nat):Int) - ae v)=((ae x+1 - ae v:Nat):Int):=by rw[wrap_i64 (by omega) (by omega)];omega
 have e3:au .i64 (((ae x+1 - ae v:Nat):Int) - 1)=((ae x+1 - ae v:Nat):Int) - 1:=by rw[wrap_i64 (by omega) (by omega)]
 refine Y3 e2 e3 nn ?_;have b7:(0:Int) < 2 ^ n:=abg aS;have h9:(2:Int) ^ n<=2147483648:=by
  have:(2:Nat) ^ n<=2 ^ 31:=ZY aS aD;have e:(2:Int) ^ n=((2 ^ n:Nat):Int):=by rw[Zf];rfl
  rw[e];omega
 have ⟨f6,j5⟩:=vB ⟨b7,show (2:Int) ^ n<=B32 by simp only[B32];omega⟩ (x:=x) (c:=0) hx ⟨aS,b7⟩;rw[aav] at f6;refine ⟨aD,?_⟩;refine bE (fun K e H=>∃u o,Ak (val x*2 ^ n) v (ae x+1) K u o/\H=[ak ⟨1,0,cZ u⟩,ak ⟨1,0,cZ o⟩] /\
  e=[(6,.q0 n),(7,.sl 1 0 0 0 (ae x+1)),(8,dx v),(9,.q0 (ae v)),(10,.sl 1 1 0 0 (ae x+1 - ae v)),(11,.q0 ((K:Int) - 1))])
  (n:=ae x+1 - ae v) ⟨iw x (2 ^ n) 0,aA (ae x+1 - ae v) 0,⟨ue _ _ _,aK,j5,fun d hd=>by rw[(YM.1 hd).2];decide,WY _,?_,?_⟩,rfl,rfl⟩ ?_
 .exact Eh hx w aD aD h9 i6
 .rw[ZN (by simp)];simp only[val,Zk,f6];omega
 rintro K _ _ ⟨u,o,I,rfl,rfl⟩;rcases K with _ | k
 case zero =>
  have h0:((0:Int)<=((0:Nat):Int) - 1)=False:=aK;refine Y2 h0 nn ?_;have G:=I.lt;have F:=I.eq;simp only[Yx,abT,YO] at G F;have hz:B32=2 ^ n*2 ^ (32 - n):=by rw[<-Int.pow_add,show n+(32 - n)=32 by omega];rfl
  have ⟨j3,f0⟩:=Fa b7 hz I.hu;have j4:=NG u (2 ^ n);have xu:=I.xu;have i8:0 < val y:=by
   have R:=cp hy;have h3:=cp I.hu;rcases Za 0 (val y) with h | h
   .exact h
   .have:val y=0:=aD;rw[this,Int.zero_mul] at a1;omega
  have e4:val u=2 ^ n*(val x - val y*val o):=by rw[a1] at F;rw[Zt,Yg _ (val x),<-F,Yg (val y) (2 ^ n),Xw];omega
  have a4:val u / 2 ^ n=val x - val y*val o:=by rw[e4,Int.mul_ediv_cancel_left _ (by omega)]
  have g0:0<=val x - val y*val o:=by rw[<-a4];exact Zg (cp I.hu) aD
  have g6:val x - val y*val o < val y:=by rw[e4,a1,Yg (val y) (2 ^ n)] at G;exact Int.lt_of_mul_lt_mul_left G aD
  have d8:val o=val x / val y:=(((abN i8 (q:=val o) (r:=val x - val y*val o)).2 ⟨aD,g0,g6⟩).1).symm;have i0:val x - val y*val o=val x % val y:=by rw[d8];have:=YF (val x) (val y);omega
  refine ⟨aD,?_⟩;refine bE (fun K e H=>∃(i:Nat) (r:List Int),i<=ae v/\K=ae v - i/\ae r=ae v/\r.take i=(mc u (2 ^ n)).take i/\H=[ak ⟨1,0,cZ u⟩,ak ⟨1,0,cZ o⟩,ak ⟨1,0,cZ r⟩] /\
   e=[(6,.q0 n),(7,.sl 1 0 0 0 (ae x+1)),(10,.sl 1 1 0 0 (ae x+1 - ae v)),(25,.sl 1 2 0 0 (ae v)),(229,.q0 (ae v)),(230,.q0 i)]) (n:=ae v)
   ⟨0,aA (ae v) 0,XE _,rfl,aK,rfl,rfl,rfl⟩ ?_;rintro K _ _ ⟨i,r,hi,rfl,N,T,rfl,rfl⟩;by_cases A:(i:Int) < (ae v:Int)
  .have B:i < ae v:=aD;have g1:=I.hu.getD i;have g2:=I.hu.getD (i+1);simp only[B32] at g1 g2;have D:(0:Int)<=32:=aS;have W:(1:Nat)<=1:=aS;have y1:au .u64 (af u i 0)=af u i 0:=br aD aD;have P:au .u64 (af u (i+1) 0)=af u (i+1) 0:=br aD aD;have y3:au .u64 (af u (i+1) 0*4294967296)=af u (i+1) 0*4294967296:=br aD aD;have y4:pG .u64 (af u i 0) (af u (i+1) 0*4294967296)=af u i 0+4294967296*af u (i+1) 0:=by rw[show af u (i+1) 0*4294967296=af u (i+1) 0*2 ^ 32 from rfl,oN (k:=32) (by omega) (by omega) (by omega)];omega
   have y5:au .i64 ((i:Int)+1)=((i+1:Nat):Int):=by rw[wrap_i64 (by omega) (by omega)];omega
   have y6:(i:Int) < ((ae x+1:Nat):Int):=aD;have y7:((i+1:Nat):Int) < ((ae x+1:Nat):Int):=aD;have y8:i < ae u:=aD;have y9:i+1 < ae u:=aD;have O:min n 64=n:=aD;have j6:Int.fdiv (af u i 0+4294967296*af u (i+1) 0) (2 ^ n)=(af u i 0+4294967296*af u (i+1) 0) / 2 ^ n:=YZ _ aD;have j7:i < ae r:=aD;simp only[go_sem,↓reduceIte,Xb,z,nn,A,D,W,y1,P,y3,y4,y5,y6,y7,y8,y9,O,j6,j7,dc];have i1:=LI (l:=u) (p:=2 ^ n) (i:=i) y8;refine ⟨ae v - (i+1),aD,i+1,r.set i ((af u i 0+4294967296*af u (i+1) 0) / 2 ^ n % 4294967296),B,rfl,by rw[Xa];exact N,?_,rfl,rfl⟩;have e1:=JM u (2 ^ n) i;have e2:(mc u (2 ^ n))[i]?=ak ((af u i 0+4294967296*af u (i+1) 0) / 2 ^ n % 4294967296):=by have:(mc u (2 ^ n))[i]?=((mc u (2 ^ n)).drop i)[0]?:=aK;rw[this,e1,i1];rfl
   rw[XW (by rw[Xa];omega),aau,Zd (WY _),T,List.take_add_one,e2];rfl
  .have J:i=ae v:=by omega
   subst J;refine Y1 A ?_;rw[<-N,XP,N] at T;have e0:DOk r:=by rw[T];exact f0.take _
   have i7:val r=val x % val y:=by
    have R:=fD (mc u (2 ^ n)) (i:=ae v) (by rw[j4];omega);rw[<-T,j3,a4] at R;have h3:=cp (f0.drop (ae v));have h4:=cp e0;have h5:=iM w;have h6:val y<=val v:=by rw[a1];have:=Xs (show (1:Int)<=2 ^ n by omega) (show 0<=val y by omega);omega
    have hB:=gH (ae v);generalize B32 ^ ae v=p at *;rw[<-i0];rcases Za 0 (val ((mc u (2 ^ n)).drop (ae v))) with h7 | h7
    .have:p*1<=p*val ((mc u (2 ^ n)).drop (ae v)):=Xs aD aD;omega
    .have h8:val ((mc u (2 ^ n)).drop (ae v))=0:=aD;rw[h8,Zk] at R;omega
   have er:r=mT (ae y) (val x % val y):=by rw[<-i7,<-e7,<-N];exact B8 e0
   have eo:o=mT (ae x+1 - ae y) (val x / val y):=by rw[<-d8,<-e7,<-I.jD];exact B8 I.ho
   refine qJ (id:=1) (ver:=0) (ob:=⟨1,0,cZ o⟩) (by simp[aH]) (m9 o) ?_;have g1:dT 1 0 1 (cZ o) (.bI [.sl 1 1 0 0 (ae x+1 - ae v),.sl 1 2 0 0 (ae v)]) = .bI [dx o,.sl 1 2 0 0 (ae v)]:=by simp only[dT,oF,fX,XD,Yi,Yx];rw[<-I.jD,<-W4 (f:=gD),XP];simp
   show Fin 0 (dT 1 0 1 (cZ o) _) _ _ _;rw[g1];refine qJ (id:=2) (ver:=0) (ob:=⟨1,0,cZ r⟩) (by simp[aH]) (m9 r) ?_;have g2:dT 2 0 1 (cZ r) (.bI [dx o,.sl 1 2 0 0 (ae v)]) = .bI [dx o,dx r]:=by simp only[dT,oF,fX,XD,Yi,Yx];rw[<-N,<-W4 (f:=gD),XP];simp
   show Fin 0 (dT 2 0 1 (cZ r) _) _ _ _;rw[g2];exact aV (by rw[er,eo]) rfl
 case succ =>
  have g8:((k+1:Nat):Int) - 1=(k:Int):=aD;have k6:k+ae v < ae x+1:=dp I.hK;have f1:au .i64 ((k:Int)+ae v)=((k+ae v:Nat):Int):=by rw[wrap_i64 (by omega) (by omega)];omega
  have f2:au .i64 (((k+ae v:Nat):Int) - 1)=((k+ae v - 1:Nat):Int):=by rw[wrap_i64 (by omega) (by omega)];omega
  have f3:au .i64 (((k+ae v:Nat):Int) - 2)=((k+ae v - 2:Nat):Int):=by rw[wrap_i64 (by omega) (by omega)];omega
  have f4:au .i64 ((ae v:Int) - 1)=((ae v - 1:Nat):Int):=by rw[wrap_i64 (by omega) (by omega)];omega
  have f5:au .i64 ((ae v:Int) - 2)=((ae v - 2:Nat):Int):=by rw[wrap_i64 (by omega) (by omega)];omega
  have c1:((k+ae v:Nat):Int) < ((ae x+1:Nat):Int):=aD;have c2:((k+ae v - 1:Nat):Int) < ((ae x+1:Nat):Int):=aD;have c3:((k+ae v - 2:Nat):Int) < ((ae x+1:Nat):Int):=aD;have c4:((ae v - 1:Nat):Int) < (ae v:Int):=aD;have c5:((ae v - 2:Nat):Int) < (ae v:Int):=aD;have n1:k+ae v < ae u:=by rw[I.xu];omega
  have n2:k+ae v - 1 < ae u:=aD;have n3:k+ae v - 2 < ae u:=aD;have g1:=I.hu.getD (k+ae v);have g2:=I.hu.getD (k+ae v - 1);have g3:=I.hu.getD (k+ae v - 2);have g4:=w.getD (ae v - 1);have g5:=w.getD (ae v - 2);simp only[B32] at g1 g2 g3 g4 g5;have d1:au .u64 (af u (k+ae v) 0)=af u (k+ae v) 0:=br aD aD;have d2:au .u64 (af u (k+ae v - 1) 0)=af u (k+ae v - 1) 0:=br aD aD;have d3:au .u64 (af u (k+ae v - 2) 0)=af u (k+ae v - 2) 0:=br aD aD;have d4:au .u64 (af v (ae v - 1) 0)=af v (ae v - 1) 0:=br aD aD;have d5:au .u64 (af v (ae v - 2) 0)=af v (ae v - 2) 0:=br aD aD;have d6:au .u64 (af u (k+ae v) 0*4294967296)=af u (k+ae v) 0*4294967296:=br aD aD;have d7:pG .u64 (af u (k+ae v) 0*4294967296) (af u (k+ae v - 1) 0)=af u (k+ae v) 0*4294967296+af u (k+ae v - 1) 0:=by rw[zZ,show af u (k+ae v) 0*4294967296=af u (k+ae v) 0*2 ^ 32 from rfl,oN (k:=32) (by omega) (by omega) (by omega)];omega
  have k0:(0:Int)<=(k:Int):=aD;have i4:(af v (ae v - 1) 0=0)=False:=Xh aD;have ⟨_,wz,wB⟩:=Kf (k:=k) I.hu w aD I.lt;have ⟨Wr,c0,f8,hW⟩:=ID (k:=k) (m:=ae v) I.hu aD aD wz;have ⟨Vr,a2,b9,hV⟩:=FT w aD;have M:=gH (ae v - 2);have D:(0:Int)<=32:=aS;obtain ⟨top,b3⟩:∃t,t=af u (k+ae v) 0*4294967296+af u (k+ae v - 1) 0:=⟨_,rfl⟩;have U:0<=top/\top < 18446744073709551616:=aD;rw[<-b3] at d7;simp only[B32] at hW hV;rw[<-b3] at hW;have b6:=KO hV hW M a2 f8 (by simp only[B32];omega) aD aD U.1;have i2:=O9 hV hW M b9 c0 (by simp only[B32];omega) aD wB;simp only[B32] at i2;have t1:top.tdiv (af v (ae v - 1) 0)=top / af v (ae v - 1) 0:=aaD U.1;have t2:top.tmod (af v (ae v - 1) 0)=top % af v (ae v - 1) 0:=ZX U.1;have t3:=Zg U.1 (show 0<=af v (ae v - 1) 0 by omega);have t4:top / af v (ae v - 1) 0<=4294967297:=by have:top / af v (ae v - 1) 0 < 4294967298:=YS aD aD;omega
  have t5:au .u64 (top / af v (ae v - 1) 0)=top / af v (ae v - 1) 0:=br t3 aD;have t6:=YK top (show af v (ae v - 1) 0≠0 by omega);have t7:=Yk top (show 0 < af v (ae v - 1) 0 by omega);have t8:=YF top (af v (ae v - 1) 0);simp only[go_sem,↓reduceIte,Xb,z,nn,g8,f1,f2,f4,c1,c2,c4,n1,n2,d1,d2,d4,d6,d7,i4,aaf,X6,D,t1,t2,t5];refine FF (fun Q e H=>∃q r:Int,Q=az q/\top=q*af v (ae v - 1) 0+r/\(0<=r/\r < 4294967296)/\(0<=q/\q<=4294967297)/\val (u.drop k) < (q+1)*val v/\H=[ak ⟨1,0,cZ u⟩,ak ⟨1,0,cZ o⟩] /\
   e=[(6,.q0 n),(7,.sl 1 0 0 0 (ae x+1)),(8,dx v),(9,.q0 (ae v)),(10,.sl 1 1 0 0 (ae x+1 - ae v)),(11,.q0 k),(13,.c (.int .u64 q)),(14,.c (.int .u64 r))])
   (fun e H=>∃q:Int,(0<=q/\q < 4294967296)/\val (u.drop k) < (q+1)*val v/\q*val v < val (u.drop k)+val v/\H=[ak ⟨1,0,cZ u⟩,ak ⟨1,0,cZ o⟩]/\lk 6 e = .q0 n/\lk 7 e = .sl 1 0 0 0 (ae x+1)/\lk 8 e=dx v/\lk 9 e = .q0 (ae v) /\
    lk 10 e = .sl 1 1 0 0 (ae x+1 - ae v)/\lk 11 e = .q0 k/\lk 13 e = .c (.int .u64 q))
   ⟨_,_,rfl,by rw[Yg];omega,⟨t6,aD⟩,⟨t3,t4⟩,b6,rfl,rfl⟩ ?_ ?_
  .rintro Q _ _ ⟨q,r,rfl,d9,hr,hq,g7,rfl,rfl⟩;have a3:(4294967296<=q\/r*4294967296+af u (k+ae v - 2) 0 < q*af v (ae v - 2) 0)->1<=q/\val (u.drop k) < q*val v:=by
    rintro (h | h)
    .refine ⟨aD,?_⟩;have:B32*val v<=q*val v:=Xj h (cp w);omega
    .refine ⟨?_,KP hV hW d9 M a2 f8 hq.1 h⟩;rcases Za q 1 with R | R
     .have:q=0:=aD;subst this;omega
     .exact R
   have w2:au .u64 (r+af v (ae v - 1) 0)=r+af v (ae v - 1) 0:=br aD aD;have c6:1<=q->val (u.drop k) < q*val v ->
    (4294967296<=r+af v (ae v - 1) 0->q - 1 < 4294967296/\(q - 1)*val v < val (u.drop k)+val v)/\top=(q - 1)*af v (ae v - 1) 0+(r+af v (ae v - 1) 0)/\val (u.drop k) < (q - 1+1)*val v:=by
    intro R h3;have e1:(q - 1)*af v (ae v - 1) 0=q*af v (ae v - 1) 0 - af v (ae v - 1) 0:=by rw[Int.sub_mul,YO]
    refine ⟨fun hb=>?_,aD,by rw[Int.sub_add_cancel];exact h3⟩;have b8:q - 1 < 4294967296:=by
     rcases Za (q - 1) 4294967296 with h | h
     .exact h
     .have:q=4294967297:=aD;subst this;omega
    refine ⟨b8,Cs (q:=q - 1) (r:=r+af v (ae v - 1) 0) hV hW aD M ⟨a2,b9⟩ c0 ⟨aD,b8⟩ aD aD ?_⟩;have:=jX (a:=q - 1) (b:=af v (ae v - 2) 0) ⟨aD,b8⟩ g5;simp only[B32];omega
   by_cases S:4294967296<=q
   .have ⟨k1,k2⟩:=a3 (.inl S);have ⟨k3,k4,k5⟩:=c6 k1 k2;have w1:au .u64 (q - 1)=q - 1:=br aD aD;refine Y8 z nn S f4 c4 d4 w1 w2 ?_;exact ⟨fun h=>⟨q - 1,⟨aD,(k3 h).1⟩,k5,(k3 h).2,rfl⟩,fun h=>⟨az (q - 1),aD,q - 1,_,rfl,k4,⟨aD,aD⟩,⟨aD,aD⟩,k5,rfl⟩⟩
   .have p1:=jX (a:=q) (b:=af v (ae v - 2) 0) ⟨aD,aD⟩ g5;have w3:au .u64 (q*af v (ae v - 2) 0)=q*af v (ae v - 2) 0:=br aD aD;have w4:au .u64 (r*4294967296)=r*4294967296:=br aD aD;have w5:pG .u64 (r*4294967296) (af u (k+ae v - 2) 0)=r*4294967296+af u (k+ae v - 2) 0:=by rw[zZ,show r*4294967296=r*2 ^ 32 from rfl,oN (k:=32) (by omega) (by omega) (by omega)];omega
    by_cases hc:r*4294967296+af u (k+ae v - 2) 0 < q*af v (ae v - 2) 0
    .have ⟨k1,k2⟩:=a3 (.inr hc);have ⟨k3,k4,k5⟩:=c6 k1 k2;have w1:au .u64 (q - 1)=q - 1:=br aD aD;simp only[go_sem,↓reduceIte,Xb,z,nn,S,f4,c4,d4,w1,w2,f5,c5,d5,f1,f3,n3,c3,d3,w3,w4,w5,hc,D];exact ⟨fun h=>⟨q - 1,⟨aD,(k3 h).1⟩,k5,(k3 h).2,rfl⟩,fun h=>⟨az (q - 1),aD,q - 1,_,rfl,k4,⟨aD,aD⟩,⟨aD,aD⟩,k5,rfl⟩⟩
    .simp only[go_sem,↓reduceIte,Xb,z,nn,S,f5,c5,d5,f1,f3,n3,c3,d3,w3,w4,w5,hc,D];exact ⟨q,⟨aD,aD⟩,g7,Cs hV hW d9 M ⟨a2,b9⟩ c0 ⟨aD,by simp only[B32];omega⟩ aD aD (by simp only[B32];omega),rfl⟩
  .rintro e _ ⟨q,hq,c8,j9,rfl,l6,l7,l8,l9,j0,j1,j2⟩;refine Y7 l6 l7 l8 l9 j0 j1 j2 ?_;have qb:0<=q*val v:=YB hq.1 (cp w);have done:∀(u':List Int) (q':Int),ae u'=ae u->DOk u'->u'.take k=u.take k->(0<=q'/\q' < 4294967296)->val (u'.drop k)=val (u.drop k) - q'*val v->val (u'.drop k) < val v ->
     ∃m,m < k+1/\∃f7 e9,Ak (val x*2 ^ n) v (ae x+1) m f7 e9/\([ak ⟨1,0,cZ u'⟩,ak ⟨1,0,cZ (o.set k q')⟩]:aE)=[ak ⟨1,0,cZ f7⟩,ak ⟨1,0,cZ e9⟩] /\
     ([(6,.q0 n),(7,.sl 1 0 0 0 (ae x+1)),(8,dx v),(9,.q0 (ae v)),(10,.sl 1 1 0 0 (ae x+1 - ae v)),(11,.q0 ((k:Int) - 1))]:Env) =
     [(6,.q0 n),(7,.sl 1 0 0 0 (ae x+1)),(8,dx v),(9,.q0 (ae v)),(10,.sl 1 1 0 0 (ae x+1 - ae v)),(11,.q0 ((m:Int) - 1))] :=
    fun u' q' z1 z2 z3 z4 z5 z6=>⟨k,aD,u',o.set k q',I.step aD w z1 z2 z3 z4 z5 z6,rfl,rfl⟩;have o1:k < ae o:=by rw[I.jD];have:=I.hK;omega
   have o2:(k:Int) < ((ae x+1 - ae v:Nat):Int):=dp I.jD;have o3:au .i64 ((k:Int) - 1)=(k:Int) - 1:=wrap_i64 aD aD;have o4:q % 4294967296=q:=ZG hq.1 hq.2;have W:(1:Nat)<=1:=aS;have c7:(0:Int)<=63:=aS;refine bE (fun K e H=>∃(i:Nat) (ui:List Int) (c b:Int),i<=ae v/\K=ae v - i/\DOk ui/\ae ui=ae u/\ui.take k=u.take k/\ui.drop (k+i)=u.drop (k+i)/\(0<=c/\c < 4294967296)/\(0<=b/\b<=1) /\
    val ui=val u - B32 ^ k*(q*val (v.take i))+B32 ^ (k+i)*(c+b)/\H=[ak ⟨1,0,cZ ui⟩,ak ⟨1,0,cZ o⟩] /\
    e=[(6,.q0 n),(7,.sl 1 0 0 0 (ae x+1)),(8,dx v),(9,.q0 (ae v)),(10,.sl 1 1 0 0 (ae x+1 - ae v)),(11,.q0 k),(13,.c (.int .u64 q)),(15,.c (.int .u64 b)),(16,.c (.int .u64 c)),
     (126,dx v),(127,.q0 (ae v)),(128,.q0 i)]) (n:=ae v)
    ⟨0,u,0,0,XE _,rfl,I.hu,rfl,rfl,rfl,aS,aS,by simp[val],rfl,rfl⟩ ?_;rintro K _ _ ⟨i,ui,c,b,hi,rfl,E,xu,e5,c9,hc,hb,j,rfl,rfl⟩;by_cases A:(i:Int) < (ae v:Int)
   .have B:i < ae v:=aD;have gd:=w.getD i;have gu:=E.getD (k+i);simp only[B32] at gd gu;have ⟨m1,m2,m3,m4⟩:=Nt (u:=u) (v:=v) (k:=k) (i:=i) (q:=q) (c:=c) (b:=b) (p:=q*af v i 0+c) E aD B rfl (by simp only[B32];omega) w (by simp only[B32];omega) hb j rfl rfl;have ⟨m5,m6⟩:=FE m3;have p1:=jX (a:=q) (b:=af v i 0) hq gd;have y1:au .u64 (af v i 0)=af v i 0:=br aD aD;have P:au .u64 (q*af v i 0)=q*af v i 0:=br aD aD;have y3:au .u64 (q*af v i 0+c)=q*af v i 0+c:=br aD aD;have y4:au .i64 ((k:Int)+i)=((k+i:Nat):Int):=by rw[wrap_i64 (by omega) (by omega)];omega
    have y5:((k+i:Nat):Int) < ((ae x+1:Nat):Int):=aD;have y6:k+i < ae ui:=aD;have y7:au .u64 (af ui (k+i) 0)=af ui (k+i) 0:=br aD aD;have y8:au .u32 (q*af v i 0+c)=(q*af v i 0+c) % 4294967296:=dc _;have y9:au .u64 ((q*af v i 0+c) % 4294967296)=(q*af v i 0+c) % 4294967296:=br aD aD;have O:au .i64 ((i:Int)+1)=((i+1:Nat):Int):=by rw[wrap_i64 (by omega) (by omega)];omega
    simp only[go_sem,↓reduceIte,Xb,z,nn,A,D,y1,P,y3,y4,y5,y6,y7,y8,y9,O,yh,dc];simp only[B32] at m5 m6;rw[m5,m6];refine ⟨aS,aS,ae v - (i+1),aD,i+1,ui.set (k+i) ((af ui (k+i) 0 - (q*af v i 0+c) % 4294967296 - b) % 4294967296),(q*af v i 0+c) / 4294967296,_,B,rfl,E.set _ ⟨YK _ aS,Yk _ aS⟩,
     by rw[Xa];exact xu,by rw[Zd (by omega)];exact e5,?_,m2,?_,m4,rfl,rfl⟩
    .rw[Zq (by omega),<-XY,<-Ya,c9,Ya]
    .split<;>decide
   .have J:i=ae v:=aD;subst J;have gu:=E.getD (k+ae v);simp only[B32] at gu;have y1:au .u64 (af ui (k+ae v) 0)=af ui (k+ae v) 0:=br aD aD;have P:k+ae v < ae ui:=aD;rw[XP] at j;have ⟨m1,m2⟩:=Ns (u:=u) (k:=k) (m:=ae v) (q:=q) (V:=val v) (c:=c) (b:=b) E P hc hb j rfl;have ⟨m3,m4⟩:=FE m1;have C:(ui.set (k+ae v) ((af ui (k+ae v) 0 - c - b) % B32)).take k=u.take k:=by rw[Zd (by omega)];exact e5
    have a5:(ui.set (k+ae v) ((af ui (k+ae v) 0 - c - b) % B32)).drop (k+ae v+1)=u.drop (k+ae v+1):=by rw[Zq (by omega),<-Ya,c9,Ya]
    have L:DOk (ui.set (k+ae v) ((af ui (k+ae v) 0 - c - b) % B32)):=E.set _ ⟨YK _ aS,Yk _ aS⟩;have ⟨r1,r2,r3⟩:=LK (u:=u) (v:=v) (k:=k) (q:=q) I.hu L w aD (by rw[Xa];exact xu) I.lt C a5 (by split<;>decide) m2;simp only[B32] at m3 m4;by_cases a7:af ui (k+ae v) 0 - c - b < 0
    .rw[W0 a7] at m4 r1 r2 r3;have k9:=r3 rfl;have y3:au .u64 (q - 1)=q - 1:=by
      refine br ?_ aD;rcases Za q 1 with h | h
      .have:q=0:=aD;subst this;have:=cp (I.hu.drop k);omega
      .omega
     have o5:(q - 1) % 4294967296=q - 1:=by rw[jP] at y3;omega
     simp only[go_sem,↓reduceIte,Xb,z,nn,A,f1,c1,y1,P,yh,dc,m3,m4,y3,c7,W];generalize i3:ui.set (k+ae v) ((af ui (k+ae v) 0 - c - b) % 4294967296)=u1 at *;have e6:ae u1=ae u:=by rw[<-i3,Xa];exact xu
     refine bE (fun K e H=>∃(i:Nat) (s:List Int) (c:Int),i<=ae v/\K=ae v - i/\DOk s/\ae s=ae u/\s.take k=u.take k/\s.drop (k+i)=u1.drop (k+i)/\(0<=c/\c<=1) /\
      val s=val u1+B32 ^ k*val (v.take i) - B32 ^ (k+i)*c/\H=[ak ⟨1,0,cZ s⟩,ak ⟨1,0,cZ o⟩] /\
      e=[(6,.q0 n),(7,.sl 1 0 0 0 (ae x+1)),(8,dx v),(9,.q0 (ae v)),(10,.sl 1 1 0 0 (ae x+1 - ae v)),(11,.q0 k),(13,.c (.int .u64 (q - 1))),(22,.c (.int .u32 c)),
       (187,dx v),(188,.q0 (ae v)),(189,.q0 i)]) (n:=ae v)
      ⟨0,u1,0,XE _,rfl,L,e6,C,rfl,aS,by simp[val],rfl,rfl⟩ ?_;rintro K _ _ ⟨i,s,c,hi,rfl,a0,b4,b0,a6,hc,j,rfl,rfl⟩;by_cases A:(i:Int) < (ae v:Int)
     .have B:i < ae v:=aD;have gd:=w.getD i;have gu:=a0.getD (k+i);simp only[B32] at gd gu;have y4:au .i64 ((k:Int)+i)=((k+i:Nat):Int):=by rw[wrap_i64 (by omega) (by omega)];omega
      have y5:((k+i:Nat):Int) < ((ae x+1:Nat):Int):=aD;have y6:k+i < ae s:=aD;have O:au .i64 ((i:Int)+1)=((i+1:Nat):Int):=by rw[wrap_i64 (by omega) (by omega)];omega
      have b5:=MG (u:=u1) (ui:=s) (v:=v) (k:=k) (i:=i) (c:=c) y6 B j rfl;refine Z6 z nn A y4 y5 y6 ?_;refine cX (uk _ _ c gu gd hc) ?_;refine Z6 z nn y5 y6 O W ?_;refine ⟨ae v - (i+1),aD,i+1,s.set (k+i) ((af s (k+i) 0+af v i 0+c) % 4294967296),(af s (k+i) 0+af v i 0+c) / 4294967296,B,rfl,a0.set _ ⟨YK _ aS,Yk _ aS⟩,
       by rw[Xa];exact b4,by rw[Zd (by omega)];exact b0,?_,by omega,b5,rfl,rfl⟩;rw[Zq (by omega),<-XY,<-Ya,a6,Ya]
     .have J:i=ae v:=aD;subst J;have P:k+ae v < ae s:=aD;rw[XP] at j;have b5:=MF (u:=u1) (ui:=s) (k:=k) (m:=ae v) (c:=c) (V:=val v) P j rfl;simp only[go_sem,↓reduceIte,Xb,z,nn,A,f1,c1,P,dc,o1,o2,o3,o5,W];have gu:=a0.getD (k+ae v);simp only[B32] at gu;have a8:DOk (s.set (k+ae v) ((af s (k+ae v) 0+c) % 4294967296)):=a0.set _ ⟨YK _ aS,Yk _ aS⟩;have b2:(s.set (k+ae v) ((af s (k+ae v) 0+c) % 4294967296)).take k=u.take k:=by rw[Zd (by omega)];exact b0
      have d0:(s.set (k+ae v) ((af s (k+ae v) 0+c) % 4294967296)).drop (k+ae v+1)=u1.drop (k+ae v+1):=by rw[Zq (by omega),<-Ya,a6,Ya]
      have j8:=cp w;have r4:=Kt (u':=u1) (v:=v) (k:=k) (X:=val (u.drop k) - q*val v) (c:=(af s (k+ae v) 0+c) / 4294967296) a8 w aD (by rw[Xa];omega) (by rw[b2,C]) (by rw[d0,a5];exact wz)
       aD b5 (by rw[r1,ZO]) aD (by rw[Yo] at c8;omega);refine done _ (q - 1) (by rw[Xa];exact b4) a8 b2 (by rw[jP] at y3;omega) ?_ ?_
      .rw[r4,Int.sub_mul,YO];omega
      .rw[r4];omega
    .rw[WX a7] at m4 r1 r2 r3;have k8:=r2 rfl;rw[Zk,aav] at r1;have f9:((0:Int)=1)=False:=aK;simp only[go_sem,↓reduceIte,Xb,z,nn,A,f1,c1,y1,P,yh,dc,m3,m4,f9,c7,W,o1,o2,o3,o4];exact done _ q (by rw[Xa];exact xu) L C hq r1 (by rw[r1];rw[Yo] at c8;omega)
def Wd {α:Type} {h k x y a b:α} {l:List α}:(h::k::x::y::a::l).set 4 b=h::k::x::y::b::l:=(rfl)
def Vn {α:Type} {h k x y z w a b c:α} {l:List α}:(h::k::x::y::z::w::a::b::c::l).take 9=h::k::x::y::z::w::a::b::c::[]:=(rfl)
def Ui {α:Type} {h k x y z w a b c:α} {l:List α}:(h::k::x::y::z::w::a::b::c::l).drop 9=l:=(rfl)
def RI {m id a b c:Nat}:jR m (.ptr id a b c)=decide (id < m):=(rfl)
def TA {m k id a b c:Nat}:ck m (.sl k id a b c)=decide (id < m):=(rfl)
def UK:jR m (.c v)=aq:=(rfl)
def RJ:jR m (.seq k f xs)=aq:=(rfl)
attribute [go_sem] Wd Vn Ui RI TA UK RJ
def Sm (n:Int):Prop := -4611686018427387904 < n/\n < 4611686018427387904
instance (n:Int):Decidable (Sm n):=inferInstanceAs (Decidable (_/\_))
def zv (n:Int):Int:=if Sm n then n else n.sign
def zd (n:Int):AV:=if Sm n then .nil else dx (aO (ay n))
abbrev zA (n:Int):AV := .agg [.q0 (zv n),zd n]
def fq (n:Int):fN n=zA n:=by
 by_cases h:Sm n
 .rw[jQ h,zA,zv,zd,W0 h,W0 h]
 .rw[oz h,zA,zv,zd,WX h,WX h]
def jv (h:Sm n):zv n=n:=W0 h
def lA (h:Sm n):zd n = .nil:=W0 h
def Kj (h:¬Sm n):zd n=dx (aO (ay n)):=WX h
def vM (h:Sm n):zA n = .agg [.q0 n,.nil]:=by rw[zA,jv h,lA h]
def DH:bh (zd n)=aq:=by unfold zd;split<;>rfl
def ME:cN (zd n)=aq:=by unfold zd;split<;>rfl
attribute [go_sem] DH ME
def BF (n:Int):b8 (zd n)=aq:=by unfold zd;split<;>rfl
@[go_sem] def rW (k:Nat) (n:Int):ck k (zd n)=aq:=by unfold zd;split<;>rfl
def Co (h:¬Sm n):aO (ay n)≠[]:=fun k=>by rw[fU] at k;exact h ⟨aD,aD⟩
def Th:sY ar (zd n) K=K (.v0 (decide (Sm n))):=by
 by_cases h:Sm n
 .rw[lA h,Ee];simp[h]
 .rw[Kj h,zN];simp[h,Co h]
def Ry:sY aq (zd n) K=K (.v0 (!decide (Sm n))):=by
 by_cases h:Sm n
 .rw[lA h,IU];simp[h]
 .rw[Kj h,zN];simp[h,Co h]
attribute [go_sem] Th Ry
def bf (n:Int):bP (zA n)=aq:=by rw[<-fq];exact dR n
def D7 (n:Int):fP (zA n)=aq:=by rw[<-fq];exact KJ n
def Eg (h:a=zA n):Fin 0 a H (zA n) []:=by rw[<-fq] at h ⊢;exact fW h
def Gj (k:Nat) (n:Int):rr k (zA n)=aq:=by show (ck k (.q0 (zv n))&&(ck k (zd n)&&aq))=aq;rw[rW];rfl
def xT:Sm 0:=aS
def Q9:Sm 1:=aS
def EJ (n:Int) (h:-9223372036854775808<=n/\n < 9223372036854775808):a9 prog 92 [.q0 n] (zA n):=by rw[<-fq];exact Pg n h
def Bc (n:Int):a9 prog 111 [zA n] (.q0 n.sign):=by rw[<-fq];exact Ft n
def HQ (n:Int):a9 prog 115 [zA n] (zA (-n)):=by rw[<-fq,<-fq];exact MC n
def Mq (n:Int):a9 prog 110 [zA n] (zA (ay n)):=by rw[<-fq,<-fq];exact Qh n
def EN (n:Int):a9 prog 134 [zA n] (.bI [.q0 n.sign,dx (aO (ay n))]):=by rw[<-fq];exact rV n
def Be (s:Int) (l:List Int) (y:s=1\/s = -1\/s=0) (x:ae l < 4294967296) (k:DOk l) (f:Bool) (h:s=0->val l=0):a9 prog 137 [.q0 s,.seq 1 f (cZ l)] (zA (s*val l)):=by rw[<-fq];exact yc s l y x k f h
def PQ (n b:Int) (h:0<=b/\b < 4611686018427387904):a9 prog 93 [zA n,.q0 b] (.bI (if -b<=n/\n<=b then [.q0 n,.v0 aq] else [.q0 0,.v0 ar])):=by rw[<-fq];exact Qj n b h
def Dg (k:Nat) (n:Int):Prop:=ay n < 4294967296 ^ k
def Dg.len (h:Dg k n):ae (aO (ay n))<=k:=fT.2 h
def Mr (n m:Int) (h:Dg 4000000000 n) (hm:Dg 4000000000 m):a9 prog 140 [zA n,zA m] (zA (n+m)):=by have k:=h.len;have x:=hm.len;rw[<-fq,<-fq,<-fq];exact Qi n m aD aD
def sK (n m:Int) (h:Dg 2000000000 n) (hm:Dg 2000000000 m):a9 prog 141 [zA n,zA m] (zA (n*m)):=by have k:=h.len;have x:=hm.len;rw[<-fq,<-fq,<-fq];exact Qk n m aD aD
def Dg.mono (h:Dg a n) (k:a<=b):Dg b n:=Yf h (ZY aS k)
def Dg.mul (h:Dg a n) (g:Dg b m):Dg (a+b) (n*m):=by unfold Dg at *;rw[aaP,aan];exact Nat.mul_lt_mul'' h g
def Dg.add (h:Dg a n) (g:Dg a m):Dg (a+1) (n+m):=by unfold Dg at *;have:ay (n+m)<=ay n+ay m:=Int.natAbs_add_le n m;rw[abS];omega
def Dg.neg (h:Dg a n):Dg a (-n):=by unfold Dg at *;rw[Int.natAbs_neg];exact h
def Dg.le (h:Dg a n) (hm:ay m<=ay n):Dg a m:=abk hm h
def Dg.tdiv (h:Dg a n):Dg a (n.tdiv m):=h.le (by rw[Int.natAbs_tdiv];exact Nat.div_le_self _ _)
def Dg.tmod (h:Dg a n):Dg a (n.tmod m):=h.le (by rw[Int.natAbs_tmod];exact Nat.mod_le _ _)
def Fi (n m:Int):n.tdiv m=n.sign*m.sign*((ay n:Int) / (ay m:Int))/\(m≠0->n.tmod m=n.sign*((ay n:Int) % (ay m:Int))):=by
 have key:∀a b:Nat,((a:Int)).tdiv b=(a:Int) / (b:Int):=fun a b=>aaD aD;have h:∀a b:Nat,((a:Int)).tmod b=(a:Int) % (b:Int):=fun a b=>ZX aD;have ⟨a,y⟩:=Int.eq_nat_or_neg n;have ⟨b,z⟩:=Int.eq_nat_or_neg m;by_cases k:a=0
 .subst k;have:n=0:=aD;subst this;simp
 by_cases x:b=0
 .subst x;have:m=0:=aD;subst this;simp
 have w:(a:Int).sign=1:=Zu aD;have c:(b:Int).sign=1:=Zu aD;rcases y with rfl | rfl<;>rcases z with rfl | rfl <;>
  simp only[Int.sign_neg,w,c,Int.natAbs_neg,Int.natAbs_natCast,Int.neg_tdiv,Int.tdiv_neg,Int.neg_tmod,Int.tmod_neg,key,h,YO,ZO,Int.neg_mul,ZZ,Int.neg_neg,implies_true,Zm]
def FQ (h:n≠0):4294967296 ^ (ae (aO n) - 1)<=n:=by have:aO n≠[]:=fun x=>h (fU.1 x);have y:=Zc.2 this;have:=mt (fT (n:=n) (k:=ae (aO n) - 1)).2 aD;omega
def OQ (k:Nat):(B32 ^ k:Int)=((4294967296 ^ k:Nat):Int):=by rw[Zf];rfl
def OX {a b:Nat} (h:b≠0):(a:Int) / (b:Int) < B32 ^ (ae (aO a)+1 - ae (aO b)):=by
 have x:a < 4294967296 ^ ae (aO a):=fT.1 (WY _);have y:=FQ h;have c:=Zc.2 fun k=>h (fU.1 k);rw[OQ];refine YS aD ?_;have z:4294967296 ^ ae (aO a)<=4294967296 ^ (ae (aO a)+1 - ae (aO b))*b:=by refine XX (ZY (by decide) (show ae (aO a)<=(ae (aO a)+1 - ae (aO b))+(ae (aO b) - 1) by omega)) ?_;rw[aan];exact Nat.mul_le_mul_left _ y
 have w:=Yf x z;have:((4294967296 ^ (ae (aO a)+1 - ae (aO b)):Nat):Int)*(b:Int)=((4294967296 ^ (ae (aO a)+1 - ae (aO b))*b:Nat):Int):=by rw[YT]
 rw[this];omega
def nX (n m:Int):n.sign*m.sign=1\/n.sign*m.sign = -1\/n.sign*m.sign=0:=by rcases gh n with h | h | h<;>rcases gh m with g | g | g<;>rw[h,g]<;>decide
def HR (n m:Int) (A:m≠0) (hn:Dg 4000000000 n) (hm:Dg 4000000000 m):a9 prog 112 [zA n,zA m] (.bI [zA (n.tdiv m),zA (n.tmod m)]):=by
 have ln:=hn.len;have lm:=hm.len;refine pw func112 ?_;have ⟨D,j⟩:=Fi n m;have j:=j A;have x:∀(a b:Int) H,a=n.tdiv m->b=n.tmod m->Fin 0 (.bI [zA a,zA b]) H (.bI [zA (n.tdiv m),zA (n.tmod m)]) []:=fun a b H E F=>by rw[E,F];refine iZ ?_;show (rr 0 (zA _)&&(rr 0 (zA _)&&aq))=aq;rw[Gj,Gj];rfl
 by_cases T:Sm n/\Sm m
 .have ⟨f,W⟩:=T;have E:=jv f;have F:=jv W;have c1:Sm (n.tdiv m):=by
   have:ay (n.tdiv m)<=ay n:=by rw[Int.natAbs_tdiv];exact Nat.div_le_self _ _
   unfold Sm at *;omega
  have c2:Sm (n.tmod m):=by
   have:ay (n.tmod m)<=ay n:=by rw[Int.natAbs_tmod];exact Nat.mod_le _ _
   unfold Sm at *;omega
  have w1:au .i64 (n.tdiv m)=n.tdiv m:=wrap_i64 (by unfold Sm at *;omega) (by unfold Sm at *;omega);have L:(m=0)=False:=Xh A;simp only[go_sem,↓reduceIte,Nat.reduceLeDiff,WY,f,W,E,F,w1,L,aaf,X6];have:=x (n.tdiv m) (n.tmod m);rw[vM c1,vM c2] at this ⊢;exact this _ rfl rfl
 .have M:(¬Sm n)\/(Sm n/\¬Sm m):=by
   by_cases h:Sm n
   .exact .inr ⟨h,fun g=>T ⟨h,g⟩⟩
   .exact .inl h
  have ⟨C,v⟩:=ep (ay n);have ⟨K,X⟩:=ep (ay m);have o:aO (ay m)≠[]:=fun h=>A (by rw[fU] at h;omega);have a0:0 < ae (aO (ay m)):=Zc.2 o;have ws:au .i64 (n.sign*m.sign)=n.sign*m.sign:=by rcases nX n m with h | h | h<;>rw[h]<;>decide
  have c:n.sign=0->n=0:=fun h=>XM.1 h;have w:n.sign*m.sign=0->n=0:=fun h=>by
   rcases Int.mul_eq_zero.1 h with h | h
   .exact c h
   .exact absurd (XM.1 h) A
  rcases M with f | ⟨f,W⟩
  case' inl=>simp only[go_sem,↓reduceIte,WY,f]
  case' inr=>simp only[go_sem,↓reduceIte,WY,f,W]
  all_goals refine aG (EN n) (by simp[bf]) rfl ?_
  all_goals simp only[go_sem,↓reduceIte,WY]
  all_goals refine aG (EN m) (by simp[bf]) rfl ?_
  all_goals simp only[go_sem,↓reduceIte]
  all_goals refine aG (C6 (aO (ay n)) (aO (ay m)) aD aD v X (iF _) (iF _) ar ar) rfl rfl ?_
  all_goals (
   rw[C,K]
   by_cases hc:ay n < ay m
   .have z:((ay n:Int) - (ay m:Int)).sign < 0:=aaa.2 aD
    refine Y1 z ?_
    have:=x 0 n
    rw[vM xT] at this
    refine this _ ?_ ?_
    .rw[D,Int.ediv_eq_zero_of_lt (by omega) (by omega),Zk]
    .rw[j,ZG (by omega) (by omega),Int.sign_mul_natAbs]
   .have z:¬((ay n:Int) - (ay m:Int)).sign < 0:=fun h=>hc (by have:=aaa.1 h;omega)
    by_cases l:(ae (aO (ay m)):Int)=1
    .obtain ⟨k,e⟩:∃k,aO (ay m)=[k]:=by
      match aO (ay m),l with
      | [k],_=>exact ⟨k,rfl⟩
      | [],h=>simp at h
      | _::_::_,h=>simp at h;omega
     have t:val [k]=ay m:=by rw[<-e];exact K
     have a3:0<=k/\k < 4294967296:=by have:=X k (by rw[e];simp);simpa[B32] using this
     simp only[val,Zk,aav] at t
     have ⟨R,V,S,D4⟩:=wV (y:=k) aD v
     have z1:af ([k]:List Int) 0 0=k:=rfl
     have i:(ah:Int)=0:=rfl
     have I:(((1:Nat):Int)=1)=True:=aK
     have G:((0:Int) < ((1:Nat):Int))=True:=aK
     refine Y6 z e i z1 I G ?_
     refine cX (NY (aO (ay n)) k aD v aD ar) ?_
     have B:val (et (aO (ay n)) k).1=(ay n:Int) / ay m/\(et (aO (ay n)) k).2=(ay n:Int) % ay m:=by rw[C] at R;rw[<-t];have:=(abN (show 0 < k by omega) (a:=(ay n:Int)) (q:=val (et (aO (ay n)) k).1) (r:=(et (aO (ay n)) k).2)).2 ⟨by rw[R,Yg k];omega,S,D4⟩;exact ⟨this.1.symm,this.2.symm⟩
     have U:=KM (aO (ay n)) k
     generalize hQ:(et (aO (ay n)) k).1=P at *
     generalize hR:(et (aO (ay n)) k).2=rd at *
     refine Y1 ws ?_
     refine aG (Be (n.sign*m.sign) P (nX n m) aD V ar (fun h=>by rw[B.1,w h];simp)) rfl (bf _) ?_
     simp only[go_sem,↓reduceIte,Ok]
     refine aG (Be n.sign [rd] (gh n) aK (.cons ⟨S,by simp only[B32];omega⟩ .nil) aq (fun h=>by rw[B.2,c h];simp[val])) rfl (bf _) ?_
     refine Y ?_
     exact x _ _ _ (by rw[D,B.1]) (by rw[j,<-B.2];simp[val])
    .have J:ae (aO (ay m))<=ae (aO (ay n)):=vR (by omega)
     refine Y2 z l ?_
     refine cX (Pk (aO (ay n)) (aO (ay m)) v X aD aD J (iF _) ar ar) ?_
     have q0:(0:Int)<=(ay n:Int) / ay m:=Zg aD aD
     have r0:(0:Int)<=(ay n:Int) % ay m:=YK _ aD
     have r1:(ay n:Int) % ay m < B32 ^ ae (aO (ay m)):=by have h1:=Yk (ay n:Int) (show (0:Int) < ay m by omega);have h2:=iM X;rw[K] at h2;omega
     have p:=z8 q0 (OX (a:=ay n) (b:=ay m) aD)
     have s:=z8 r0 r1
     have a1:=EO (ae (aO (ay n))+1 - ae (aO (ay m))) ((ay n:Int) / ay m)
     have a2:=EO (ae (aO (ay m))) ((ay n:Int) % ay m)
     rw[C,K]
     have N:=GF (ae (aO (ay n))+1 - ae (aO (ay m))) ((ay n:Int) / ay m)
     have O:=GF (ae (aO (ay m))) ((ay n:Int) % ay m)
     generalize mT (ae (aO (ay n))+1 - ae (aO (ay m))) ((ay n:Int) / ay m)=P at *
     generalize mT (ae (aO (ay m))) ((ay n:Int) % ay m)=rd at *
     refine Y1 ws ?_
     refine aG (Be (n.sign*m.sign) P (nX n m) aD N ar (fun h=>by rw[p,w h];simp)) rfl (bf _) ?_
     refine Y ?_
     refine aG (Be n.sign rd (gh n) aD O ar (fun h=>by rw[s,c h];simp)) rfl (bf _) ?_
     refine Y ?_
     exact x _ _ _ (by rw[D,p]) (by rw[j,s]))
end Go.Fx
