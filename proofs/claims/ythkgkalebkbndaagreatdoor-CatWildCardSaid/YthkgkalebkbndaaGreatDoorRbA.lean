/- Rb: a translator of the IR into pure functions (definitions). Own work. -/
import Derived.Calls
import Derived.LoopN
import Derived.Laws.Sem
import Derived.Laws.Cells
set_option autoImplicit false
set_option linter.unusedVariables false
set_option linter.unusedSimpArgs false
open Array renaming getElem?_modify->BT,length_toList->AN
open BitVec renaming ofInt->AZ
open Bool renaming and_eq_true->Af
open Go.Addr renaming add->CO
open Go.Addr.mk renaming injEq->B0
open Go.IntKind renaming u8->A6
open Go.Obj.cells renaming injEq->CM
open Go.Operand renaming tmp->E3
open Go.Result renaming andThen_ok->AI
open Go.ResultVar renaming tmp->ES
open Go.Sem renaming run_bind->AK
open Go.Value renaming int->Cv
open Go.Value.pointer renaming injEq->C9
open Go.Value.slice renaming injEq->AR
open Go.World renaming cell?->C5,setCell->Do
open HEq renaming rfl->Dg
open List renaming append_assoc->Ae,append_nil->A9,drop_append->Fm,drop_append_of_le_length->Cx,drop_drop->FB,drop_eq_getElem_cons->CN,drop_of_length_le->Db,drop_take->F9,eq_nil_of_length_eq_zero->Bm,ext_getElem?->Dv,flatten_cons->Bt,getD->BC,getElem?_append->Dh,getElem?_drop->Bg,getElem?_eq_getElem->Bb,getElem?_eq_none->BW,getElem?_set_ne->C4,getElem?_take->AV,getElem_of_mem->Bf,getElem_set_ne->CD,getElem_set_self->BE,length_append->Ac,length_cons->Bd,length_set->Bx,length_take->A7,mem_append->Aq,mem_append_left->Am,mem_append_right->Al,mem_cons->A3,mem_cons_of_mem->AE,mem_flatten->B6,nodup_append->Ak,nodup_cons->AO,nodup_nil->Ax,perm_append_comm->Aw,range->Ck,replicate->As,take_append_drop->Bw,take_append_of_le_length->C3,take_take->FA
open List.Perm renaming append_left->Ay,append_right->Az,cons->B7,nil_eq->BP,refl->BO
open List.cons renaming injEq->AG
open Nat renaming add_zero->Ee,beq->AB,blt->Fl,eq_of_beq_eq_true->AF,le_refl->Ar,le_trans->AM,lt_of_lt_of_le->AU,lt_or_ge->BQ,mul_le_mul_right->Ai,mul_one->Dq,succ_mul->AC,zero_mul->HU
open Ne renaming symm->BM
open Option renaming bind_some->Ab
open Option.some renaming inj->Ag,injEq->Ad
open Prod.mk renaming injEq->Aj
namespace Go.Rb
inductive Md where
 |imm|own|hole
 deriving DecidableEq
inductive Lf where
 |cfn (f:Nat)|hnd|nil0|nlb
 |fmap (l:List (Int×Nat×Nat))|cfs (l:List (Int×Nat))
 deriving DecidableEq
@[reducible] def Lf.den:Lf→Type
 |.cfn _=>Unit
 |.hnd=>List Int
 |.nil0=>Unit
 |.nlb=>List Int
 |.fmap _=>Unit
 |.cfs _=>Int
def Lf.dflt:(k:Lf)→k.den
 |.cfn _=>()
 |.hnd=>[]
 |.nil0=>()
 |.nlb=>[]
 |.fmap _=>()
 |.cfs _=>(0:Int)
def d0q:List (Int×Nat)→Int→Bool
 |[],_=>false
 |(q,_)::l,x=>match decide (x=q) with
  |true=>true
  |false=>d0q l x
def cfsV:List (Int×Nat)→Int→Value
 |[],_=>.nilFunc
 |(q,f)::l,x=>if x=q then .func (.func f) #[] #[] else cfsV l x
inductive Ty where
 |int (k:IntKind)|bool|str|err
 |sl (m:Md) (e:Nat) (t:Ty)
 |slh (e:Nat) (t:Ty)
 |fn (a b:Ty)|fn2 (a b c:Ty)
 |ptr (t:Ty)
 |st (t:Ty)
 |pair (a b:Ty)
 |unit
 |arr (n:Nat) (t:Ty)
 |lf (k:Lf)
 deriving DecidableEq
inductive UV where
 |nil|sent (g:Nat)|int (k:IntKind) (n:Int)|str (l:List Int)|bool (b:Bool)|unit
 |node (t:Nat) (p:UV)|pair (a b:UV)
 deriving DecidableEq
def UV.top:UV→Bool
 |.nil|.sent _|.node _ _=>true
 |_=>false
@[reducible] def Ty.den:Ty→Type
 |.int _=>Int
 |.bool=>Bool
 |.str=>List Int
 |.err=>UV
 |.sl _ _ t=>List t.den
 |.slh _ t=>Int×List t.den
 |.fn a b=>a.den→Option b.den
 |.fn2 a b c=>a.den→b.den→Option c.den
 |.ptr t=>t.den
 |.st t=>t.den
 |.pair a b=>a.den×b.den
 |.unit=>Unit
 |.arr _ t=>List t.den
 |.lf k=>k.den
def Ty.dflt:(t:Ty)→t.den
 |.int _=>(0:Int)
 |.bool=>false
 |.str=>[]
 |.err=>UV.nil
 |.sl _ _ _=>[]
 |.slh _ _=>(0,[])
 |.fn _ _=>fun _=>none
 |.fn2 _ _ _=>fun _ _=>none
 |.ptr t=>t.dflt
 |.st t=>t.dflt
 |.pair a b=>(a.dflt,b.dflt)
 |.unit=>()
 |.arr n t=>As n t.dflt
 |.lf k=>k.dflt
def Ty.size:Ty→Nat
 |.st t=>t.size
 |.pair a b=>a.size+b.size
 |.unit=>0
 |.arr n t=>n*t.size
 |_=>1
def Ty.agg:Ty→Bool
 |.st _|.arr _ _=>true
 |_=>false
def Ty.pure:Ty→Bool
 |.sl .imm _ t=>t.pure
 |.sl _ _ _|.slh _ _=>false
 |.st t|.arr _ t=>t.pure
 |.pair a b=>a.pure&&b.pure
 |_=>true
def Ty.whole:Ty→Bool
 |.sl .hole _ _|.slh _ _=>false
 |.sl _ _ t=>t.whole
 |.st t|.arr _ t=>t.whole
 |.pair a b=>a.whole&&b.whole
 |_=>true
def Ty.imm:Ty→Ty
 |.sl _ e t=>.sl .imm e t.imm
 |.slh e t=>.sl .imm e t.imm
 |.st t=>.st t.imm
 |.arr n t=>.arr n t.imm
 |.pair a b=>.pair a.imm b.imm
 |t=>t
def Ty.left:Ty→Ty
 |.sl .own e t=>.sl .hole e t
 |.st t=>.st t.left
 |.pair a b=>.pair a.left b.left
 |t=>t
def Ty.zero:Ty→Ty
 |.sl _ e t=>.sl .own e t
 |.st t=>.st t.zero
 |.pair a b=>.pair a.zero b.zero
 |t=>t
def b6z(l:List (Int×Nat×Nat)):Ty:=.st (.pair (.lf (.cfs (l.map fun q=>(q.1,q.2.1)))) (.pair (.lf (.cfs (l.map fun q=>(q.1,q.2.2)))) .unit))
def zeroCells:Ty→Option (List Value)
 |.int k=>some [.int k 0]
 |.bool=>some [.bool false]
 |.str=>some [.string ⟨#[]⟩]
 |.err=>some [.nilIface]
 |.sl _ _ _=>some [.slice none 0 0]
 |.st t=>zeroCells t
 |.unit=>some []
 |.pair a b=>match zeroCells a,zeroCells b with
  |some x,some y=>some (x++y)
  |_,_=>none
 |.arr n t=>match t.pure,zeroCells t with
  |true,some x=>some (As n x).flatten
  |_,_=>none
 |.lf (.cfs l)=>match d0q l 0 with
  |true=>none
  |false=>some [.nilFunc]
 |_=>none
def Md.le:Md→Md→Bool
 |.imm,.imm|.own,.own|.own,.imm|.hole,.hole=>true
 |_,_=>false
def Ty.le:Ty→Ty→Bool
 |.sl m e t,.sl m' e' t'=>m.le m'&&AB e e'&&t.le t'&&(match m' with|.imm=>t'.pure|_=>true)
 |.st t,.st t'=>t.le t'
 |.arr n t,.arr n' t'=>AB n n'&&t.le t'
 |.pair a b,.pair a' b'=>a.le a'&&b.le b'
 |t,t'=>decide (t=t')
def Ty.dEq:(a b:Ty)→Option (PLift (a.den=b.den))
 |.sl _ _ t,.sl _ _ t'=>match t.dEq t' with
  |some ⟨h⟩=>some ⟨congrArg List h⟩
  |none=>none
 |.st t,.st t'=>t.dEq t'
 |.arr _ t,.arr _ t'=>match t.dEq t' with
  |some ⟨h⟩=>some ⟨congrArg List h⟩
  |none=>none
 |.pair a b,.pair a' b'=>match a.dEq a',b.dEq b' with
  |some ⟨h⟩,some ⟨h'⟩=>some ⟨by show(a.den×b.den)=(a'.den×b'.den);rw[h,h']⟩
  |_,_=>none
 |t,t'=>if h:t=t' then some ⟨congrArg Ty.den h⟩ else none
variable {R:Type}
def b0f(a b:Ty)(x:a.den)(k:b.den→Option R):Option R :=
 match a.le b with
 |true=>match a.dEq b with
  |some ⟨h⟩=>k (cast h x)
  |none=>none
 |false=>none
def d6r(a b:Ty)(x:a.den)(k:b.den→Option R):Option R :=
 match a,x,b,k with
 |.lf .hnd,x,.sl .imm 1 (.int .u8),k=>k x
 |.lf .nlb,x,.sl .imm 1 (.int .u8),k=>k x
 |a,x,b,k=>b0f a b x k
def c5u(a b:Ty)(x:a.den)(k:b.den→Option R):Option R :=
 if h:a=b then k (cast (congrArg Ty.den h) x) else none
inductive Stp where
 |f (i:Nat)|a (k:Int)
structure Pl where
 root:Nat
 p1:List Stp
 ix:Option (Int×List Stp)
inductive SV where
 |none
 |val (t:Ty) (x:t.den)
 |box (t:Ty) (x:t.den)
 |pv (t:Ty) (x:t.den)
 |ptr (p:Pl) (v c:Nat)
 |ali (p:Pl) (v c:Nat)
 |sub (p:Pl) (v c:Nat) (lo hi:Int)
 |pts (l:List (Pl×Nat×Nat))
 |pte (s v j:Nat)
 |nls
 |nlp
 |fnc (f:Nat)
 |und
 |kb (b:Bool)
 |tup (l:List ((t:Ty)×t.den))
structure Ent where
 v:Nat
 c:Nat
 s:SV
abbrev En:=List (Nat×Ent)
def En.get:En→Nat→Ent
 |[],_=>⟨0,0,.none⟩
 |(j,x)::e,i=>match AB j i with
  |true=>x
  |false=>En.get e i
inductive Bump where
 |no|cont|slot
def Ent.bump(x:Ent):Bump→SV→Ent
 |.no,s=>⟨x.v,x.c,s⟩
 |.cont,s=>⟨x.v,x.c+1,s⟩
 |.slot,s=>⟨x.v+1,x.c,s⟩
structure Up where
 d:Nat
 b:Bump
 s:SV
def En.app(e:En):List Up→En
 |[]=>e
 |u::us=>En.app ((u.d,(e.get u.d).bump u.b u.s)::e) us
def upd(r:Nat→Ent):List Up→Nat→Ent
 |[]=>r
 |u::us=>upd (fun i=>match AB u.d i with|true=>(r u.d).bump u.b u.s|false=>r i) us
def comp:(t:Ty)→t.den→Nat→((t':Ty)→t'.den→Option R)→Option R
 |.pair a _,x,0,k=>k a x.1
 |.pair _ b,x,i+1,k=>comp b x.2 i k
 |_,_,_,_=>none
def b2z:(p:List Stp)→(t:Ty)→t.den→((t':Ty)→t'.den→Option R)→Option R
 |[],t,x,k=>k t x
 |.f i::p,.st t,x,k=>comp t x i fun t' x'=>b2z p t' x' k
 |.a j::p,.arr _ t,l,k=>b2z p t (l.getD j.toNat t.dflt) k
 |_,_,_,_=>none
def a3m(p:Pl)(t:Ty)(x:t.den)(k:(t':Ty)→t'.den→Option R):Option R :=
 b2z p.p1 t x fun t' x'=>match p.ix with
  |none=>k t' x'
  |some (j,q)=>match t',x' with
   |.sl .own _ te,l=>b2z q te (l.getD j.toNat te.dflt) k
   |_,_=>none
def e7d:(t:Ty)→t.den→Nat→(t2:Ty)→t2.den→((t':Ty)→t'.den→Option R)→Option R
 |.pair _ b,x,0,t2,y,k=>k (.pair t2 b) (y,x.2)
 |.pair a b,x,i+1,t2,y,k=>e7d b x.2 i t2 y fun b' x'=>k (.pair a b') (x.1,x')
 |_,_,_,_,_,_=>none
def b5s:(p:List Stp)→(t:Ty)→t.den→(t2:Ty)→t2.den→((t':Ty)→t'.den→Option R)→Option R
 |[],_,_,t2,y,k=>k t2 y
 |.f i::p,.st t,x,t2,y,k=>comp t x i fun t1 x1=>b5s p t1 x1 t2 y fun t1' y'=>e7d t x i t1' y' fun t' x'=>k (.st t') x'
 |.a j::p,.arr n t,l,t2,y,k=>b5s p t (l.getD j.toNat t.dflt) t2 y fun t' y'=>c5u t' t y' fun y''=>k (.arr n t) (l.set j.toNat y'')
 |_,_,_,_,_,_=>none
def c0p(t2:Ty)(y:t2.den)(p:Pl)(t:Ty)(x:t.den)(k:(t':Ty)→t'.den→Option R):Option R :=
 b2z p.p1 t x fun t0 x0=>match p.ix with
  |none=>match decide (t2.imm=t0.imm) with
   |true=>b5s p.p1 t x t2 y k
   |false=>none
  |some (j,q)=>match t0,x0 with
   |.sl .own e te,l=>b2z q te (l.getD j.toNat te.dflt) fun t3 _=>match decide (t2.imm=t3.imm) with
    |true=>b5s q te (l.getD j.toNat te.dflt) t2 y fun te' y'=>c5u te' te y' fun y''=>b5s p.p1 t x (.sl .own e te) (l.set j.toNat y'') k
    |false=>none
   |.slh e te,x0=>match q with
    |[]=>c5u t2 te y fun y'=>if j=x0.1 then b5s p.p1 t x (.sl .own e te) (x0.2.set j.toNat y') k else none
    |_=>none
   |_,_=>none
def b6p(p:Pl)(t:Ty)(x:t.den)(k:(t':Ty)→t'.den→Option R):Option R :=
 b2z p.p1 t x fun t0 x0=>match p.ix with
  |none=>match t0.whole,t0.dEq t0.left with
   |true,some ⟨h⟩=>b5s p.p1 t x t0.left (cast h x0) k
   |_,_=>none
  |some (j,[])=>match t0,x0 with
   |.sl .own e te,l=>b5s p.p1 t x (.slh e te) (j,l) k
   |_,_=>none
  |_=>none
inductive Org where
 |none|root (i:Nat)|place (p:Pl)
def room:Nat:=140737488355328
def a2c(s:ByteArray):List Int:=s.data.toList.map fun b=>(b.toNat:Int)
def Pl.idx(p:Pl):Bool:=p.ix.isSome
def c2s(r:Nat→Ent)(p:Pl)(v c:Nat)(k:(t:Ty)→t.den→Option R):Option R :=
 match AB (r p.root).v v&&AB (r p.root).c c with
 |true=>match(r p.root).s with
  |.val t x=>k t x
  |.box t x=>k t x
  |_=>none
 |false=>none
def lit(c:Value)(k:(t:Ty)→t.den→Option R):Option R :=
 match c with
 |.int kd n=>match decide (kd.min≤n∧n≤kd.max) with
  |true=>k (.int kd) n
  |false=>none
 |.bool b=>k .bool b
 |.string s=>match decide (s.size≤room) with
  |true=>k .str (a2c s)
  |false=>none
 |.nilIface=>k .err UV.nil
 |_=>none
def view(r:Nat→Ent)(o:Operand)(k:(t:Ty)→t.den→Org→Option R):Option R :=
 match o with
 |.const c=>lit c fun t x=>k t x .none
 |.tmp i=>match(r i).s with
  |.val t x=>k t x (.root i)
  |.ali p v c=>c2s r p v c fun t x=>a3m p t x fun t' x'=>k t' x' (.place p)
  |.pv t x=>k (.ptr t) x .none
  |.kb b=>k .bool b .none
  |_=>none
 |_=>none
def putK(r:Nat→Ent)(p:Pl)(bump:Bump)(t:Ty)(x:t.den)(k:List Up→Option R):Option R :=
 match(r p.root).s with
 |.val t0 x0=>c0p t x p t0 x0 fun t' x'=>k [⟨p.root,bump,.val t' x'⟩]
 |.box t0 x0=>c0p t x p t0 x0 fun t' x'=>k [⟨p.root,bump,.box t' x'⟩]
 |_=>none
def frzK(r:Nat→Ent)(t:Ty)(x:t.den)(o:Org)(k:List Up→Option R):Option R :=
 match t.pure with
 |true=>k []
 |false=>b0f t t.imm x fun y=>match o with
  |.root i=>k [⟨i,.no,.val t.imm y⟩]
  |.place p=>putK r p .no t.imm y k
  |_=>none
def c4o(r:Nat→Ent)(o:Org)(k:List Up→Option R):Option R :=
 match o with
 |.root i=>k [⟨i,.slot,.none⟩]
 |.place p=>match(r p.root).s with
  |.val t0 x0=>b6p p t0 x0 fun t' x'=>k [⟨p.root,.no,.val t' x'⟩]
  |.box t0 x0=>b6p p t0 x0 fun t' x'=>k [⟨p.root,.no,.box t' x'⟩]
  |_=>none
 |_=>none
inductive PS where
 |val (t:Ty)|io (t:Ty)|sio (t:Ty)
inductive RS where
 |val (t:Ty)|box (t:Ty)
@[reducible] def PS.den:PS→Type
 |.val t=>t.den
 |.io t=>t.den
 |.sio t=>t.den
@[reducible] def RS.den:RS→Type
 |.val t=>t.den
 |.box t=>t.den
@[reducible] def a3a:List PS→Type
 |[]=>Unit
 |p::ps=>p.den×a3a ps
@[reducible] def b7i:List RS→Type
 |[]=>Unit
 |p::ps=>p.den×b7i ps
@[reducible] def b3g:List PS→Type
 |[]=>Unit
 |.val _::ps=>b3g ps
 |.io t::ps=>t.den×b3g ps
 |.sio t::ps=>t.den×b3g ps
structure Sig where
 ps:List PS
 rs:List RS
@[reducible] def Sig.arg (s:Sig):Type:=a3a s.ps
@[reducible] def Sig.res (s:Sig):Type:=b7i s.rs×b3g s.ps
structure FEnt where
 sig:Sig
 fn:sig.arg→Option sig.res
structure Ctx where
 nt:Nat
 ty:Nat→Option Ty
 ft:Nat→Option FEnt
 gl:Nat→Option ((t:Ty)×t.den)
 prot:List Nat
 frz:List Nat
 el:List Nat
def e6m(C:Ctx)(f:Nat)(t:Ty)(k:t.den→Option R):Option R :=
 match C.ft f with
 |some ⟨⟨[.val a],[.val b]⟩,g⟩=>match b.pure with
  |true=>b0f (.fn a b) t (fun x=>(g (x,())).bind fun y=>some y.1.1) k
  |false=>none
 |some ⟨⟨[.val a,.val b],[.val c]⟩,g⟩=>match c.pure with
  |true=>b0f (.fn2 a b c) t (fun x y=>(g (x,y,())).bind fun z=>some z.1.1) k
  |false=>none
 |_=>none
def fnT(C:Ctx)(f:Nat)(t:Ty)(k:t.den→Option R):Option R :=
 match t,k with
 |.lf (.cfn g),k=>match AB f g with
  |true=>k ()
  |false=>none
 |t,k=>e6m C f t k
def subT(r:Nat→Ent)(p:Pl)(v c:Nat)(lo hi:Int)(t:Ty)(k:t.den→List Up→Option R):Option R :=
 match lo with
 |.ofNat 0=>c2s r p v c fun t0 x0=>a3m p t0 x0 fun t' x'=>match t',x' with
  |.sl .own e te,l=>c4o r (.place p) fun us=>b0f (.sl .own e te) t (l.take hi.toNat) fun y=>k y us
  |_,_=>none
 |_=>none
def asT0(C:Ctx)(r:Nat→Ent)(o:Operand)(t:Ty)(k:t.den→List Up→Option R):Option R :=
 match o with
 |.func f=>fnT C f t fun x=>k x []
 |.const (.slice none 0 0)=>match t with
  |.sl _ _ t'=>k ([]:List t'.den) []
  |_=>none
 |.tmp i=>match(r i).s with
  |.nls=>match t with
   |.sl _ _ t'=>k ([]:List t'.den) []
   |_=>none
  |.fnc f=>fnT C f t fun x=>k x []
  |.sub p v c lo hi=>subT r p v c lo hi t k
  |_=>go
 |_=>go
 where
 go:Option R:=view r o fun t' x org=>d6r t' t x fun y=>match t.pure with
  |false=>c4o r org fun ups=>k y ups
  |true=>frzK r t' x org fun ups=>k y ups
def e2w(r:Nat→Ent)(o:Operand):Bool :=
 match o with
 |.const (.slice none 0 0)=>true
 |.tmp i=>match(r i).s with
  |.nls=>true
  |_=>false
 |_=>false
def g4z(r:Nat→Ent)(o:Operand):Bool :=
 match o with
 |.tmp i=>match(r i).s with
  |.val (.lf .nlb) _=>true
  |_=>false
 |_=>false
def asT(C:Ctx)(r:Nat→Ent)(o:Operand)(t:Ty)(k:t.den→List Up→Option R):Option R :=
 match t,k with
 |.lf .nil0,k=>match e2w r o with
  |true=>k () []
  |false=>asT0 C r o (.lf .nil0) k
 |.lf .nlb,k=>match e2w r o,g4z r o with
  |true,_=>k ([]:List Int) []
  |false,true=>asT0 C r o (.lf .nlb) k
  |false,false=>asT0 C r o (.sl .imm 1 (.int .u8)) fun l us=>match(l:List Int) with
   |[]=>none
   |_::_=>k l us
 |t,k=>asT0 C r o t k
end Go.Rb

namespace Go.Rb
variable {R:Type}
def fin(dst:Option Nat)(s:SV)(ups:List Up)(k:List Up→Option R):Option R :=
 match dst with
 |some d=>k (ups++[⟨d,.slot,s⟩])
 |none=>k ups
def locK(C:Ctx)(r:Nat→Ent)(o:Operand)(kp:(t:Ty)→t.den→Option R)(kl:Pl→Nat→Nat→(t:Ty)→t.den→Option R):Option R :=
 match o with
 |.global g=>match C.gl g with
  |some ⟨t,x⟩=>kp t x
  |none=>none
 |.tmp i=>match(r i).s with
  |.pv t x=>kp t x
  |.box t x=>kl ⟨i,[],none⟩ (r i).v (r i).c t x
  |.ptr p v c=>match AB (r p.root).v v&&(!p.idx||AB (r p.root).c c) with
   |true=>match(r p.root).s with
    |.val t x=>a3m p t x fun t' x'=>kl p v (r p.root).c t' x'
    |.box t x=>a3m p t x fun t' x'=>kl p v (r p.root).c t' x'
    |_=>none
   |false=>none
  |_=>none
 |_=>none
def d5v(p:Pl)(v c:Nat):SV:=.ptr p v (match p.ix with|none=>0|some _=>c)
def Ty.beq:(t:Ty)→t.den→t.den→Option Bool
 |.int _,x,y=>some (decide (x=y))
 |.bool,x,y=>some (x==y)
 |.str,x,y=>some (decide (x=y))
 |.st t,x,y=>t.beq x y
 |.pair a .unit,x,y=>a.beq x.1 y.1
 |.pair a b,x,y=>match a.beq x.1 y.1,b.beq x.2 y.2 with
  |some p,some q=>some (p&&q)
  |_,_=>none
 |.unit,_,_=>some true
 |_,_,_=>none
def Pl.step(p:Pl)(s:Stp):Pl :=
 match p.ix with
 |none=>⟨p.root,p.p1++[s],none⟩
 |some (j,q)=>⟨p.root,p.p1,some (j,q++[s])⟩
def Pl.at(p:Pl)(j:Int):Pl:=⟨p.root,p.p1,some (j,[])⟩
def Pl.whole(p:Pl):Bool :=
 match p.ix,p.p1 with
 |none,[]=>true
 |_,_=>false
def bits(op:BinOp)(k:IntKind)(x y:Int):Int :=
 let a:=AZ k.bits x
 let b:=AZ k.bits y
 match op with
 |.and=>k.wrap (a &&& b).toNat
 |.or=>k.wrap (a ||| b).toNat
 |.xor=>k.wrap (a ^^^ b).toNat
 |_=>k.wrap (a &&& ~~~b).toNat
def b3y:List Int→List Int→Bool
 |_,[]=>false
 |[],_::_=>true
 |a::x,b::y=>decide (a<b)||(decide (a=b)&&b3y x y)
def e5j(op:BinOp)(kd:IntKind)(x y:Int)(k:(t:Ty)→t.den→Option R):Option R :=
 match op with
 |.add=>k (.int kd) (kd.wrap (x+y))
 |.sub=>k (.int kd) (kd.wrap (x - y))
 |.mul=>k (.int kd) (kd.wrap (x*y))
 |.quo=>if y=0 then none else k (.int kd) (kd.wrap (x.tdiv y))
 |.rem=>if y=0 then none else k (.int kd) (x.tmod y)
 |.and=>k (.int kd) (bits .and kd x y)
 |.or=>k (.int kd) (bits .or kd x y)
 |.xor=>k (.int kd) (bits .xor kd x y)
 |.andNot=>k (.int kd) (bits .andNot kd x y)
 |.shl=>if y<0 then none else k (.int kd) (kd.wrap (x*2 ^ min y.toNat kd.bits))
 |.shr=>if y<0 then none else k (.int kd) (x.fdiv (2 ^ min y.toNat kd.bits))
 |.eql=>k .bool (decide (x=y))
 |.neq=>k .bool (!decide (x=y))
 |.lss=>k .bool (decide (x<y))
 |.leq=>k .bool (decide (x≤y))
 |.gtr=>k .bool (decide (y<x))
 |.geq=>k .bool (decide (y≤x))
def e5e(op:BinOp)(x y:List Int)(k:(t:Ty)→t.den→Option R):Option R :=
 match op with
 |.add=>if x.length+y.length≤140737488355328 then k .str (x++y) else none
 |.eql=>k .bool (decide (x=y))
 |.neq=>k .bool (!decide (x=y))
 |.lss=>k .bool (b3y x y)
 |.leq=>k .bool (b3y x y||decide (x=y))
 |.gtr=>k .bool (b3y y x)
 |.geq=>k .bool (!b3y x y)
 |_=>none
def c8h:BinOp→Bool
 |.shl|.shr=>true
 |_=>false
def Ty.eqOK:Ty→Bool
 |.int _|.bool|.str|.unit=>true
 |.st t=>t.eqOK
 |.pair a b=>a.eqOK&&b.eqOK
 |_=>false
def Ty.nest:Ty→Nat
 |.st t=>t.nest+1
 |.pair a b=>a.nest+b.nest
 |_=>0
def isC:Operand→Bool
 |.const _=>true
 |_=>false
def binK(C:Ctx)(op:BinOp)(T:Nat)(con:Bool)(t:Ty)(x:t.den)(t':Ty)(y:t'.den)(k:(t:Ty)→t.den→Option R):Option R :=
 match t,x,t',y with
 |.int kd,x,.int kd',y=>match decide (kd=kd')||c8h op with
  |true=>e5j op kd x y k
  |false=>none
 |.str,x,.str,y=>e5e op x y k
 |.bool,x,.bool,y=>match C.ty T with
  |some .bool=>match op with
   |.eql=>k .bool (x==y)
   |.neq=>k .bool (!(x==y))
   |_=>none
  |_=>none
 |.err,x,.err,y=>match C.ty T,con,y with
  |some .err,true,.nil=>match op with
   |.eql=>k .bool (decide (x=UV.nil))
   |.neq=>k .bool (!decide (x=UV.nil))
   |_=>none
  |_,_,_=>none
 |.st t,x,.st t',y=>match C.ty T with
  |some t1=>match decide (t1=.st t)&&Fl t.nest 9000&&t.eqOK with
   |true=>c5u (.st t') (.st t) y fun y'=>match t.beq x y' with
    |some b=>match op with
     |.eql=>k .bool b
     |.neq=>k .bool (!b)
     |_=>none
    |none=>none
   |false=>none
  |none=>none
 |_,_,_,_=>none
def unK(op:UnOp)(t:Ty)(x:t.den)(k:(t:Ty)→t.den→Option R):Option R :=
 match op,t,x with
 |.not,.bool,b=>k .bool (!b)
 |.neg,.int kd,n=>k (.int kd) (kd.wrap (0 - n))
 |.xor,.int kd,n=>k (.int kd) (bits .xor kd (if kd.signed then -1 else kd.max) n)
 |_,_,_=>none
def anyT(C:Ctx)(r:Nat→Ent)(o:Operand)(want:Option Ty)(k:(t:Ty)→t.den→List Up→Option R):Option R :=
 match o with
 |.const (.slice none 0 0)=>match want with
  |some (.sl _ e t')=>k (.sl .own e t') ([]:List t'.den) []
  |_=>none
 |.tmp i=>match(r i).s with
  |.nls=>match want with
   |some (.sl _ e t')=>k (.sl .own e t') ([]:List t'.den) []
   |_=>none
  |_=>go
 |_=>go
 where
 go:Option R:=view r o fun t x org=>match t.pure with
  |true=>k t x []
  |false=>c4o r org fun ups=>k t x ups
def f6e:Ty→Nat→Option Ty
 |.pair a _,0=>some a
 |.pair _ b,i+1=>f6e b i
 |_,_=>none
def c9e(C:Ctx):List (Nat×Operand)→(Nat→Ent)→List Up→(t:Ty)→t.den→((t:Ty)→t.den→List Up→Option R)→Option R
 |[],_,us,t,x,k=>k t x us
 |(i,o)::ps,r,us,t,x,k=>anyT C r o (f6e t i) fun t2 y ups =>
   comp t x i fun t1 _=>match decide (t2.imm=t1.imm) with
    |true=>e7d t x i t2 y fun t' x'=>c9e C ps (upd r ups) (us++ups) t' x' k
    |false=>none
def c8m(C:Ctx)(te:Ty)(n:Nat):List (Nat×Operand)→(Nat→Ent)→List Up→List te.den→(List te.den→List Up→Option R)→Option R
 |[],_,us,l,k=>k l us
 |(i,o)::ps,r,us,l,k=>match Fl i n with
  |true=>asT C r o te fun y ups=>c8m C te n ps (upd r ups) (us++ups) (l.set i y) k
  |false=>none
def toUV:(t:Ty)→t.den→Option UV
 |.int k,n=>some (.int k n)
 |.bool,b=>some (.bool b)
 |.str,l=>some (.str l)
 |.err,u=>some u
 |.unit,_=>some .unit
 |.st t,x=>toUV t x
 |.pair a b,x=>match toUV a x.1,toUV b x.2 with
  |some p,some q=>some (.pair p q)
  |_,_=>none
 |_,_=>none
def a9c(C:Ctx):(ps:List PS)→List Operand→(Nat→Ent)→List Up→(a3a ps→List Up→Option R)→Option R
 |[],[],_,us,k=>k () us
 |.val (.ptr t)::ps,o::os,r,us,k=>match t.pure with
  |true=>locK C r o
   (fun t' x=>b0f t' t x fun y=>a9c C ps os r us fun z us'=>k (y,z) us')
   (fun p _ _ t' x=>match p.whole,(r p.root).s with
    |true,.box _ _=>b0f t' t x fun y=>a9c C ps os (upd r [⟨p.root,.slot,.pv t y⟩]) (us++[⟨p.root,.slot,.pv t y⟩]) fun z us'=>k (y,z) us'
    |_,_=>none)
  |false=>none
 |_,_,_,_,_=>none
def e7h(C:Ctx)(f:Nat)(caps:List Operand)(r:Nat→Ent)(k:(t:Ty)→t.den→List Up→Option R):Option R :=
 match C.ft f with
 |some ⟨⟨[.val a,.val (.ptr t)],[.val b]⟩,g⟩=>match b.pure with
  |true=>a9c C [.val (.ptr t)] caps r [] fun z us=>k (.fn a b) (fun x=>(g (x,z)).bind fun y=>some y.1.1) us
  |false=>none
 |some ⟨⟨[.val a,.val (.ptr t),.val (.ptr t')],[.val b]⟩,g⟩=>match b.pure with
  |true=>a9c C [.val (.ptr t),.val (.ptr t')] caps r [] fun z us=>k (.fn a b) (fun x=>(g (x,z)).bind fun y=>some y.1.1) us
  |false=>none
 |some ⟨⟨[.val a,.val a2,.val (.ptr t)],[.val b]⟩,g⟩=>match b.pure with
  |true=>a9c C [.val (.ptr t)] caps r [] fun z us=>k (.fn2 a a2 b) (fun x x2=>(g (x,x2,z)).bind fun y=>some y.1.1) us
  |false=>none
 |some ⟨⟨[.val a,.val a2,.val (.ptr t),.val (.ptr t')],[.val b]⟩,g⟩=>match b.pure with
  |true=>a9c C [.val (.ptr t),.val (.ptr t')] caps r [] fun z us=>k (.fn2 a a2 b) (fun x x2=>(g (x,x2,z)).bind fun y=>some y.1.1) us
  |false=>none
 |some ⟨⟨[.val a],[.val b]⟩,g⟩=>match b.pure,caps with
  |true,[]=>k (.fn a b) (fun x=>(g (x,())).bind fun y=>some y.1.1) []
  |_,_=>none
 |some ⟨⟨[.val a,.val a2],[.val b]⟩,g⟩=>match b.pure,caps with
  |true,[]=>k (.fn2 a a2 b) (fun x x2=>(g (x,x2,())).bind fun y=>some y.1.1) []
  |_,_=>none
 |_=>none
def Ty.flat:Ty→Bool
 |.int _|.bool|.str|.err|.unit=>true
 |.sl .own _ t=>t.flat
 |.st t=>t.flat
 |.pair a b=>a.flat&&b.flat
 |.arr _ t=>t.flat
 |_=>false
def Sig.flat(s:Sig):Bool :=
 (s.rs.all fun|.val t=>t.flat|.box t=>t.flat)&&s.ps.all fun|.val _=>true|.io t=>t.flat|.sio t=>t.flat
def e9e(bs:List Nat)(us:List Up):Bool:=us.all fun u=>!(bs.contains u.d)
def c3z(C:Ctx)(t:Ty)(o:Operand)(r:Nat→Ent)(k:t.den→List Up→List Nat→Option R):Option R :=
 match o with
 |.tmp i=>match(r i).s with
  |.val t' x=>d6r t' t x fun y=>k y [] (match t'.pure with|true=>[]|false=>[i])
  |.ali p v c=>c2s r p v c fun t0 x0=>a3m p t0 x0 fun t' x=>d6r t' t x fun y=>k y [] [p.root]
  |_=>asT C r o t fun y us=>k y us []
 |_=>asT C r o t fun y us=>k y us []
def b5u(C:Ctx)(flat:Bool):(ps:List PS)→List Operand→(Nat→Ent)→List Up→(bs qs:List Nat)→(a3a ps→List Up→List Nat→Option R)→Option R
 |[],[],_,us,_,qs,k=>k () us qs.reverse
 |.val t::ps,o::os,r,us,bs,qs,k =>
  match flat&&t.pure with
  |true=>c3z C t o r fun y ups b=>match e9e (bs++qs) ups with
   |true=>b5u C flat ps os (upd r ups) (us++ups) (b++bs) qs fun z us' qs'=>k (y,z) us' qs'
   |false=>none
  |false=>asT C r o t fun y ups=>match e9e (bs++qs) ups with
   |true=>b5u C flat ps os (upd r ups) (us++ups) bs qs fun z us' qs'=>k (y,z) us' qs'
   |false=>none
 |.io t::ps,o::os,r,us,bs,qs,k=>locK C r o (fun _ _=>none) fun p _ _ t' x=>match p.whole&&!(bs.contains p.root)&&!(qs.contains p.root) with
  |true=>match(r p.root).s with
   |.box _ _=>c5u t' t x fun y=>b5u C flat ps os (upd r [⟨p.root,.no,.none⟩]) us bs (p.root::qs) fun z us' qs'=>k (y,z) us' qs'
   |_=>none
  |false=>none
 |.sio t::ps,o::os,r,us,bs,qs,k=>match o with
  |.tmp i=>match(r i).s with
   |.val t' x=>match !(bs.contains i)&&!(qs.contains i) with
    |true=>c5u t' t x fun y=>b5u C flat ps os (upd r [⟨i,.no,.none⟩]) us bs (i::qs) fun z us' qs'=>k (y,z) us' qs'
    |false=>none
   |.ali p v c=>match p.whole&&!(bs.contains p.root)&&!(qs.contains p.root) with
    |true=>c2s r p v c fun t' x=>match(r p.root).s with
     |.val _ _=>c5u t' t x fun y=>b5u C flat ps os (upd r [⟨p.root,.no,.none⟩]) us bs (p.root::qs) fun z us' qs'=>k (y,z) us' qs'
     |_=>none
    |false=>none
   |_=>none
  |_=>none
 |_,_,_,_,_,_,_=>none
def c9q:(ps:List PS)→b3g ps→List Nat→List Up
 |.val _::ps,y,qs=>c9q ps y qs
 |.io t::ps,y,q::qs=>⟨q,.cont,.box t y.1⟩::c9q ps y.2 qs
 |.sio t::ps,y,q::qs=>⟨q,.slot,.val t y.1⟩::c9q ps y.2 qs
 |_,_,_=>[]
def rsK(dst:Option Nat):(rs:List RS)→b7i rs→(us:List Up)→(List Up→Option R)→Option R
 |[],_,us,k=>fin dst .none us k
 |[.val t],y,us,k=>fin dst (.val t y.1) us k
 |[.box t],y,us,k=>fin dst (.box t y.1) us k
 |rs,y,us,k=>match tupOf rs y with
  |some l=>fin dst (.tup l) us k
  |none=>none
 where
 tupOf:(rs:List RS)→b7i rs→Option (List ((t:Ty)×t.den))
  |[],_=>some []
  |.val t::rs,y=>match tupOf rs y.2 with
   |some l=>some (⟨t,y.1⟩::l)
   |none=>none
  |_,_=>none
def d7x(C:Ctx)(f:Nat)(args:List Operand)(dst:Option Nat)(r:Nat→Ent)(k:List Up→Option R):Option R :=
 match C.ft f with
 |some ⟨sg,F⟩=>b5u C sg.flat sg.ps args r [] [] [] fun x us qs=>(F x).bind fun y=>rsK dst sg.rs y.1 (us++c9q sg.ps y.2 qs) k
 |none=>none
def cfsK(l:List (Int×Nat))(x:Int)(k:Nat→Option R):Option R :=
 match l with
 |[]=>none
 |(q,f)::l=>if x=q then k f else cfsK l x k
def b5e:List (Int×Nat×Nat)→Int→Bool
 |[],_=>false
 |(q,_)::l,x=>decide (x=q)||b5e l x
def g1r(r:Nat→Ent)(o:Operand):Bool :=
 match o with
 |.tmp i=>match(r i).s with
  |.nls=>true
  |_=>false
 |_=>false
def lenK(t:Ty)(x:t.den)(k:Int→Option R):Option R :=
 match t,x with
 |.str,l=>k (l.length:Int)
 |.sl .imm _ _,l=>k (l.length:Int)
 |.sl .own _ _,l=>k (l.length:Int)
 |.slh _ _,x=>k (x.2.length:Int)
 |.arr n _,l=>match decide (n≤room) with
  |true=>k (l.length:Int)
  |false=>none
 |_,_=>none
def appK(C:Ctx)(args:List Operand)(T:Nat)(dst:Option Nat)(r:Nat→Ent)(k:List Up→Option R):Option R :=
 match args,C.ty T with
 |[a,b],some (.sl _ e0 te0) =>
  let put (e:Nat) (t:Ty) (l:List t.den) (us:List Up):Option R :=
   match decide (t.imm=te0.imm)&&AB e e0&&(zeroCells te0).isSome with
   |true=>srcK true t b (upd r []) fun m =>
    if(l.length+m.length)*e≤room then fin dst (.val (.sl .own e t) (l++m)) us k else none
   |false=>none
  match a with
  |.tmp i=>match(r i).s with
   |.nls=>put e0 te0 [] []
   |.sub p v c lo hi=>match lo with
    |.ofNat 0=>c2s r p v c fun t0 x0=>a3m p t0 x0 fun t' x'=>match t',x' with
     |.sl .own e t,l=>c4o r (.place p) fun us=>put e t (l.take hi.toNat) us
     |_,_=>none
    |_=>none
   |_=>view r a fun t' x org=>match t',x with
    |.sl .own e t,l=>c4o r org fun us=>put e t l us
    |_,_=>none
  |.const (.slice none 0 0)=>put e0 te0 [] []
  |_=>none
 |_,_=>none
 where
 srcK (sok:Bool) (t:Ty) (b:Operand) (r:Nat→Ent) (k:List t.den→Option R):Option R :=
  match b with
  |.const (.slice none 0 0)=>k []
  |.tmp i=>match(r i).s with
   |.nls=>k []
   |.sub p v c lo hi=>c2s r p v c fun t0 x0=>a3m p t0 x0 fun t' x'=>match t',x' with
    |.sl .own _ t1,l=>match t1.pure with
     |true=>b0f (.sl .imm 0 t1) (.sl .imm 0 t) ((l.take hi.toNat).drop lo.toNat) k
     |false=>none
    |_,_=>none
   |_=>view r b fun t' x _=>src2 sok t t' x k
  |_=>view r b fun t' x _=>src2 sok t t' x k
 src2 (sok:Bool) (t:Ty) (t':Ty) (x:t'.den) (k:List t.den→Option R):Option R :=
  match t',x with
  |.sl .imm _ t1,l=>b0f (.sl .imm 0 t1) (.sl .imm 0 t) l k
  |.sl .own _ t1,l=>match t1.pure with
   |true=>b0f (.sl .imm 0 t1) (.sl .imm 0 t) l k
   |false=>none
  |.str,l=>match sok with
   |true=>b0f (.sl .imm 0 (.int .u8)) (.sl .imm 0 t) l k
   |false=>none
  |_,_=>none
def minK(mx:Bool)(args:List Operand)(dst:Option Nat)(r:Nat→Ent)(k:List Up→Option R):Option R :=
 match args with
 |[a,b]=>view r a fun t x _=>view r b fun t' y _=>match t,x,t',y with
  |.int kd,x,.int kd',y=>match decide (kd=kd') with
   |true=>match mx with
    |true=>fin dst (.val (.int kd) (if y≤x then x else y)) [] k
    |false=>fin dst (.val (.int kd) (if x≤y then x else y)) [] k
   |false=>none
  |_,_,_,_=>none
 |_=>none
def d6t(C:Ctx)(T:Nat)(x:Operand)(dst:Option Nat)(r:Nat→Ent)(k:List Up→Option R):Option R :=
 match x with
 |.tmp i=>match(r i).s,C.ty T with
  |.sub p v c lo hi,some (.sl _ _ te0)=>c2s r p v c fun t0 x0=>a3m p t0 x0 fun t' x'=>match t',x' with
   |.sl .own e t,l=>match t.pure&&decide (t.imm=te0.imm)&&(zeroCells te0).isSome&&(zeroCells t).isSome&&decide (0<t.size) with
    |true=>if 0≤lo∧lo≤hi∧hi≤l.length then putK r p .cont (.sl .own e t) (l.take lo.toNat++(As (hi.toNat - lo.toNat) t.dflt++l.drop hi.toNat)) fun us=>fin dst .none us k else none
    |false=>none
   |_,_=>none
  |_,_=>none
 |_=>none
def elOK(C:Ctx)(tt:Nat)(t:Ty):Bool :=
 match C.ty tt with
 |some tc=>decide (tc.imm=t.imm)
 |none=>false
def d2u(C:Ctx)(tt:Nat):Bool :=
 match C.ty tt with
 |some (.sl .imm _ (.ptr _))=>true
 |_=>false
def c5z(o:Org)(k:Pl→Option R):Option R :=
 match o with
 |.root i=>k ⟨i,[],none⟩
 |.place p=>match p.idx with
  |true=>none
  |false=>k p
 |.none=>none
def cutK(C:Ctx)(T:Nat)(x:Operand)(lo hi:Option Operand)(dst:Option Nat)(r:Nat→Ent)(k:List Up→Option R):Option R :=
 bound lo fun l=>bound hi fun h=>view r x fun t y org=>match elOK C T t with
  |false=>none
  |true=>match t,y with
   |.str,s=>range l h s.length fun a b=>fin dst (.val .str ((s.take b.toNat).drop a.toNat)) [] k
   |.sl .imm e t,s=>range l h s.length fun a b=>fin dst (.val (.sl .imm e t) ((s.take b.toNat).drop a.toNat)) [] k
   |.sl .own _ _,s=>c5z org fun p=>range l h s.length fun a b=>fin dst (.sub p (r p.root).v (r p.root).c a b) [] k
   |_,_=>none
 where
 bound (o:Option Operand) (k:Option Int→Option R):Option R :=
  match o with
  |none=>k none
  |some o=>view r o fun t x _=>match t,x with
   |.int .i64,n=>k (some n)
   |_,_=>none
 range (l h:Option Int) (n:Nat) (k:Int→Int→Option R):Option R :=
  match l,h with
  |none,none=>k 0 n
  |some a,none=>if 0≤a∧a≤n then k a n else none
  |none,some b=>if 0≤b∧b≤n then k 0 b else none
  |some a,some b=>if 0≤a∧a≤b∧b≤n then k a b else none
def atI(i:Int)(n:Nat)(x:Option R):Option R:=if 0≤i∧i<n then x else none
def e4x(r:Nat→Ent)(x:Operand)(k:Pl→Nat→(t:Ty)→List t.den→Int→Int→Option R):Option R :=
 match x with
 |.tmp i=>match(r i).s with
  |.sub p v c lo hi=>c2s r p v c fun t0 x0=>a3m p t0 x0 fun t' x'=>match t',x' with
   |.sl .own e t,l=>k p e t l lo hi
   |_,_=>none
  |_=>view r x fun t' x' org=>match t',x' with
   |.sl .own e t,l=>c5z org fun p=>k p e t l 0 l.length
   |_,_=>none
 |_=>none
def f1t(C:Ctx)(T:Nat)(x y:Operand)(dst:Option Nat)(r:Nat→Ent)(k:List Up→Option R):Option R :=
 match C.ty T with
 |some (.sl _ _ te0)=>e4x r x fun p e t l lo hi=>match t.pure&&decide (t.imm=te0.imm)&&decide (0<t.size) with
  |true=>appK.srcK false t y r fun m=>if 0≤lo∧lo≤hi∧hi≤l.length then
    putK r p .cont (.sl .own e t) (l.take lo.toNat++(m.take (hi.toNat - lo.toNat)++l.drop (lo.toNat+min (hi.toNat - lo.toNat) m.length))) fun us=>fin dst (.val (.int .i64) ((min (hi.toNat - lo.toNat) m.length:Nat):Int)) us k
   else none
  |false=>none
 |_=>none
def lay(C:Ctx)(t:Nat)(t0:Ty):Bool :=
 match C.ty t with
 |some tt=>decide (tt.imm=t0.imm)&&(t0.agg||AB t0.size 1)
 |none=>false
def g5e(C:Ctx)(tt:Nat):Bool :=
 match C.ty tt with
 |some (.arr _ _)=>true
 |_=>false
def Ty.shal:Ty→Bool
 |.sl .own _ t=>t.pure
 |.slh _ _=>false
 |.st t=>t.shal
 |.arr _ t=>t.pure
 |.pair a b=>a.shal&&b.shal
 |_=>true
def c0e(s:SV)(p:Pl):Bump :=
 match p.ix with
 |none=>.cont
 |some _=>match s with
  |.val t _=>match t.shal with|true=>.no|false=>.cont
  |.box t _=>match t.shal with|true=>.no|false=>.cont
  |_=>.cont
def c0v(p:Pl)(t:Ty)(x:t.den)(k:Ty→Option R):Option R :=
 b2z p.p1 t x fun t' x'=>match p.ix with
  |none=>k t'
  |some (_,q)=>match t',x' with
   |.sl .own _ te,_=>b2z q te te.dflt fun t3 _=>k t3
   |.slh _ te,_=>match q with
    |[]=>k te
    |_=>none
   |_,_=>none
def storeAt(r:Nat→Ent)(a:Operand)(k:Pl→Ty→Option R):Option R :=
 match a with
 |.tmp i=>match(r i).s with
  |.box t _=>k ⟨i,[],none⟩ t
  |.ptr p v c=>match AB (r p.root).v v&&(!p.idx||AB (r p.root).c c) with
   |true=>match(r p.root).s with
    |.val t x=>c0v p t x (k p)
    |.box t x=>c0v p t x (k p)
    |_=>none
   |false=>none
  |_=>none
 |_=>none
def isA:Stp→Bool
 |.a _=>true
 |.f _=>false
def elTy(C:Ctx)(dst:Option Nat)(t:Ty):Ty :=
 match dst.any (C.el.contains ·) with
 |true=>t.zero
 |false=>t
def Ty.isErr:Ty→Bool
 |.err=>true
 |_=>false
def f6q(r:Nat→Ent)(p:Pl)(v c d:Nat):Bool :=
 p.p1.isEmpty&&p.ix.isNone&&AB p.root d&&AB (r d).v v&&AB (r d).c c&&(match(r d).s with|.val _ _=>true|_=>false)
def SV.isRoot:SV→Bool
 |.val _ _|.box _ _=>true
 |_=>false
def c8k(r:Nat→Ent):List (Nat×Operand)→Nat→Option (List (Pl×Nat×Nat))
 |[(i,.tmp j)],m=>match(r j).s with
  |.ptr p v c=>match AB i m&&AB (r p.root).v v&&!p.idx&&(r p.root).s.isRoot with
   |true=>some [(p,v,c)]
   |false=>none
  |_=>none
 |(i,.tmp j)::x::ps,m=>match(r j).s,c8k r (x::ps) (m+1) with
  |.ptr p v c,some l=>match AB i m&&AB (r p.root).v v&&!p.idx&&(r p.root).s.isRoot with
   |true=>some ((p,v,c)::l)
   |false=>none
  |_,_=>none
 |_,_=>none
def d0o(r:Nat→Ent)(x:Operand):Option (Nat×Nat) :=
 match x with
 |.tmp s=>match(r s).s with
  |.pts l=>some (s,l.length)
  |_=>none
 |_=>none
def g2b(r:Nat→Ent)(x:Operand):Option (Pl×Nat×Nat) :=
 match x with
 |.tmp q=>match(r q).s with
  |.pte s v j=>match AB (r s).v v,(r s).s with
   |true,.pts l=>l[j]?
   |_,_=>none
  |_=>none
 |_=>none
def f5z(y:Operand):Bool :=
 match y with
 |.const (.slice none 0 0)=>true
 |_=>false
def f0u(op:BinOp)(t:Ty)(a:t.den)(k:Bool→Option R):Option R :=
 match op,t,a with
 |.eql,.lf .nlb,l=>k (decide ((l:List Int)=[]))
 |.neq,.lf .nlb,l=>k (!decide ((l:List Int)=[]))
 |_,_,_=>none
def alB(C:Ctx)(dst:Option Nat):Bool:=dst.any fun d=>C.el.contains (d+1000000)
def sem(C:Ctx)(op:Op)(ty:Nat)(dst:Option Nat)(r:Nat→Ent)(k:List Up→Option R):Option R :=
 match op with
 |.move x=>moveK x false
 |.assign x=>moveK x true
 |.pick c a b=>view r c fun t x _=>match t,x with
  |.bool,b'=>if b'=true then pickK a else pickK b
  |_,_=>none
 |.alloc t=>match C.ty t with
  |some t=>match zeroCells t with
   |some _=>fin dst (.box t.zero t.zero.dflt) [] k
   |none=>none
  |none=>none
 |.box t x=>match dst.any (C.frz.contains ·) with
  |true=>match C.ty t with
   |some t'=>asT C r x t'.imm fun y us=>fin dst (.pv t'.imm y) us k
   |none=>none
  |false=>anyT C r x (C.ty t) fun t' y us=>fin dst (.box t' y) us k
 |.build t parts=>match C.ty t with
  |some (.st t)=>match zeroCells t with
   |none=>none
   |some _=>c9e C parts.toList r [] t.zero t.zero.dflt fun t' x us=>fin dst (.val (.st t') x) us k
  |_=>none
 |.buildSlice t n parts=>match c8k r parts.toList 0 with
  |some l=>match C.ty t,AB l.length n&&decide (n≤1000) with
   |some (.sl .imm _ (.ptr _)),true=>fin dst (.pts l) [] k
   |_,_=>none
  |none=>match C.ty t with
  |some (.sl _ e te0)=>let te:=elTy C dst te0
   match zeroCells te0,decide (n*te.size≤16777216)&&decide (n*e≤room) with
   |some _,true=>c8m C te n parts.toList r [] (As n te.dflt) fun l us=>fin dst (.val (.sl .own e te) l) us k
   |_,_=>none
  |_=>none
 |.load tt a=>match alB C dst with
  |true=>locK C r a (fun _ _=>none) fun p v c t _=>match p.ix,lay C tt t with
   |none,true=>fin dst (.ali p v c) [] k
   |_,_=>none
  |false=>match g2b r a with
  |some (p,v,c)=>match C.ty tt with
   |some (.ptr _)=>fin dst (.ptr p v c) [] k
   |_=>none
  |none=>locK C r a
   (fun t x=>match lay C tt t with
    |true=>fin dst (.val t x) [] k
    |false=>none)
   fun p v c t x=>match lay C tt t,t.pure with
    |true,false=>fin dst (.ali p v c) [] k
    |true,true=>fin dst (.val t x) [] k
    |_,_=>none
 |.store t a x=>match dst with
  |some _=>none
  |none=>storeAt r a fun p t0=>match p.ix,p.p1.any isA with
   |none,false=>anyT C r x (C.ty t) fun t' y us=>put2 t a t' y us
   |_,_=>asT C r x t0 fun y us=>put2 t a t0 y us
 |.nilCheck x=>match x with
  |.tmp i=>match(r i).s with
   |.box _ _=>fin dst (d5v ⟨i,[],none⟩ (r i).v 0) [] k
   |.ptr p v c=>locK C r x (fun _ _=>none) fun _ _ _ _ _=>fin dst (.ptr p v c) [] k
   |.pv t x=>fin dst (.pv t x) [] k
   |_=>none
  |_=>none
 |.fieldAddr s a f=>locK C r a (fun t x=>match lay C s t with
   |true=>match t,x with
    |.st t,x=>comp t x f fun t' x'=>fin dst (.pv t' x') [] k
    |_,_=>none
   |false=>none) fun p v c t x=>match lay C s t with
   |true=>match t,x with
    |.st t,x=>comp t x f fun _ _=>fin dst (d5v (p.step (.f f)) v c) [] k
    |_,_=>none
   |false=>none
 |.field tt x f=>view r x fun t y _=>match lay C tt t with
  |true=>match t,y with
   |.st t,y=>comp t y f fun t' y'=>match t'.agg||AB t'.size 1,t'.pure with
    |true,true=>fin dst (.val t' y') [] k
    |_,_=>none
   |_,_=>none
  |false=>none
 |.indexAddr tt x i=>match d0o r x with
  |some (s,m)=>match d2u C tt with
   |true=>idxK i fun j=>atI j m (fin dst (.pte s (r s).v j.toNat) [] k)
   |false=>none
  |none=>idxK i fun j=>match g5e C tt with
  |true=>locK C r x
    (fun t y=>match elOK C tt t with
     |true=>match t,y with
      |.arr _ t',l=>atI j l.length (fin dst (.pv t' (l.getD j.toNat t'.dflt)) [] k)
      |_,_=>none
     |false=>none)
    fun p v c t y=>match elOK C tt t with
     |true=>match t,y with
      |.arr _ _,l=>atI j l.length (fin dst (d5v (p.step (.a j)) v c) [] k)
      |_,_=>none
     |false=>none
  |false=>view r x fun t y org=>match elOK C tt t with
   |true=>match t,y with
    |.sl .imm _ t',l=>atI j l.length (fin dst (.pv t' (l.getD j.toNat t'.dflt)) [] k)
    |.sl .own _ _,l=>c5z org fun p=>atI j l.length (fin dst (.ptr (p.at j) (r p.root).v (r p.root).c) [] k)
    |.slh _ _,l=>c5z org fun p=>atI j l.2.length (fin dst (.ptr (p.at j) (r p.root).v (r p.root).c) [] k)
    |_,_=>none
   |false=>none
 |.index tt x i=>idxK i fun j=>view r x fun t y _=>match elOK C tt t with
  |true=>match t,y with
   |.str,l=>atI j l.length (fin dst (.val (.int .u8) (l.getD j.toNat (0:Int))) [] k)
   |.arr _ t,l=>match t.agg||AB t.size 1 with
    |true=>atI j l.length (fin dst (.val t (l.getD j.toNat t.dflt)) [] k)
    |false=>none
   |_,_=>none
  |false=>none
 |.binOp op T x y _=>match f5z y with
  |true=>match C.ty T with
   |some (.sl _ _ _)=>view r x fun t a _=>f0u op t a fun b=>fin dst (.val .bool b) [] k
   |_=>none
  |false=>view r x fun t a _=>view r y fun t' b _=>binK C op T (isC y) t a t' b fun t'' z=>fin dst (.val t'' z) [] k
 |.unOp op _ x=>view r x fun t a _=>unK op t a fun t' z=>fin dst (.val t' z) [] k
 |.convert s d x=>match C.ty s,C.ty d with
  |some (.int _),some (.int kd)=>view r x fun t a _=>match t,a with
   |.int _,n=>fin dst (.val (.int kd) (kd.wrap n)) [] k
   |_,_=>none
  |some .str,some (.sl _ 1 (.int .u8))=>view r x fun t a _=>match t,a with
   |.str,l=>fin dst (.val (.sl .own 1 (.int .u8)) l) [] k
   |_,_=>none
  |some (.sl _ _ (.int .u8)),some .str=>appK.srcK false (.int .u8) x r fun l=>fin dst (.val .str l) [] k
  |some (.sl _ _ (.int .u8)),some (.sl _ 1 (.int .u8))=>match AB s d with
   |true=>anyT C r x none fun t y us=>match t,y with
    |.sl .own 1 (.int .u8),l=>match(l:List Int) with
     |[]=>none
     |_::_=>fin dst (.val (.sl .own 1 (.int .u8)) l) us k
    |_,_=>none
   |false=>none
  |_,_=>none
 |.makeInterface t x=>view r x fun t' y _=>match C.ty t,toUV t' y with
  |some tt,some u=>match tt.isErr with
   |false=>fin dst (.val .err (.node t u)) [] k
   |true=>none
  |_,_=>none
 |.makeFunc (.func f) first caps=>match first.toList with
  |[]=>e7h C f caps.toList r fun t x us=>fin dst (.val t x) us k
  |_=>none
 |.makeSlice t l c=>match C.ty t with
  |some (.sl _ e te0)=>let te:=elTy C dst te0
   match zeroCells te0 with
   |none=>none
   |some _=>idxK l fun n=>idxK c fun m =>
    if 0≤n∧n≤m∧m*e≤room then fin dst (.val (.sl .own e te) (As n.toNat te.dflt)) [] k else none
  |_=>none
 |.slice T x lo hi none=>cutK C T x lo hi dst r k
 |.extract x i=>match x with
  |.tmp s=>match(r s).s with
   |.tup l=>match l[i]? with
    |some ⟨.unit,_⟩=>none
    |some ⟨t,y⟩=>match t.pure with
     |true=>fin dst (.val t y) [] k
     |false=>fin dst (.val t y) [⟨s,.slot,.tup (l.set i ⟨.unit,()⟩)⟩] k
    |none=>none
   |_=>none
  |_=>none
 |.lookup T m x co=>view r m fun t _ _=>match t,C.ty T with
  |.lf (.fmap l),some (.lf (.fmap l'))=>match decide (l=l')&&(zeroCells (b6z l)).isSome with
   |true=>view r x fun tx n _=>match tx,n with
    |.int .i64,n=>match co with
     |false=>fin dst (.val (b6z l) ((n,n,()):(b6z l).den)) [] k
     |true=>fin dst (.tup [⟨b6z l,((n,n,()):(b6z l).den)⟩,⟨.bool,b5e l n⟩]) [] k
    |_,_=>none
   |false=>none
  |_,_=>none
 |.call c=>match c.callee with
  |.value (.func f)=>d7x C f c.args.toList dst r k
  |.value f=>view r f fun t g _=>match t,g,c.args.toList with
   |.lf (.cfs l),g,_=>cfsK l g fun f'=>d7x C f' c.args.toList dst r k
   |.fn a b,g,[x]=>match a.pure with
    |true=>asT C r x a fun y us=>(g y).bind fun z=>fin dst (.val b z) us k
    |false=>none
   |.fn2 a a2 b,g,[x,x2]=>match a.pure&&a2.pure with
    |true=>asT C r x a fun y us=>asT C (upd r us) x2 a2 fun y2 us2=>(g y y2).bind fun z=>fin dst (.val b z) (us++us2) k
    |false=>none
   |_,_,_=>none
  |.builtin .len=>match c.args.toList,c.argTypes.toList with
   |[x],[T]=>match d0o r x with
    |some (_,m)=>match d2u C T,decide (m≤room) with
     |true,true=>fin dst (.val (.int .i64) (m:Int)) [] k
     |_,_=>none
    |none=>match g1r r x with
    |true=>match C.ty T with
     |some (.sl _ _ _)=>fin dst (.val (.int .i64) (0:Int)) [] k
     |_=>none
    |false=>view r x fun t y _=>match elOK C T t with
     |true=>lenK t y fun n=>fin dst (.val (.int .i64) n) [] k
     |false=>none
   |_,_=>none
  |.builtin .append=>match c.argTypes.toList with
   |[T,T2]=>match C.ty T2 with
    |some (.sl _ _ _)=>appK C c.args.toList T dst r k
    |some .str=>appK C c.args.toList T dst r k
    |_=>none
   |_=>none
  |.builtin .clear=>match c.args.toList,c.argTypes.toList with
   |[x],[T]=>d6t C T x dst r k
   |_,_=>none
  |.builtin .copy=>match c.args.toList,c.argTypes.toList with
   |[x,y],[T,_]=>f1t C T x y dst r k
   |_,_=>none
  |.builtin .max=>minK true c.args.toList dst r k
  |.builtin .min=>minK false c.args.toList dst r k
  |_=>none
 |_=>none
 where
 put2 (t:Nat) (a:Operand) (t':Ty) (y:t'.den) (us:List Up):Option R :=
  storeAt (upd r us) a fun p t0=>match lay C t t0 with
   |true=>putK (upd r us) p (c0e ((upd r us) p.root).s p) t' y fun us'=>k (us++us')
   |false=>none
 pickK (o:Operand):Option R:=view r o fun t x _=>match t.pure with
  |true=>fin dst (.val t x) [] k
  |false=>none
 idxK (o:Operand) (k:Int→Option R):Option R:=view r o fun t x _=>match t,x with
  |.int _,n=>k n
  |_,_=>none
 moveK (x:Operand) (asg:Bool):Option R :=
  match x with
  |.const (.slice none 0 0)=>fin dst .nls [] k
  |.const (.pointer none)=>fin dst .nlp [] k
  |.const c=>lit c fun t y=>fin dst (.val t y) [] k
  |.func f=>fin dst (.fnc f) [] k
  |.global g=>match C.gl g with
   |some ⟨t,y⟩=>fin dst (.pv t y) [] k
   |none=>none
  |.tmp i=>match(r i).s with
   |.none=>none
   |.val t y=>match t.pure with
    |true=>fin dst (.val t y) [] k
    |false=>match asg&&!(C.prot.contains i),dst with
     |true,some d=>match AB i d with
      |true=>none
      |false=>k [⟨i,.slot,.none⟩,⟨d,.slot,.val t y⟩,⟨i,.slot,.ali ⟨d,[],none⟩ ((r d).v+1) (r d).c⟩]
     |_,_=>fin dst (.ali ⟨i,[],none⟩ (r i).v (r i).c) [] k
   |.box t y=>match asg&&!(C.prot.contains i),dst with
    |true,some d=>match AB i d with
     |true=>none
     |false=>k [⟨i,.slot,.none⟩,⟨d,.slot,.box t y⟩,⟨i,.slot,.ptr ⟨d,[],none⟩ ((r d).v+1) 0⟩]
    |_,_=>fin dst (.ptr ⟨i,[],none⟩ (r i).v 0) [] k
   |.tup l=>match dst with
    |some d=>match AB i d with
     |true=>none
     |false=>k [⟨i,.slot,.none⟩,⟨d,.slot,.tup l⟩]
    |none=>none
   |.ali p v c=>match dst with
    |some d=>match asg&&f6q r p v c d with
     |true=>k []
     |false=>fin dst (.ali p v c) [] k
    |none=>fin dst (.ali p v c) [] k
   |s=>fin dst s [] k
def a1n(C:Ctx)(e:En)(op:Op)(dst:Option Nat):List Nat×List Nat :=
 match op with
 |.load _ (.tmp i)=>match alB C dst with
  |true=>match(e.get i).s with
   |.ptr p _ _=>match p.ix with
    |none=>(i::dst.toList,[2*p.root+1])
    |some _=>(i::p.root::dst.toList,[])
   |.ali p _ _|.sub p _ _ _ _=>(i::p.root::dst.toList,[])
   |.pte s _ _=>(i::s::dst.toList,[])
   |_=>(i::dst.toList,[])
  |false=>match(e.get i).s with
   |.ptr p _ _|.ali p _ _|.sub p _ _ _ _=>(i::p.root::dst.toList,[])
   |.pte s _ _=>(i::s::dst.toList,[])
   |_=>(i::dst.toList,[])
 |.move (.tmp i)=>match(e.get i).s with
  |.box _ _=>(dst.toList,[2*i])
  |.val t _=>match t.pure with
   |true=>(i::dst.toList,[])
   |false=>(dst.toList,[2*i])
  |_=>(i::dst.toList,[])
 |.nilCheck (.tmp i)=>match(e.get i).s with
  |.box _ _=>(dst.toList,[2*i])
  |.ptr p _ _=>match p.ix with
   |none=>(i::dst.toList,[2*p.root])
   |some _=>(i::p.root::dst.toList,[])
  |_=>(i::dst.toList,[])
 |.fieldAddr _ (.tmp i) _=>match(e.get i).s with
  |.box _ _=>(dst.toList,[2*i])
  |.ptr p _ _=>match p.ix with
   |none=>(i::dst.toList,[2*p.root])
   |some _=>(i::p.root::dst.toList,[])
  |_=>(i::dst.toList,[])
 |op =>
  let os:Array Operand:=match op with
   |.call c=>c.operands
   |op=>op.operands
  let tm:List Nat:=os.toList.filterMap fun|E3 i=>some i|_=>none
  (dst.toList++(tm++tm.filterMap fun i=>match(e.get i).s with
   |.ptr p _ _|.ali p _ _|.sub p _ _ _ _=>some p.root
   |_=>none),[])
def Ent.mask(x:Ent):Ent :=
 match x.s with
 |.box t _=>⟨x.v,0,.box t.imm t.imm.dflt⟩
 |.val t _=>match t.pure with
  |true=>x
  |false=>⟨x.v,x.c,.val (.sl .hole 0 .unit) ([]:List Unit)⟩
 |_=>⟨0,0,.none⟩
def Ent.maskC(x:Ent):Ent :=
 match x.s with
 |.box t _=>⟨x.v,x.c,.box t.imm t.imm.dflt⟩
 |_=>⟨0,0,.none⟩
def En.look(e:En)(l:List Nat×List Nat):Nat→Ent:=fun i=>match l.1.contains i with
 |true=>e.get i
 |false=>match l.2.contains (2*i) with
  |true=>(e.get i).mask
  |false=>match l.2.contains (2*i+1) with
   |true=>(e.get i).maskC
   |false=>⟨0,0,.none⟩
def En.know(e:En)(o:Operand)(b:Bool):En :=
 match o with
 |.tmp i=>match(e.get i).s with
  |.val .bool _=>e.app [⟨i,.slot,.kb b⟩]
  |_=>e
 |_=>e
def d9p(C:Ctx)(o:Oper):Bool :=
 match o.dst with
 |some d=>Fl d C.nt&&!(C.prot.contains d)
 |none=>match o.op with
  |.store _ _ _=>true
  |.call c=>match c.callee with
   |.builtin .clear=>true
   |.builtin .copy=>true
   |_=>false
  |_=>false
def d5c(dst:Option Nat):List Up :=
 match dst with
 |some d=>[⟨d,.slot,.und⟩]
 |none=>[]
def e2c(C:Ctx)(gd:Nat→Option Nat)(o:Oper)(e:En)(k:En→List Up→Option R):Option R :=
 match d9p C o with
 |false=>none
 |true =>
  match o.guard with
  |none=>go e
  |some (j,want)=>match gd j with
   |some g=>match(e.get g).s with
    |.und=>k e (d5c o.dst)
    |.kb b=>match b==want with
     |true=>go e
     |false=>k e (d5c o.dst)
    |_=>view e.get (.tmp g) fun t b _=>match t,b with
     |.bool,b=>match want with
      |true=>if b=true then go (e.know (.tmp g) true) else k (e.know (.tmp g) false) (d5c o.dst)
      |false=>if b=true then k (e.know (.tmp g) true) (d5c o.dst) else go (e.know (.tmp g) false)
     |_,_=>none
   |none=>none
 where
 go (e:En):Option R:=sem C o.op o.type o.dst (e.look (a1n C e o.op o.dst)) fun us=>k e us
def a6y(ops:List Oper)(j:Nat):Option Nat:=(ops[j]?).bind (·.dst)
def e2u(C:Ctx)(gd:Nat→Option Nat):List Oper→En→(En→Option R)→Option R
 |[],e,k=>k e
 |o::os,e,k=>e2c C gd o e fun e' us=>e2u C gd os (e'.app us) k
structure Foot where
 ins:List Nat
 weak:List Nat
 outs:List Nat
 cont:List Nat
 contC:List Nat
def d3o(a b:List Nat):Bool:=a.all fun d=>!(b.contains d)
def f7v(a w:List Nat):Bool:=a.all fun d=>!(w.contains (2*d))&&!(w.contains (2*d+1))
def f8r(a w:List Nat):Bool:=a.all fun d=>!(w.contains (2*d+1))
def b9g(a b:Foot):Bool :=
 (d3o a.outs b.ins&&f7v a.outs b.weak&&d3o a.outs b.outs&&d3o a.outs b.cont&&d3o a.cont b.ins&&d3o a.cont b.cont&&f8r a.contC b.weak) &&
 (d3o b.outs a.ins&&f7v b.outs a.weak&&d3o b.outs a.cont&&d3o b.cont a.ins&&f8r b.contC a.weak)
def b8d(a b:Ent):Bool :=
 AB a.v b.v&&match a.s,b.s with
  |.box t _,.box t' _=>decide (t.imm=t'.imm)
  |.val t _,.val t' _=>AB a.c b.c&&!t.pure&&!t'.pure
  |_,_=>false
def b8y(a b:Ent):Bool :=
 b8d a b&&AB a.c b.c&&match a.s with
  |.box _ _=>true
  |_=>false
def b8b(e:En)(ins:List Nat×List Nat)(us:List Up):Foot :=
 let ds:=us.map (·.d)
 let w:=fun d=>b8d (e.get d) ((e.app us).get d)
 ⟨ins.1,ins.2,ds.filter fun d=>!(w d),ds.filter w,ds.filter fun d=>!(b8y (e.get d) ((e.app us).get d))⟩
def b8c(o:Oper):List Nat:=o.after.toList.filterMap fun e=>match e.ground with
 |.textOnly _|.gcOnly _=>none
 |_=>some e.on
def d6g(isG:Bool)(dst:Option Nat)(r:Nat→Ent)(us:List Up)(k:List Up→Option R):Option R :=
 match isG,dst with
 |true,some d=>match(upd r us d).s with
  |.val .bool b=>if b=true then k (us++[⟨d,.slot,.kb true⟩]) else k (us++[⟨d,.slot,.kb false⟩])
  |_=>k us
 |_,_=>k us
def a5g(C:Ctx)(gd:Nat→Option Nat)(isG:Bool)(o:Oper)(e:En)(k:List Nat×List Nat→List Up→Option R):Option R :=
 match d9p C o with
 |false=>none
 |true =>
  match o.guard with
  |none=>go []
  |some (j,want)=>match gd j with
   |some g=>match(e.get g).s with
    |.und=>k (g::o.dst.toList,[]) (d5c o.dst)
    |.kb b=>match b==want with
     |true=>go [g]
     |false=>k (g::o.dst.toList,[]) (d5c o.dst)
    |_=>none
   |none=>none
 where
 go (g:List Nat):Option R:=sem C o.op o.type o.dst (e.look (a1n C e o.op o.dst)) fun us =>
  d6g isG o.dst (e.look (a1n C e o.op o.dst)) us fun us'=>k (g++(a1n C e o.op o.dst).1,(a1n C e o.op o.dst).2) us'
def e9u(ops:List Oper)(i:Nat):Bool:=ops.any fun o=>match o.guard with|some (j,_)=>AB j i|none=>false
def hasN(x:Nat):List Nat→Bool
 |[]=>false
 |y::l=>match AB x y with
  |true=>true
  |false=>hasN x l
def d7j:List Nat→List Nat→List Nat
 |[],acc=>acc
 |x::l,acc=>match hasN x acc with
  |true=>d7j l acc
  |false=>d7j l (x::acc)
def c1n(b:Nat→List Nat):List Nat→List Nat→List Nat
 |[],acc=>acc
 |m::es,acc=>match hasN m acc with
  |true=>c1n b es acc
  |false=>c1n b es (d7j (m::b m) acc)
def c7f(C:Ctx)(gd:Nat→Option Nat)(all:List Oper):List Oper→En→List Foot→List (List Nat)→(En→Option R)→Option R
 |[],e,_,_,k=>k e
 |o::os,e,done,befs,k=>a5g C gd (e9u all done.length) o e fun ins us =>
   let me:=b8b e ins us
   let i:=done.length
   let bef:=c1n (fun j=>befs.getD (i - 1 - j) []) (b8c o).reverse []
   match((b8c o).all fun j=>Fl j i)&&(done.zipIdx.all fun(x,j)=>hasN (i - 1 - j) bef||b9g x me) with
   |true=>c7f C gd all os (e.app us) (me::done) (bef::befs) k
   |false=>none
def a1b{σ:Type}(f:(σ→Option R)→σ→Option R):Nat→σ→Option R
 |0,_=>none
 |n+1,x=>f (a1b f n) x
inductive LH where
 |val (t:Ty)|box (t:Ty)|pv (t:Ty)
@[reducible] def LH.den:LH→Type
 |.val t=>t.den
 |.box t=>t.den
 |.pv t=>t.den
@[reducible] def d5g:List (Nat×LH)→Type
 |[]=>Unit
 |[(_,h)]=>h.den
 |(_,h)::hs=>h.den×d5g hs
def c9r(C:Ctx)(e:En)(i:Nat)(h:LH)(k:h.den→List Up→Option R):Option R :=
 match h,k with
 |.val t,k=>asT C e.get (.tmp i) t k
 |.box t,k=>match(e.get i).s with
  |.box t' x=>b0f t' t x fun y=>k y [⟨i,.slot,.none⟩]
  |_=>none
 |.pv t,k=>match t.pure with
  |true=>match(e.get i).s with
   |.pv t' x=>b0f t' t x fun y=>k y []
   |.box t' x=>b0f t' t x fun y=>k y [⟨i,.slot,.pv t y⟩]
   |_=>none
  |false=>none
def d8q(C:Ctx)(e:En):(h:List (Nat×LH))→(d5g h→En→Option R)→Option R
 |[],k=>k () e
 |[(i,h)],k=>c9r C e i h fun x us=>k x (e.app us)
 |(i,h)::h'::hs,k=>c9r C e i h fun x us=>d8q C (e.app us) (h'::hs) fun y e'=>k (x,y) e'
def lhSV:(h:LH)→h.den→SV
 |.val t,x=>.val t x
 |.box t,x=>.box t x
 |.pv t,x=>.pv t x
def c4u:(h:List (Nat×LH))→d5g h→En→En
 |[],_,e=>e
 |[(i,h)],x,e=>(i,⟨0,0,lhSV h x⟩)::e
 |(i,h)::h'::hs,x,e=>(i,⟨0,0,lhSV h x.1⟩)::c4u (h'::hs) x.2 e
def b6j(e:En):List Nat→(En→Option R)→Option R
 |[],k=>k e
 |i::l,k=>match(e.get i).s with
  |.val t x=>match t.pure with
   |true=>b6j e l k
   |false=>b0f t t.imm x fun y=>b6j (e.app [⟨i,.no,.val t.imm y⟩]) l k
  |.box t x=>b0f t t.imm x fun y=>b6j (e.app [⟨i,.slot,.pv t.imm y⟩]) l k
  |.pv _ _=>b6j e l k
  |.nls=>b6j e l k
  |.nlp=>b6j e l k
  |.fnc _=>b6j e l k
  |.und=>b6j e l k
  |.kb _=>b6j e l k
  |.ali p v c=>c2s e.get p v c fun t0 x0=>a3m p t0 x0 fun t x=>match t.pure with
   |true=>b6j (e.app [⟨i,.slot,.val t x⟩]) l k
   |false=>none
  |_=>none
def a7w{σ:Type}(f:σ→Option R)(g:(σ→Option R)→Option R):Option R:=g f
structure Ks (R:Type) where
 norm:En→Option R
 ret:En→Option R
 exits:List (Nat×(En→Option R))
 cur:Nat
def a8h:List (Nat×(En→Option R))→Nat→Option (En→Option R)
 |[],_=>none
 |(j,k)::l,i=>match AB j i with
  |true=>some k
  |false=>a8h l i
def Ks.framed(ks:Ks R)(fr:List Up)(norm:En→Option R):Ks R :=
 ⟨norm,fun e=>ks.ret (e.app fr),ks.exits.map fun x=>(x.1,fun e=>x.2 (e.app fr)),ks.cur⟩
structure Hint where
 h:List (Nat×LH)
 keep:List Nat
 frame:List Nat
def c7d(s:SV):SV :=
 match s with
 |.val t _=>match t.pure with
  |true=>s
  |false=>.none
 |.pv _ _=>s
 |.nls=>s
 |.nlp=>s
 |.fnc _=>s
 |.und=>s
 |.kb _=>s
 |_=>.none
def ownK(s:SV):SV :=
 match s with
 |.val _ _=>s
 |.box _ _=>s
 |_=>.none
def d4m(e0:En):List Nat→En→En
 |[],e=>e
 |i::l,e=>(i,⟨0,0,c7d (e0.get i).s⟩)::d4m e0 l e
def d8r(e0:En):List Nat→En→En
 |[],e=>e
 |i::l,e=>(i,⟨0,0,ownK (e0.get i).s⟩)::d8r e0 l e
def d2p(e:En)(l:List Nat):List Up:=l.map fun i=>⟨i,.slot,ownK (e.get i).s⟩
def d6m(l:List Nat):List Up:=l.map fun i=>⟨i,.slot,.none⟩
def c2t:List Nat→Bool
 |[]=>true
 |i::l=>!(l.contains i)&&c2t l
structure Scope where
 keep:List Nat
 frame:List Nat
 lent:List Nat
 out:List Nat
 two:Bool
def f0z(s:SV):SV :=
 match s with
 |.val t _=>match t.flat&&t.pure with
  |true=>s
  |false=>.none
 |.kb _=>s
 |.und=>s
 |.nls=>s
 |_=>.none
def outE(e:En):List Nat→En
 |[]=>[]
 |i::l=>(i,⟨0,0,f0z (e.get i).s⟩)::outE e l
def d9a(e1:En)(h:Scope)(e:En):En:=d4m e1 h.keep (d8r e1 h.frame (outE e h.out))
def Ks.scp(ks:Ks R)(e1:En)(h:Scope):Ks R :=
 ⟨fun e=>ks.norm (d9a e1 h e),fun e=>ks.ret (d9a e1 h e),ks.exits.map fun x=>(x.1,fun e=>x.2 (d9a e1 h e)),ks.cur⟩
def Ks.toNorm(ks:Ks R)(k:En→Option R):Ks R:=⟨k,ks.ret,ks.exits,ks.cur⟩
def d2r(e1:En):List Nat→En→(En→Option R)→Option R
 |[],e,k=>k e
 |i::l,e,k=>match(e1.get i).s with
  |.val t x=>b0f t t.imm x fun y=>d2r e1 l (e.app [⟨i,.slot,.val t.imm y⟩]) k
  |.box t x=>b0f t t.imm x fun y=>d2r e1 l (e.app [⟨i,.slot,.pv t.imm y⟩]) k
  |_=>none
structure Hints where
 loops:List (Nat×Hint)
 joins:List (Nat×Hint)
 unr:List (Nat×Nat)
 scopes:List (Nat×Scope)
def f2d:List (Nat×Nat)→Nat→Option Nat
 |[],_=>none
 |(j,m)::l,i=>match AB j i with
  |true=>some m
  |false=>f2d l i
def d3h:List (Nat×Hint)→Nat→Option Hint
 |[],_=>none
 |(j,h)::l,i=>match AB j i with
  |true=>some h
  |false=>d3h l i
def d5w:List (Nat×Scope)→Nat→Option Scope
 |[],_=>none
 |(j,h)::l,i=>match AB j i with
  |true=>some h
  |false=>d5w l i
def e9n:Code→Option Nat
 |.region id _ _=>some (2*id)
 |.block id _=>some (2*id+1)
 |.seq a _=>e9n a
 |_=>none
def g2g(H:Hints)(c:Code):Option Hint :=
 match e9n c with
 |some i=>d3h H.joins i
 |none=>none
def f7k(H:Hints)(c:Code):Option Scope :=
 match e9n c with
 |some i=>d5w H.scopes i
 |none=>none
def Ctx.guardS(C:Ctx)(l:List Nat):Ctx:=⟨C.nt,C.ty,C.ft,C.gl,l++C.prot,C.frz,C.el⟩
def exec(C:Ctx)(H:Hints)(n:Nat):Code→En→Ks R→Option R
 |.skip,e,ks=>ks.norm e
 |.region _ ops draw,e,ks=>match draw with
  |false=>e2u C (a6y ops.toList) ops.toList e ks.norm
  |true=>c7f C (a6y ops.toList) ops.toList ops.toList e [] [] ks.norm
 |.seq a b,e,ks=>match f7k H b with
  |some h=>match c2t h.frame&&h.lent.all (h.frame.contains ·) with
   |true=>match h.two with
    |false=>exec C H n a e { ks with norm:=fun e'=>b6j e' h.keep fun e1=>d2r e1 h.lent (e1.app (d6m h.frame)) fun e2=>exec (C.guardS (h.keep++h.frame)) H n b e2 (ks.scp e1 h) }
    |true=>match b with
     |.seq p (.seq q r)=>exec C H n a e { ks with norm:=fun e'=>b6j e' h.keep fun e1=>d2r e1 h.lent (e1.app (d6m h.frame)) fun e2=>exec (C.guardS (h.keep++h.frame)) H n p e2 (((ks.toNorm fun e4=>exec C H n r e4 ks).scp e1 h).toNorm fun e3=>exec (C.guardS (h.keep++h.frame)) H n q e3 ((ks.toNorm fun e4=>exec C H n r e4 ks).scp e1 h)) }
     |_=>none
   |false=>none
  |none=>match g2g H b with
  |none=>exec C H n a e { ks with norm:=fun e'=>exec C H n b e' ks }
  |some h=>match c2t h.frame with
   |true=>b6j e h.keep fun e1 =>
    a7w (fun x=>exec C H n b (c4u h.h x (d4m e1 h.keep (d8r e1 h.frame []))) ks) fun rec =>
     exec (C.guardS (h.keep++h.frame)) H n a (e1.app (d6m h.frame)) (ks.framed (d2p e1 h.frame) fun e'=>d8q C e' h.h fun y _=>rec y)
   |false=>none
 |.cond c a b,e,ks=>view e.get c fun t x _=>match t,x with
  |.bool,x=>if x=true then exec C H n a (e.know c true) ks else exec C H n b (e.know c false) ks
  |_,_=>none
 |.block id c,e,ks=>exec C H n c e { ks with exits:=(id,ks.norm)::ks.exits,cur:=id }
 |.exit id,e,ks=>match a8h ks.exits id with
  |some k=>k e
  |none=>none
 |.loop c,e,ks=>match f2d H.unr ks.cur with
  |some m=>a1b (fun rec e'=>exec C H n c e' { ks with norm:=rec }) m e
  |none=>match d3h H.loops ks.cur with
  |some h=>match c2t h.frame with
   |true=>b6j e h.keep fun e1=>d8q C e1 h.h fun x0 e2 =>
    a1b (fun rec x=>exec (C.guardS (h.keep++h.frame)) H n c (c4u h.h x (d4m e2 h.keep [])) (ks.framed (d2p e2 h.frame) fun e'=>d8q C e' h.h fun y _=>rec y)) n x0
   |false=>none
  |none=>none
 |.ret,e,ks=>ks.ret e
 |_,_,_=>none
def e1n(t:Ty)(x:t.den):SV :=
 match t,x with
 |.ptr t,y=>.pv t y
 |t,y=>.val t y
def d2a:(i:Nat)→(ps:List PS)→a3a ps→En
 |_,[],_=>[]
 |i,.val t::ps,x=>(i,⟨0,0,e1n t x.1⟩)::d2a (i+1) ps x.2
 |i,.io t::ps,x=>(i,⟨0,0,.box t x.1⟩)::d2a (i+1) ps x.2
 |i,.sio t::ps,x=>(i,⟨0,0,.val t x.1⟩)::d2a (i+1) ps x.2
def b6r:Nat→List PS→List Nat
 |_,[]=>[]
 |i,.val _::ps=>b6r (i+1) ps
 |i,_::ps=>i::b6r (i+1) ps
def d7r:En→(i:Nat)→(ps:List PS)→(b3g ps→Option R)→Option R
 |_,_,[],k=>k ()
 |e,i,.val _::ps,k=>d7r e (i+1) ps k
 |e,i,.io t::ps,k=>match(e.get i).s with
  |.box t' x=>b0f t' t x fun y=>d7r (e.app [⟨i,.slot,.none⟩]) (i+1) ps fun z=>k (y,z)
  |_=>none
 |e,i,.sio t::ps,k=>match(e.get i).s with
  |.val t' x=>b0f t' t x fun y=>d7r (e.app [⟨i,.slot,.none⟩]) (i+1) ps fun z=>k (y,z)
  |_=>none
def rsOf(C:Ctx):(rs:List RS)→List ResultVar→En→(b7i rs→En→Option R)→Option R
 |[],[],e,k=>k () e
 |.val t::rs,ES i::vs,e,k=>asT C e.get (E3 i) t fun x us=>rsOf C rs vs (e.app us) fun y e'=>k (x,y) e'
 |.val t::rs,ResultVar.cell i tt::vs,e,k=>match(e.get i).s with
  |.box t' x=>match lay C tt t' with
   |true=>b0f t' t x fun y=>rsOf C rs vs (e.app [⟨i,.slot,.none⟩]) fun z e'=>k (y,z) e'
   |false=>none
  |_=>none
 |.box t::rs,ES i::vs,e,k=>locK C e.get (E3 i) (fun _ _=>none) fun p _ _ t' x=>match p.whole,(e.get p.root).s with
  |true,.box _ _=>b0f t' t x fun y=>rsOf C rs vs (e.app [⟨p.root,.slot,.none⟩]) fun z e'=>k (y,z) e'
  |_,_=>none
 |_,_,_,_=>none
def d1b(C:Ctx)(H:Hints)(n:Nat)(fn:Func)(sg:Sig)(x:sg.arg):Option sg.res :=
 match fn.body with
 |some c =>
  let C':Ctx:=⟨fn.ntmps,C.ty,C.ft,C.gl,b6r 0 sg.ps,C.frz,C.el⟩
  let fini:En→Option sg.res:=fun e=>rsOf C' sg.rs fn.results.toList e fun y e'=>d7r e' 0 sg.ps fun z=>some (y,z)
  exec C' H n c (d2a 0 sg.ps x) { norm:=fini,ret:=fini,exits:=[],cur:=0 }
 |none=>none
end Go.Rb

namespace Go.Rb
structure Amb where
 sent:Nat→Option (TypeId×Addr)
 raw:List (Nat×Value):=[]
def seg(cs:List Value)(o n:Nat):List Value:=(cs.drop o).take n
def Row(h:Array Obj)(ad:Addr)(n:Nat)(cs:List Value):Prop :=
 ad.spot=none∧cs.length=n∧∃c el fr,h[ad.block]?=some (.cells c el fr)∧∀j,j<n→c[ad.off+j]?=cs[j]?
def Blk(h:Array Obj)(b:Nat)(c:Array Value):Prop :=
 ∃el fr,h[b]?=some (.cells c el fr)∧fr.1≤fr.2∧∀i,i<c.size→¬(fr.1≤i∧i<fr.2)
def NoMk(h:Array Obj)(b:Nat):Prop:=∀c el fr,h[b]?=some (.cells c el fr)→¬(fr.1≤c.size∧c.size<fr.2)
structure BlkE (e:Nat) (h:Array Obj) (b:Nat) (c:Array Value):Prop where
 blk:Blk h b c
 nm:e≠1→NoMk h b
def VC(t:Ty)(v:Value)(cs:List Value):Prop :=
 if t.agg then v=.agg cs.toArray else cs=[v]∧∀a,v≠.agg a
structure Step (Z:Nat→Prop) (w:World) (fp:List Nat) (Z':Nat→Prop) (w':World) (fp':List Nat):Prop where
 z:∀b,Z b→Z' b
 size:w.heap.size≤w'.heap.size
 keep:∀b,b<w.heap.size→b∉fp→w'.heap[b]?=w.heap[b]?
 znew:∀b,Z' b→Z b∨b∈fp∨w.heap.size≤b
 fnew:∀b,b∈fp'→b∈fp∨w.heap.size≤b
 os:w'.os=w.os
 out:w'.output=w.output
 tape:w'.tape=w.tape
 zb:∀b,Z' b→b<w'.heap.size
 fb:∀b,b∈fp'→b<w'.heap.size
 disj:∀b,b∈fp'→¬Z' b
 nodup:fp'.Nodup
def a2o (P : Program) (f : FuncId) : Prop := ∃ fn, P.funcs[f]? = some fn ∧ (fn.name == "runtime.NumGoroutine") = false ∧ fn.body.isNone = false
def RepC(A:Amb):UV→List Value→Prop
 |.nil,cs=>cs=[.nilIface]
 |.sent g,cs=>∃T a,cs=[.iface T (.pointer (some a))]∧A.sent g=some (T,a)
 |.int k n,cs=>cs=[.int k n]
 |.str l,cs=>∃s,cs=[.string s]∧l=a2c s
 |.bool b,cs=>cs=[.bool b]
 |.unit,cs=>cs=[]
 |.pair p q,cs=>∃c1 c2,cs=c1++c2∧RepC A p c1∧RepC A q c2
 |.node t p,cs=>∃x,cs=[.iface t x]∧RepC A p x.cells.toList
def HExt(Z:Nat→Prop)(h:Array Obj)(Z':Nat→Prop)(h':Array Obj):Prop :=
 (∀b,Z b→Z' b)∧∀b,Z b→h'[b]?=h[b]?
def f1w(Z:Nat→Prop)(h:Array Obj):(k:Lf)→List Value→k.den→Prop
 |.cfn f,cs,_=>cs=[.func (.func f) #[] #[]]
 |.hnd,cs,l=>∃b c el fr,cs=[.slice (some ⟨b,0,none⟩) l.length (l.length+5)]∧Z b∧h[b]?=some (.cells c el fr)∧(∀i (hi:i<l.length),c[i]?=some (.int .u8 l[i])∧0≤l[i]∧l[i]≤255) ∧
   (∀i:Nat,i<5→c[l.length+i]?=some (.int .u8 (161+i)))∧l.length+5≤room
 |.nil0,cs,_=>cs=[.slice none 0 0]
 |.nlb,cs,l=>(l=[]∧cs=[.slice none 0 0])∨(l≠[]∧∃ad cap c el fr,cs=[.slice (some ad) l.length cap]∧l.length≤cap∧l.length≤room∧ad.spot=none∧Z ad.block∧h[ad.block]?=some (.cells c el fr) ∧
   ∀i (hi:i<l.length),c[ad.off+i]?=some (.int .u8 l[i])∧0≤l[i]∧l[i]≤255)
 |.fmap l,cs,_=>∃r es ck,cs=[.map (some r)]∧Z r∧h[r]?=some (.map es ck)∧es.toList.map (fun e=>(e.key,e.val))=l.map fun q=>(Cv .i64 q.1,Value.agg #[.func (.func q.2.1) #[] #[],.func (.func q.2.2) #[] #[]])
 |.cfs l,cs,x=>cs=[cfsV l x]
theorem f3f(l:List (Int×Nat))(x:Int):(∀a,cfsV l x≠.agg a)∧((∃f,cfsV l x=.func f #[] #[])∨cfsV l x=.nilFunc):=by
 induction l with
 |nil=>exact⟨by simp[cfsV],.inr rfl⟩
 |cons q l ih =>
  unfold cfsV;split
  ·exact⟨by simp,.inl ⟨_,rfl⟩⟩
  ·exact ih
theorem d5n:∀{l:List (Int×Nat)} {x:Int},d0q l x=false→cfsV l x=.nilFunc
 |[],_,_=>rfl
 |(q,f)::l,x,h=>by
  unfold d0q at h;unfold cfsV;split at h
  ·cases h
  ·rename_i hd;rw[if_neg (by simpa using hd)];exact d5n h
theorem d9c{Z:Nat→Prop}{h:Array Obj}{k:Lf}{cs:List Value}{x:k.den}(hr:f1w Z h k cs x):∃v,cs=[v]∧(∀a,v≠.agg a)∧((∃f,v=.func f #[] #[])∨(∃a n m,v=.slice a n m)∨v=.nilFunc∨∃r,v=.map r):=by
 cases k with
 |cfn f=>exact⟨_,hr,by simp,.inl ⟨_,rfl⟩⟩
 |hnd=>obtain⟨b,c,el,fr,h1,_⟩:=hr;exact⟨_,h1,by simp,.inr (.inl ⟨_,_,_,rfl⟩)⟩
 |nil0=>exact⟨_,hr,by simp,.inr (.inl ⟨_,_,_,rfl⟩)⟩
 |nlb =>
  rcases hr with⟨_,h1⟩|⟨_,ad,cap,c,el,fr,h1,_⟩
  ·exact⟨_,h1,by simp,.inr (.inl ⟨_,_,_,rfl⟩)⟩
  ·exact⟨_,h1,by simp,.inr (.inl ⟨_,_,_,rfl⟩)⟩
 |fmap l=>obtain⟨r,es,ck,h1,_⟩:=hr;exact⟨_,h1,by simp,.inr (.inr (.inr ⟨_,rfl⟩))⟩
 |cfs l =>
  obtain⟨h1,h2⟩:=f3f l x;exact⟨_,hr,h1,h2.imp id fun h=>.inr (.inl h)⟩
theorem e6s{Z Z':Nat→Prop}{h h':Array Obj}{k:Lf}{cs:List Value}{x:k.den}(hr:f1w Z h k cs x)(hz:∀b,Z b→Z' b)(hh:∀b,Z b→h'[b]?=h[b]?):f1w Z' h' k cs x:=by
 cases k with
 |cfn f=>exact hr
 |hnd=>obtain⟨b,c,el,fr,h1,h2,h3,h4⟩:=hr;exact⟨b,c,el,fr,h1,hz _ h2,(hh _ h2).trans h3,h4⟩
 |nil0=>exact hr
 |nlb =>
  rcases hr with h1|⟨h0,ad,cap,c,el,fr,h1,h2,h3,h4,h5,h6,h7⟩
  ·exact .inl h1
  ·exact .inr ⟨h0,ad,cap,c,el,fr,h1,h2,h3,h4,hz _ h5,(hh _ h5).trans h6,h7⟩
 |fmap l=>obtain⟨r,es,ck,h1,h2,h3,h4⟩:=hr;exact⟨r,es,ck,h1,hz _ h2,(hh _ h2).trans h3,h4⟩
 |cfs l=>exact hr
def Rep(A:Amb)(P:Program):(t:Ty)→(Nat→Prop)→Array Obj→List Value→t.den→List Nat→Prop
 |.int k,_,_,cs,x,fp=>fp=[]∧cs=[.int k x]∧k.min≤x∧x≤k.max
 |.bool,_,_,cs,x,fp=>fp=[]∧cs=[.bool x]
 |.str,_,_,cs,x,fp=>fp=[]∧∃s,cs=[.string s]∧x=a2c s∧s.size≤room
 |.err,_,_,cs,x,fp=>fp=[]∧RepC A x cs∧∃v,cs=[v]∧(∀a,v≠.agg a)∧x.top=true
 |.sl m e t,Z,h,cs,l,fp=>∃a n cap,cs=[.slice a n cap]∧match m with
  |.hole=>fp=[]
  |.imm=>fp=[]∧n=l.length∧n≤cap∧n*e≤room∧n≤room∧(l=[]∨∃ad cells,a=some ad∧Z ad.block∧Row h ad (n*t.size) cells ∧
    ∀i (hi:i<l.length),Rep A P t Z h (seg cells (i*t.size) t.size) l[i] [])
  |.own=>n=l.length∧n≤cap∧n*e≤room∧n≤room∧((a=none∧l=[]∧cap=0∧fp=[])∨∃(b:Nat) (c:Array Value) (fps:List (List Nat)),a=some ⟨b,0,none⟩∧BlkE e h b c ∧
    c.size=cap*t.size∧fp=b::fps.flatten∧fps.length=l.length ∧
    ∀i (hi:i<l.length),Rep A P t Z h (seg c.toList (i*t.size) t.size) l[i] (fps.getD i []))
 |.slh e t,Z,h,cs,x,fp=>∃(b n cap:Nat) (c:Array Value) (fps:List (List Nat)),cs=[.slice (some ⟨b,0,none⟩) n cap]∧n=x.2.length∧n≤cap∧n*e≤room∧n≤room∧BlkE e h b c ∧
   c.size=cap*t.size∧fp=b::fps.flatten∧fps.length=x.2.length∧0≤x.1∧x.1<x.2.length ∧
   ∀i (hi:i<x.2.length),if i=x.1.toNat then fps.getD i []=[] else Rep A P t Z h (seg c.toList (i*t.size) t.size) x.2[i] (fps.getD i [])
 |.fn a b,Z,h,cs,g,fp=>fp=[]∧∃f first capt,cs=[.func (.func f) first capt]∧a2o P f ∧
   ∀(Z':Nat→Prop) (w':World) v cv x r,HExt Z h Z' w'.heap→(∀b,Z' b→b<w'.heap.size)→VC a v cv→Rep A P a Z' w'.heap cv x []→g x=some r →
    Calls P f (first++#[v]++capt) w' fun e w''=>∃v' cv' Z'',e=.returned v'∧VC b v' cv'∧Step Z' w' [] Z'' w'' []∧Rep A P b Z'' w''.heap cv' r []
 |.fn2 a a2 b,Z,h,cs,g,fp=>fp=[]∧∃f first capt,cs=[.func (.func f) first capt]∧a2o P f ∧
   ∀(Z':Nat→Prop) (w':World) v cv x v2 cv2 x2 r,HExt Z h Z' w'.heap→(∀b,Z' b→b<w'.heap.size)→VC a v cv→Rep A P a Z' w'.heap cv x [] →
    VC a2 v2 cv2→Rep A P a2 Z' w'.heap cv2 x2 []→g x x2=some r →
    Calls P f (first++#[v,v2]++capt) w' fun e w''=>∃v' cv' Z'',e=.returned v'∧VC b v' cv'∧Step Z' w' [] Z'' w'' []∧Rep A P b Z'' w''.heap cv' r []
 |.ptr t,Z,h,cs,x,fp=>fp=[]∧∃ad cells,cs=[.pointer (some ad)]∧Z ad.block∧Row h ad t.size cells∧Rep A P t Z h cells x []
 |.st t,Z,h,cs,x,fp=>Rep A P t Z h cs x fp
 |.pair a b,Z,h,cs,x,fp=>∃c1 c2 f1 f2,cs=c1++c2∧fp=f1++f2∧Rep A P a Z h c1 x.1 f1∧Rep A P b Z h c2 x.2 f2
 |.unit,_,_,cs,_,fp=>cs=[]∧fp=[]
 |.arr n t,Z,h,cs,l,fp=>fp=[]∧t.pure=true∧l.length=n∧cs.length=n*t.size∧∀i (hi:i<l.length),Rep A P t Z h (seg cs (i*t.size) t.size) l[i] []
 |.lf k,Z,h,cs,x,fp=>fp=[]∧f1w Z h k cs x
variable {A:Amb} {P:Program} {Z Z':Nat→Prop} {h h':Array Obj}
theorem a3w{cs:List Value}{o n:Nat}(hl:o+n≤cs.length):(seg cs o n).length=n:=by
 simp[seg];omega
theorem a1j:∀{t:Ty} {cs:List Value} {x:t.den} {fp:List Nat},Rep A P t Z h cs x fp→cs.length=t.size
 |.int _,_,_,_,hr=>by obtain⟨_,rfl,_⟩:=hr;rfl
 |.bool,_,_,_,hr=>by obtain⟨_,rfl⟩:=hr;rfl
 |.str,_,_,_,hr=>by obtain⟨_,s,rfl,_⟩:=hr;rfl
 |.err,_,_,_,hr=>by obtain⟨_,_,v,rfl,_⟩:=hr;rfl
 |.sl _ _ _,_,_,_,hr=>by obtain⟨_,_,_,rfl,_⟩:=hr;rfl
 |.slh _ _,_,_,_,hr=>by obtain⟨_,_,_,_,_,rfl,_⟩:=hr;rfl
 |.fn _ _,_,_,_,hr=>by obtain⟨_,_,_,_,rfl,_⟩:=hr;rfl
 |.fn2 _ _ _,_,_,_,hr=>by obtain⟨_,_,_,_,rfl,_⟩:=hr;rfl
 |.ptr _,_,_,_,hr=>by obtain⟨_,_,_,rfl,_⟩:=hr;rfl
 |.st t,_,_,_,hr=>a1j (t:=t) hr
 |.pair a b,_,_,_,hr=>by
  obtain⟨c1,c2,f1,f2,rfl,_,h1,h2⟩:=hr;simp[Ty.size,a1j h1,a1j h2]
 |.unit,_,_,_,hr=>by obtain⟨rfl,_⟩:=hr;rfl
 |.arr _ _,_,_,_,hr=>by obtain⟨_,_,_,hl,_⟩:=hr;exact hl
 |.lf _,_,_,_,hr=>by obtain⟨_,hr⟩:=hr;obtain⟨v,rfl,_⟩:=d9c hr;rfl
theorem Row.mono{ad:Addr}{n:Nat}{cs:List Value}(hr:Row h ad n cs)(hh:h'[ad.block]?=h[ad.block]?):Row h' ad n cs:=by
 obtain⟨h1,h2,c,el,fr,h3,h4⟩:=hr;exact⟨h1,h2,c,el,fr,hh.trans h3,h4⟩
theorem Blk.mono{b:Nat}{c:Array Value}(hr:Blk h b c)(hh:h'[b]?=h[b]?):Blk h' b c:=by
 obtain⟨el,fr,h3,h4⟩:=hr;exact⟨el,fr,hh.trans h3,h4⟩
theorem NoMk.mono{b:Nat}(hr:NoMk h b)(hh:h'[b]?=h[b]?):NoMk h' b:=fun c el fr h1=>hr c el fr (by rw[←hh];exact h1)
theorem BlkE.mono{e b:Nat}{c:Array Value}(hr:BlkE e h b c)(hh:h'[b]?=h[b]?):BlkE e h' b c:=⟨hr.blk.mono hh,fun he=>(hr.nm he).mono hh⟩
theorem HExt.trans{Z'':Nat→Prop}{h'':Array Obj}(h1:HExt Z h Z' h')(h2:HExt Z' h' Z'' h''):HExt Z h Z'' h'' :=
 ⟨fun b hb=>h2.1 b (h1.1 b hb),fun b hb=>(h2.2 b (h1.1 b hb)).trans (h1.2 b hb)⟩
theorem a0h{α:Type}{l:List α}{i:Nat}(d:α)(hi:i<l.length):l.getD i d=l[i]:=by simp[BC,hi]
theorem f8s{α:Type}{l:List α}{i:Nat}(d:α)(hi:l.length≤i):l.getD i d=d:=by simp[BC,hi]
theorem a2p{fps:List (List Nat)}{i b:Nat}(hb:b∈fps.getD i []):b∈fps.flatten:=by
 by_cases hi:i<fps.length
 ·rw[a0h _ hi] at hb;exact B6.2 ⟨_,List.getElem_mem hi,hb⟩
 ·rw[f8s _ (by omega)] at hb;simp at hb
theorem a0g:∀{t:Ty} {cs:List Value} {x:t.den} {fp:List Nat},Rep A P t Z h cs x fp→(∀b,Z b→Z' b)→(∀b,Z b∨b∈fp→h'[b]?=h[b]?) →
  Rep A P t Z' h' cs x fp
 |.int _,_,_,_,hr,_,_=>hr
 |.bool,_,_,_,hr,_,_=>hr
 |.str,_,_,_,hr,_,_=>hr
 |.err,_,_,_,hr,_,_=>hr
 |.sl m e t,_,l,_,hr,hz,hh=>by
  obtain⟨a,n,cap,rfl,hm⟩:=hr;refine⟨a,n,cap,rfl,?_⟩;cases m with
  |hole=>exact hm
  |imm =>
   obtain⟨h1,h2,h3,h4,h5,h6⟩:=hm;refine⟨h1,h2,h3,h4,h5,?_⟩;rcases h6 with h6|⟨ad,cells,e1,e2,e3,e4⟩
   ·exact .inl h6
   ·exact .inr ⟨ad,cells,e1,hz _ e2,e3.mono (hh _ (.inl e2)),fun i hi=>a0g (e4 i hi) hz fun b hb=>hh b (hb.imp id (by simp))⟩
  |own =>
   obtain⟨h2,h3,h4,h5,h6⟩:=hm;refine⟨h2,h3,h4,h5,?_⟩;rcases h6 with h6|⟨b,c,fps,e1,e2,e3,e4,e5,e6⟩
   ·exact .inl h6
   ·subst e4;exact .inr ⟨b,c,fps,e1,e2.mono (hh _ (.inr (by simp))),e3,rfl,e5,fun i hi=>a0g (e6 i hi) hz fun b' hb=>hh b' (hb.imp id fun hb=>AE _ (a2p hb))⟩
 |.slh e t,_,x,_,hr,hz,hh=>by
  obtain⟨b,n,cap,c,fps,e0,e1,e2,e3,e4,e5,e6,e7,e8,e9,e10,e11⟩:=hr;subst e7;refine⟨b,n,cap,c,fps,e0,e1,e2,e3,e4,e5.mono (hh _ (.inr (by simp))),e6,rfl,e8,e9,e10,fun i hi=>?_⟩;have:=e11 i hi;split
  ·rw[if_pos ‹_›] at this;exact this
  ·rw[if_neg ‹_›] at this;exact a0g this hz fun b' hb=>hh b' (hb.imp id fun hb=>AE _ (a2p hb))
 |.fn _ _,_,_,_,hr,hz,hh=>by
  obtain⟨h1,f,first,capt,h2,hcl,h3⟩:=hr;exact⟨h1,f,first,capt,h2,hcl,fun Z' w' v cv x r hx=>h3 Z' w' v cv x r (HExt.trans ⟨hz,fun b hb=>hh b (.inl hb)⟩ hx)⟩
 |.fn2 _ _ _,_,_,_,hr,hz,hh=>by
  obtain⟨h1,f,first,capt,h2,hcl,h3⟩:=hr;exact⟨h1,f,first,capt,h2,hcl,fun Z' w' v cv x v2 cv2 x2 r hx=>h3 Z' w' v cv x v2 cv2 x2 r (HExt.trans ⟨hz,fun b hb=>hh b (.inl hb)⟩ hx)⟩
 |.ptr t,_,_,_,hr,hz,hh=>by
  obtain⟨h1,ad,cells,h2,h3,h4,h5⟩:=hr;exact⟨h1,ad,cells,h2,hz _ h3,h4.mono (hh _ (.inl h3)),a0g h5 hz fun b hb=>hh b (hb.imp id (by simp))⟩
 |.st t,_,_,_,hr,hz,hh=>a0g (t:=t) hr hz hh
 |.pair a b,_,_,_,hr,hz,hh=>by
  obtain⟨c1,c2,f1,f2,h1,rfl,h3,h4⟩:=hr;exact⟨c1,c2,f1,f2,h1,rfl,a0g h3 hz fun b hb=>hh b (hb.imp id fun h=>Am _ h),a0g h4 hz fun b hb=>hh b (hb.imp id fun h=>Al _ h)⟩
 |.unit,_,_,_,hr,_,_=>hr
 |.arr n t,_,_,_,hr,hz,hh=>by
  obtain⟨h0,hp,h1,h2,h3⟩:=hr;exact⟨h0,hp,h1,h2,fun i hi=>a0g (h3 i hi) hz fun b hb=>hh b (hb.imp id (by simp))⟩
 |.lf _,_,_,_,hr,hz,hh=>⟨hr.1,e6s hr.2 hz fun b hb=>hh b (.inl hb)⟩
theorem a1y:∀{t:Ty} {cs:List Value} {x:t.den} {fp:List Nat},Rep A P t Z h cs x fp→t.pure=true→fp=[]
 |.int _,_,_,_,hr,_=>hr.1
 |.bool,_,_,_,hr,_=>hr.1
 |.str,_,_,_,hr,_=>hr.1
 |.err,_,_,_,hr,_=>hr.1
 |.sl .imm _ _,_,_,_,hr,_=>by obtain⟨_,_,_,_,h1,_⟩:=hr;exact h1
 |.sl .own _ _,_,_,_,_,hp=>by simp[Ty.pure] at hp
 |.sl .hole _ _,_,_,_,_,hp=>by simp[Ty.pure] at hp
 |.slh _ _,_,_,_,_,hp=>by simp[Ty.pure] at hp
 |.fn _ _,_,_,_,hr,_=>hr.1
 |.fn2 _ _ _,_,_,_,hr,_=>hr.1
 |.ptr _,_,_,_,hr,_=>hr.1
 |.st t,_,_,_,hr,hp=>a1y (t:=t) hr hp
 |.pair a b,_,_,_,hr,hp=>by
  obtain⟨c1,c2,f1,f2,_,rfl,h3,h4⟩:=hr;simp[Ty.pure] at hp;simp[a1y h3 hp.1,a1y h4 hp.2]
 |.unit,_,_,_,hr,_=>hr.2
 |.arr _ _,_,_,_,hr,_=>hr.1
 |.lf _,_,_,_,hr,_=>hr.1
theorem Blk.lt{b:Nat}{c:Array Value}(hb:Blk h b c):b<h.size:=by
 obtain⟨el,fr,h3,_⟩:=hb;rcases BQ b h.size with hl|hl
 ·exact hl
 ·simp[Array.getElem?_eq_none hl] at h3
theorem BlkE.any{b:Nat}{c:Array Value}(hb:BlkE 0 h b c)(e:Nat):BlkE e h b c:=⟨hb.blk,fun _=>hb.nm (by decide)⟩
theorem BlkE.lt{e b:Nat}{c:Array Value}(hb:BlkE e h b c):b<h.size:=hb.blk.lt
theorem b2q:∀{t:Ty} {cs:List Value} {x:t.den} {fp:List Nat},Rep A P t Z h cs x fp→∀b,b∈fp→b<h.size
 |.int _,_,_,_,hr=>by obtain⟨rfl,_⟩:=hr;simp
 |.bool,_,_,_,hr=>by obtain⟨rfl,_⟩:=hr;simp
 |.str,_,_,_,hr=>by obtain⟨rfl,_⟩:=hr;simp
 |.err,_,_,_,hr=>by obtain⟨rfl,_⟩:=hr;simp
 |.sl .imm _ _,_,_,_,hr=>by obtain⟨_,_,_,_,rfl,_⟩:=hr;simp
 |.sl .hole _ _,_,_,_,hr=>by obtain⟨_,_,_,_,rfl⟩:=hr;simp
 |.sl .own _ t,_,_,_,hr=>by
  obtain⟨_,_,_,_,_,_,_,_,h6⟩:=hr;rcases h6 with⟨_,_,_,rfl⟩|⟨b,c,fps,_,e2,_,rfl,e5,e6⟩
  ·simp
  ·intro b' hb';rcases A3.1 hb' with rfl|hb'
   ·exact e2.lt
   ·obtain⟨l,hl,hb⟩:=B6.1 hb';obtain⟨i,hi,rfl⟩:=Bf hl;exact b2q (e6 i (by omega)) b' (by rw[a0h _ hi];exact hb)
 |.slh _ t,_,_,_,hr=>by
  obtain⟨b,n,cap,c,fps,e0,e1,e2,e3,e4,e5,e6,rfl,e8,e9,e10,e11⟩:=hr;intro b' hb';rcases A3.1 hb' with rfl|hb'
  ·exact e5.lt
  ·obtain⟨l,hl,hb⟩:=B6.1 hb';obtain⟨i,hi,rfl⟩:=Bf hl;have:=e11 i (by omega);rw[a0h _ hi] at this;split at this
   ·rw[this] at hb;simp at hb
   ·exact b2q this b' hb
 |.fn _ _,_,_,_,hr=>by obtain⟨rfl,_⟩:=hr;simp
 |.fn2 _ _ _,_,_,_,hr=>by obtain⟨rfl,_⟩:=hr;simp
 |.ptr _,_,_,_,hr=>by obtain⟨rfl,_⟩:=hr;simp
 |.st t,_,_,_,hr=>b2q (t:=t) hr
 |.pair a b,_,_,_,hr=>by
  obtain⟨c1,c2,f1,f2,_,rfl,h3,h4⟩:=hr;intro b hb;rcases Aq.1 hb with hb|hb
  ·exact b2q h3 b hb
  ·exact b2q h4 b hb
 |.unit,_,_,_,hr=>by obtain⟨_,rfl⟩:=hr;simp
 |.arr _ _,_,_,_,hr=>by obtain⟨rfl,_⟩:=hr;simp
 |.lf _,_,_,_,hr=>by obtain⟨rfl,_⟩:=hr;simp
end Go.Rb

namespace Go.Rb
variable {A:Amb} {P:Program} {Z Z':Nat→Prop} {h h':Array Obj} {R:Type}
abbrev Dyn:=(t:Ty)×t.den
theorem a1x{a b:Ty}{x:a.den}{k:b.den→Option R}{r:R}(hk:b0f a b x k=some r):a.le b=true∧∃y:b.den,HEq x y∧k y=some r:=by
 unfold b0f at hk;split at hk
 ·split at hk
  ·exact⟨‹_›,_,(cast_heq _ _).symm,hk⟩
  ·simp at hk
 ·simp at hk
theorem b0y{a b:Ty}{x:a.den}{k:b.den→Option R}{r:R}(hk:c5u a b x k=some r):a=b∧∃y:b.den,HEq x y∧k y=some r:=by
 unfold c5u at hk;split at hk
 ·exact⟨‹_›,_,(cast_heq _ _).symm,hk⟩
 ·simp at hk
theorem b7e:∀{t t':Ty},t.le t'=true→t.den=t'.den
 |.sl _ _ t,.sl _ _ t',hl=>by
  simp only[Ty.le,Af] at hl;exact congrArg List (b7e hl.1.2)
 |.st t,.st t',hl=>b7e (t:=t) (t':=t') hl
 |.arr _ t,.arr _ t',hl=>by
  simp only[Ty.le,Af] at hl;exact congrArg List (b7e hl.2)
 |.pair a b,.pair a' b',hl=>by
  simp only[Ty.le,Af] at hl;show(a.den×b.den)=(a'.den×b'.den);rw[b7e hl.1,b7e hl.2]
 |.int _,t',hl|.bool,t',hl|.str,t',hl|.err,t',hl|.slh _ _,t',hl|.fn _ _,t',hl|.fn2 _ _ _,t',hl|.ptr _,t',hl|.unit,t',hl|.lf _,t',hl=>by
  cases t' <;> simp[Ty.le] at hl <;> try (subst hl;rfl)
  all_goals (try (obtain⟨rfl,rfl⟩:=hl;rfl))
  all_goals (try (obtain⟨rfl,rfl,rfl⟩:=hl;rfl))
  all_goals rfl
 |.sl _ _ _,.int _,hl|.sl _ _ _,.bool,hl|.sl _ _ _,.lf _,hl|.sl _ _ _,.str,hl|.sl _ _ _,.err,hl|.sl _ _ _,.slh _ _,hl|.sl _ _ _,.fn _ _,hl|.sl _ _ _,.fn2 _ _ _,hl
 |.sl _ _ _,.ptr _,hl|.sl _ _ _,.st _,hl|.sl _ _ _,.pair _ _,hl|.sl _ _ _,.unit,hl|.sl _ _ _,.arr _ _,hl
 |.st _,.int _,hl|.st _,.bool,hl|.st _,.lf _,hl|.st _,.str,hl|.st _,.err,hl|.st _,.slh _ _,hl|.st _,.fn _ _,hl|.st _,.fn2 _ _ _,hl
 |.st _,.ptr _,hl|.st _,.sl _ _ _,hl|.st _,.pair _ _,hl|.st _,.unit,hl|.st _,.arr _ _,hl
 |.arr _ _,.int _,hl|.arr _ _,.bool,hl|.arr _ _,.lf _,hl|.arr _ _,.str,hl|.arr _ _,.err,hl|.arr _ _,.slh _ _,hl|.arr _ _,.fn _ _,hl|.arr _ _,.fn2 _ _ _,hl
 |.arr _ _,.ptr _,hl|.arr _ _,.sl _ _ _,hl|.arr _ _,.pair _ _,hl|.arr _ _,.unit,hl|.arr _ _,.st _,hl
 |.pair _ _,.int _,hl|.pair _ _,.bool,hl|.pair _ _,.lf _,hl|.pair _ _,.str,hl|.pair _ _,.err,hl|.pair _ _,.slh _ _,hl|.pair _ _,.fn _ _,hl|.pair _ _,.fn2 _ _ _,hl
 |.pair _ _,.ptr _,hl|.pair _ _,.sl _ _ _,hl|.pair _ _,.arr _ _,hl|.pair _ _,.unit,hl|.pair _ _,.st _,hl=>by
  simp[Ty.le] at hl
theorem d3y{α β:Type}(e:α=β){l:List α}{l':List β}(hl:HEq l l'):l.length=l'.length∧∀i (h1:i<l.length) (h2:i<l'.length),HEq l[i] l'[i]:=by
 subst e;cases hl;exact⟨rfl,fun _ _ _=>Dg⟩
theorem e2s{α β α' β':Type}(e:α=α')(e':β=β'){x:α×β}{y:α'×β'}(hl:HEq x y):HEq x.1 y.1∧HEq x.2 y.2:=by
 subst e;subst e';cases hl;exact⟨Dg,Dg⟩
theorem a1e(t:Ty):t.imm.size=t.size:=by induction t <;> simp_all [Ty.imm,Ty.size]
theorem c3o(t:Ty):t.imm.agg=t.agg:=by cases t <;> rfl
theorem c0c:∀{t t':Ty},t.le t'=true→t.imm=t'.imm:=by
 intro t
 induction t with
 |sl m e t ih=>intro t' hl;cases t' <;> simp[Ty.le] at hl;simp[Ty.imm,ih hl.1.2,hl.1.1.2]
 |st t ih=>intro t' hl;cases t' <;> simp[Ty.le] at hl;simp[Ty.imm,ih hl]
 |arr n t ih=>intro t' hl;cases t' <;> simp[Ty.le] at hl;simp[Ty.imm,ih hl.2,hl.1]
 |pair a b iha ihb=>intro t' hl;cases t' <;> simp[Ty.le] at hl;simp[Ty.imm,iha hl.1,ihb hl.2]
 |_=>intro t' hl;cases t' <;> simp[Ty.le] at hl <;> simp_all [Ty.imm]
theorem c4m{t t':Ty}(hl:t.le t'=true):t.size=t'.size:=by rw[←a1e t,←a1e t',c0c hl]
theorem b0c{t t':Ty}(hi:t.imm=t'.imm){v:Value}{cs:List Value}(hv:VC t v cs):VC t' v cs:=by
 unfold VC at *;rwa [←c3o t',←hi,c3o t]
theorem c5d:∀{l g z:List (List Nat)},g.length=l.length→z.length=l.length→(∀i,i<l.length→(l.getD i []).Perm (g.getD i []++z.getD i [])) →
  l.flatten.Perm (g.flatten++z.flatten)
 |[],[],[],_,_,_=>BO _
 |x::l,y::g,u::z,hg,hz,hs=>by
  simp only[Bt];have h1:x.Perm (y++u):=hs 0 (by simp);have h2:=c5d (l:=l) (g:=g) (z:=z) (by simpa using hg) (by simpa using hz) fun i hi=>by simpa using hs (i+1) (by simpa using hi)
  refine(h1.append h2).trans ?_;rw[Ae,Ae];refine Ay y ?_;rw[←Ae,←Ae];exact Az _ Aw
theorem f1n{t t':Ty}(hl:t.le t'=true)(hn:match t with|.sl _ _ _|.st _|.arr _ _|.pair _ _=>False|_=>True):t=t':=by
 cases t <;> first|exact hn.elim|(simp only[Ty.le] at hl;exact of_decide_eq_true hl)
theorem b0k{cs:List Value}{o n m:Nat}(hl:o+n≤m):seg (cs.take m) o n=seg cs o n:=by
 simp[seg,F9,FA];omega
theorem Blk.row{b:Nat}{c:Array Value}(hb:Blk h b c){n:Nat}(hn:n≤c.size):Row h ⟨b,0,none⟩ n (c.toList.take n):=by
 obtain⟨el,fr,h3,_⟩:=hb;refine⟨rfl,by simp;omega,c,el,fr,h3,fun j hj=>?_⟩;simp[AV,hj]
theorem BlkE.row{e b:Nat}{c:Array Value}(hb:BlkE e h b c){n:Nat}(hn:n≤c.size):Row h ⟨b,0,none⟩ n (c.toList.take n):=hb.blk.row hn
theorem f8d:∀{t t':Ty},t.le t'=true→t.pure=true→t'.pure=true:=by
 intro t
 induction t with
 |sl m e t ih =>
  intro t' hl hp;cases t' with
  |sl m' e' t' =>
   cases m <;> cases m' <;> simp[Ty.le,Md.le,Ty.pure] at hl hp ⊢;exact ih hl.1.2 hp
  |_=>simp[Ty.le] at hl
 |st t ih=>intro t' hl hp;cases t' <;> simp[Ty.le] at hl;have:=ih hl hp;exact this
 |arr n t ih=>intro t' hl hp;cases t' <;> simp[Ty.le] at hl;have:=ih hl.2 hp;exact this
 |pair a b iha ihb =>
  intro t' hl hp;cases t' <;> simp[Ty.le] at hl;simp[Ty.pure] at hp ⊢;exact⟨iha hl.1 hp.1,ihb hl.2 hp.2⟩
 |_=>intro t' hl hp;rw[←f1n hl trivial];exact hp
theorem b7k:∀{t t':Ty} {cs:List Value} {x:t.den} {y:t'.den} {fp:List Nat},t.le t'=true→HEq x y→Rep A P t Z h cs x fp →
  ∃fp' fz,fp.Perm (fp'++fz)∧∀Z':Nat→Prop,(∀b,Z b→Z' b)→(∀b,b∈fz→Z' b)→Rep A P t' Z' h cs y fp':=by
 intro t
 induction t with
 |sl m e t ih =>
  intro t' cs x y fp hl hx hr;cases t' with
  |sl m' e' t' =>
   have hd:=b7e hl;simp only[Ty.le,Af] at hl;obtain⟨⟨⟨hm,he⟩,hlt⟩,hp⟩:=hl;have he':e=e':=AF he;subst he';have hdt:=b7e hlt;obtain⟨hlen,hel⟩:=d3y hdt hx;obtain⟨a,n,cap,rfl,hr⟩:=hr;have hsz:=c4m hlt;cases m <;> cases m' <;> simp[Md.le] at hm
   ·
    obtain⟨rfl,h2,h3,h4,h5,h6⟩:=hr;refine⟨[],[],BO _,fun Z' hz _=>⟨a,n,cap,rfl,rfl,by omega,h3,h4,h5,?_⟩⟩;rcases h6 with h6|⟨ad,cells,e1,e2,e3,e4⟩
    ·left;rw[h6] at hlen;exact Bm (by simpa using hlen.symm)
    ·refine .inr ⟨ad,cells,e1,hz _ e2,hsz ▸ e3,fun i hi=>?_⟩;obtain⟨fp',fz,hs,hfin⟩:=ih hlt (hel i (by omega) hi) (e4 i (by omega));obtain⟨rfl,rfl⟩:fp'=[]∧fz=[]:=by simpa using BP hs
     rw[←hsz];exact hfin Z' hz (by simp)
   ·
    obtain⟨h2,h3,h4,h5,h6⟩:=hr;refine⟨[],fp,BO _,fun Z' hz hf=>⟨a,n,cap,rfl,rfl,by omega,h3,h4,h5,?_⟩⟩;rcases h6 with⟨_,rfl,_,_⟩|⟨b,c,fps,e1,e2,e3,rfl,e5,e6⟩
    ·left;exact Bm (by simpa using hlen.symm)
    ·have hcs:n*t.size≤c.size:=by rw[e3];exact Ai _ h3
     refine .inr ⟨⟨b,0,none⟩,c.toList.take (n*t'.size),e1,hf _ (by simp),hsz ▸ e2.row hcs,fun i hi=>?_⟩;obtain⟨fp',fz,hs,hfin⟩:=ih hlt (hel i (by omega) hi) (e6 i (by omega));have hr':=hfin Z' hz fun b' hb'=>hf b' (AE _ (a2p (hs.mem_iff.2 (Al _ hb'))))
     rw[a1y hr' hp] at hr';rw[b0k (by rw[←AC];exact Ai _ (by omega)),←hsz];exact hr'
   ·
    obtain⟨h2,h3,h4,h5,h6⟩:=hr;rcases h6 with⟨rfl,rfl,h8,rfl⟩|⟨b,c,fps,e1,e2,e3,rfl,e5,e6⟩
    ·refine⟨[],[],BO _,fun Z' hz _=>⟨none,n,cap,rfl,by omega,h3,h4,h5,.inl ⟨rfl,?_,h8,rfl⟩⟩⟩;exact Bm (by simpa using hlen.symm)
    ·have key:∀i,∃gz:List Nat×List Nat,i<x.length→(fps.getD i []).Perm (gz.1++gz.2)∧∀Z':Nat→Prop,(∀b,Z b→Z' b)→(∀b,b∈gz.2→Z' b) →
       ∀hi:i<y.length,Rep A P t' Z' h (seg c.toList (i*t'.size) t'.size) y[i] gz.1:=by
      intro i;by_cases hi:i<x.length
      ·obtain⟨fp',fz,hs,hfin⟩:=ih hlt (hel i hi (by omega)) (e6 i hi);exact⟨(fp',fz),fun _=>⟨hs,fun Z' hz hf hi'=>hsz ▸ hfin Z' hz hf⟩⟩
      ·exact⟨([],[]),fun hh=>absurd hh hi⟩
     let g:Nat→List Nat×List Nat:=fun i=>(key i).choose
     have hg:=fun i=>(key i).choose_spec
     have hgd:∀(f:List Nat×List Nat→List Nat) i,i<x.length→((Ck x.length).map fun i=>f (g i)).getD i []=f (g i):=fun f i hi=>by simp[BC,hi]
     refine⟨b::((Ck x.length).map fun i=>(g i).1).flatten,((Ck x.length).map fun i=>(g i).2).flatten,?_,fun Z' hz hf=>⟨a,n,cap,rfl,by omega,h3,h4,h5,.inr ⟨b,c,_,e1,e2,hsz ▸ e3,rfl,by simp[hlen],fun i hi=>?_⟩⟩⟩
     ·refine B7 b (c5d (by simp[e5]) (by simp[e5]) fun i hi=>?_);rw[hgd _ i (by omega),hgd _ i (by omega)];exact(hg i (by omega)).1
     ·rw[hgd _ i (by omega)];refine(hg i (by omega)).2 Z' hz (fun b' hb'=>hf b' ?_) hi;refine B6.2 ⟨_,List.mem_map.2 ⟨i,by simp;omega,rfl⟩,hb'⟩
   ·
    subst hr;exact⟨[],[],BO _,fun Z' hz _=>⟨a,n,cap,rfl,rfl⟩⟩
  |_=>simp[Ty.le] at hl
 |st t ih =>
  intro t' cs x y fp hl hx hr;cases t' with
  |st t'=>exact ih (t':=t') hl hx hr
  |_=>simp[Ty.le] at hl
 |arr n t ih =>
  intro t' cs x y fp hl hx hr;cases t' with
  |arr n' t' =>
   simp only[Ty.le,Af] at hl;obtain rfl:n=n':=AF hl.1;obtain⟨hlen,hel⟩:=d3y (b7e hl.2) hx;obtain⟨rfl,hpu,h1,h2,h3⟩:=hr;have hsz:=c4m hl.2;refine⟨[],[],BO _,fun Z' hz _=>⟨rfl,f8d hl.2 hpu,by omega,hsz ▸ h2,fun i hi=>?_⟩⟩;obtain⟨fp',fz,hs,hfin⟩:=ih hl.2 (hel i (by omega) hi) (h3 i (by omega));obtain⟨rfl,rfl⟩:fp'=[]∧fz=[]:=by simpa using BP hs
   rw[←hsz];exact hfin Z' hz (by simp)
  |_=>simp[Ty.le] at hl
 |pair a b iha ihb =>
  intro t' cs x y fp hl hx hr;cases t' with
  |pair a' b' =>
   simp only[Ty.le,Af] at hl;obtain⟨hx1,hx2⟩:=e2s (b7e hl.1) (b7e hl.2) hx;obtain⟨c1,c2,f1,f2,rfl,rfl,h3,h4⟩:=hr;obtain⟨g1,z1,s1,hf1⟩:=iha hl.1 hx1 h3;obtain⟨g2,z2,s2,hf2⟩:=ihb hl.2 hx2 h4;refine⟨g1++g2,z1++z2,?_,fun Z' hz hf=>⟨c1,c2,g1,g2,rfl,rfl,hf1 Z' hz fun b' hb=>hf b' (Am _ hb),hf2 Z' hz fun b' hb=>hf b' (Al _ hb)⟩⟩;refine(s1.append s2).trans ?_;rw[Ae,Ae];refine Ay g1 ?_;rw[←Ae,←Ae];exact Az _ Aw
  |_=>simp[Ty.le] at hl
 |_ =>
  intro t' cs x y fp hl hx hr;have he:=f1n hl trivial;subst he;cases hx;exact⟨fp,[],by simp,fun Z' hz _=>a0g hr hz fun _ _=>rfl⟩
def a1d(cs:List Value)(o:Nat)(ys:List Value):List Value:=cs.take o++ys++cs.drop (o+ys.length)
def a1h:Ty→Nat→Option (Nat×Ty)
 |.pair a _,0=>some (0,a)
 |.pair a b,i+1=>match a1h b i with
  |some (o,t)=>some (a.size+o,t)
  |none=>none
 |_,_=>none
def a1w:List Stp→Ty→Option (Nat×Ty)
 |[],t=>some (0,t)
 |.f i::p,.st t=>match a1h t i with
  |some (o,t1)=>match a1w p t1 with
   |some (o',t')=>some (o+o',t')
   |none=>none
  |none=>none
 |.a j::p,.arr n t=>if 0≤j∧j<n then match a1w p t with
   |some (o',t')=>some (j.toNat*t.size+o',t')
   |none=>none
  else none
 |_,_=>none
theorem a4i{cs ys:List Value}{o:Nat}(hl:o+ys.length≤cs.length):(a1d cs o ys).length=cs.length:=by
 simp[a1d];omega
theorem a7q{c1 c2:List Value}{o n:Nat}(hl:o+n≤c1.length):seg (c1++c2) o n=seg c1 o n:=by
 unfold seg;rw[Cx (by omega),C3 (by simp;omega)]
theorem a9j{c1 c2:List Value}{o n:Nat}:seg (c1++c2) (c1.length+o) n=seg c2 o n:=by
 unfold seg;rw[Fm,Db (by omega)];simp
theorem c2p{c1 c2 ys:List Value}{o:Nat}(hl:o+ys.length≤c1.length):a1d (c1++c2) o ys=a1d c1 o ys++c2:=by
 unfold a1d;rw[C3 (by omega),Cx (by omega)];simp
theorem c0o{c1 c2 ys:List Value}{o:Nat}:a1d (c1++c2) (c1.length+o) ys=c1++a1d c2 o ys:=by
 unfold a1d;rw[List.take_append,Fm,List.take_of_length_le (by omega),Db (by omega)];simp[Nat.add_assoc]
def TE:Ty→Ty→Prop
 |.sl m e t,.sl m' e' t'=>e=e'∧t.imm=t'.imm∧((m=m'∧(m=.own→t=t'))∨(m=.own∧m'≠.own))
 |.sl m e t,.slh e' t'=>m=.own∧e=e'∧t=t'
 |.st t,.st t'=>TE t t'
 |.arr n t,.arr n' t'=>n=n'∧TE t t'
 |.pair a b,.pair a' b'=>TE a a'∧TE b b'
 |t,t'=>t=t'
theorem TE.refl(t:Ty):TE t t:=by
 induction t with
 |sl m e t _=>exact⟨rfl,rfl,.inl ⟨rfl,fun _=>rfl⟩⟩
 |st t ih=>exact ih
 |arr n t ih=>exact⟨rfl,ih⟩
 |pair a b iha ihb=>exact⟨iha,ihb⟩
 |_=>simp[TE]
theorem b7p:∀{t:Ty} {x:t.den} {i:Nat} {cs:List Value} {fp:List Nat} {o:Nat} {t0:Ty},a1h t i=some (o,t0)→Rep A P t Z h cs x fp →
  ∃x0 fs fr,(∀{R:Type} (k:(t':Ty)→t'.den→Option R),comp t x i k=k t0 x0)∧fp.Perm (fr++fs)∧Rep A P t0 Z h (seg cs o t0.size) x0 fs∧o+t0.size≤cs.length ∧
   ∀(Z':Nat→Prop) (h':Array Obj) (t2:Ty) (ys:List Value) (y:t2.den) (fy:List Nat),t2.imm=t0.imm→Rep A P t2 Z' h' ys y fy→(∀b,Z b→Z' b) →
    (∀b,Z b∨b∈fr→h'[b]?=h[b]?)→∀{R':Type} {k':(t':Ty)→t'.den→Option R'} {r':R'},e7d t x i t2 y k'=some r' →
     ∃t1 x1 fp1,k' t1 x1=some r'∧t1.imm=t.imm∧fp1.Perm (fr++fy)∧Rep A P t1 Z' h' (a1d cs o ys) x1 fp1∧(t2=t0→t1=t)∧(TE t0 t2→TE t t1):=by
 intro t
 induction t with
 |pair a b iha ihb =>
  intro x i cs fp o t0 hk hr;obtain⟨c1,c2,f1,f2,rfl,rfl,h3,h4⟩:=hr;cases i with
  |zero =>
   have l1:=a1j h3;simp only[a1h,Ad,Aj] at hk;obtain⟨rfl,rfl⟩:=hk;refine⟨x.1,f1,f2,fun _=>rfl,Aw,?_,by simp[l1],?_⟩
   ·rw[a7q (by omega)];have:seg c1 0 a.size=c1:=by simp[seg,←l1]
    rw[this];exact h3
   ·intro Z' h' t2 ys y fy hi hy hz hh R' k' r' hp;have l2:ys.length=c1.length:=by rw[a1j hy,←a1e,hi,a1e,l1]
    refine⟨.pair t2 b,(y,x.2),fy++f2,hp,by simp[Ty.imm,hi],Aw,⟨ys,c2,fy,f2,?_,rfl,hy,a0g h4 hz fun b' hb=>hh b' hb⟩,fun h=>by rw[h],fun h=>⟨h,TE.refl b⟩⟩;rw[c2p (by omega)];simp[a1d,l2]
  |succ i =>
   simp only[a1h] at hk;split at hk <;> simp only[Ad,Aj,reduceCtorEq] at hk;rename_i o t0' e2;obtain⟨rfl,rfl⟩:=hk;obtain⟨x0,fs,fr,e1,e3,e4,e5,e6⟩:=ihb (x:=x.2) e2 h4;have l1:=a1j h3;refine⟨x0,fs,f1++fr,fun k=>e1 k,?_,?_,by simp;omega,?_⟩
   ·rw[Ae];exact Ay f1 e3
   ·rw[←l1,a9j];exact e4
   ·intro Z' h' t2 ys y fy hi hy hz hh R' k' r' hp;obtain⟨t1,x1,fp1,g1,g2,g3,g4,g5,g6⟩:=e6 Z' h' t2 ys y fy hi hy hz (fun b' hb=>hh b' (hb.imp id fun hb=>Al _ hb)) hp;refine⟨.pair a t1,(x.1,x1),f1++fp1,g1,by simp[Ty.imm,g2],?_,⟨c1,a1d c2 o ys,f1,fp1,?_,rfl,a0g h3 hz fun b' hb=>hh b' (hb.imp id fun hb=>Am _ hb),g4⟩,fun h=>by rw[g5 h],fun h=>⟨TE.refl a,g6 h⟩⟩
    ·rw[Ae];exact Ay f1 g3
    ·rw[←l1,c0o]
 |_=>intro x i cs fp o t0 hk hr;simp[a1h] at hk
theorem a9u{cs:List Value}{o o' n m:Nat}(hl:o'+m≤n):seg (seg cs o n) o' m=seg cs (o+o') m:=by
 unfold seg;rw[F9,FA,FB];congr 1;omega
theorem c3x{cs ys:List Value}{o o' n:Nat}(hl:o'+ys.length≤n)(hn:o+n≤cs.length):a1d cs o (a1d (seg cs o n) o' ys)=a1d cs (o+o') ys:=by
 apply Dv;intro i;have h1:(seg cs o n).length=n:=a3w hn;have h2:(a1d (seg cs o n) o' ys).length=n:=by rw[a4i (by omega),h1]
 unfold a1d at *;simp only[Dh,AV,Bg,A7,Ac,List.length_drop,h1,h2,seg]
 repeat' split
 all_goals first|omega|rfl|(congr 1;omega)|(rw[BW (by simp;omega)])
theorem a3s{cs ys:List Value}{o n:Nat}(hn:ys.length=n)(hl:o+n≤cs.length):seg (a1d cs o ys) o n=ys:=by
 subst hn;unfold seg a1d;have:(cs.take o).length=o:=by simp;omega
 rw[Ae,Cx (by omega),Db (by omega)];simp
theorem a1z{cs ys:List Value}{o o' n:Nat}(hl:o+ys.length≤cs.length)(hd:o'+n≤o∨o+ys.length≤o'):seg (a1d cs o ys) o' n=seg cs o' n:=by
 unfold seg a1d;apply Dv;intro i;simp only[AV,Bg,Dh,A7,Ac]
 repeat' split
 all_goals first|rfl|omega|(congr 1;omega)
theorem b4p{i j n:Nat}(hij:j≠i):i*n+n≤j*n∨j*n+n≤i*n:=by
 rcases Nat.lt_or_gt_of_ne hij with hlt|hlt
 ·right;rw[←AC];exact Ai _ hlt
 ·left;rw[←AC];exact Ai _ hlt
def Lens(A:Amb)(P:Program)(Z:Nat→Prop)(h:Array Obj)(p:List Stp)(t:Ty)(cs:List Value)(x:t.den)(fp:List Nat)(t0:Ty)(x0:t0.den)(o:Nat)(fs fr:List Nat):Prop :=
 fp.Perm (fr++fs)∧Rep A P t0 Z h (seg cs o t0.size) x0 fs∧o+t0.size≤cs.length ∧
  ∀(Z':Nat→Prop) (h':Array Obj) (t2:Ty) (ys:List Value) (y:t2.den) (fy:List Nat),t2.imm=t0.imm→Rep A P t2 Z' h' ys y fy→(∀b,Z b→Z' b) →
   (∀b,Z b∨b∈fr→h'[b]?=h[b]?)→∀{R':Type} {k':(t':Ty)→t'.den→Option R'} {r':R'},b5s p t x t2 y k'=some r' →
    ∃t1 x1 fp1,k' t1 x1=some r'∧t1.imm=t.imm∧fp1.Perm (fr++fy)∧Rep A P t1 Z' h' (a1d cs o ys) x1 fp1∧(t2=t0→t1=t)∧(TE t0 t2→TE t t1)
theorem b1n{cs:List Value}{n:Nat}(hl:cs.length=n):seg cs 0 n=cs:=by simp[seg,←hl]
theorem d9y{cs ys:List Value}(hl:cs.length=ys.length):a1d cs 0 ys=ys:=by simp[a1d,←hl]
theorem a7f:∀{p:List Stp} {t:Ty} {x:t.den} {cs:List Value} {fp:List Nat} {o:Nat} {t0:Ty},a1w p t=some (o,t0)→Rep A P t Z h cs x fp →
  ∃x0 fs fr,(∀{R:Type} (k:(t':Ty)→t'.den→Option R),b2z p t x k=k t0 x0)∧Lens A P Z h p t cs x fp t0 x0 o fs fr
 |[],t,x,cs,fp,o,t0,ho,hr=>by
  simp only[a1w,Ad,Aj] at ho;obtain⟨rfl,rfl⟩:=ho;have hl:=a1j hr;refine⟨x,fp,[],fun _=>rfl,by simp,by rw[b1n hl];exact hr,by omega,?_⟩;intro Z' h' t2 ys y fy hi hy hz hh R' k' r' hp;refine⟨t2,y,fy,hp,hi,by simp,?_,id,id⟩;have:ys.length=cs.length:=by rw[a1j hy,←a1e,hi,a1e,hl]
  rw[d9y this.symm];exact hy
 |.f i::p,t,x,cs,fp,o,t0,ho,hr=>by
  cases t with
  |st t =>
   simp only[a1w] at ho;split at ho
   ·rename_i o1 t1 e2;obtain⟨x1,fs1,fr1,e1,e3,e4,e5,e6⟩:=b7p (t:=t) (x:=x) e2 hr;split at ho
    ·rename_i o' t' ho';simp only[Ad,Aj] at ho;obtain⟨rfl,rfl⟩:=ho;obtain⟨x0,fs,fr,g1,g2,g3,g4,g5⟩:=a7f ho' e4;have hsl:(seg cs o1 t1.size).length=t1.size:=a3w e5;rw[hsl] at g4;refine⟨x0,fs,fr1++fr,fun k=>(e1 _).trans (g1 k),?_,?_,by omega,?_⟩
     ·refine e3.trans ?_;rw[Ae];exact Ay fr1 g2
     ·rw[←a9u g4];exact g3
     ·intro Z' h' t2 ys y fy hi hy hz hh R' k' r' hp;simp only[b5s] at hp;rw[e1] at hp;obtain⟨t3,x3,fp3,q1,q2,q3,q4,q5,q6⟩:=g5 Z' h' t2 ys y fy hi hy hz (fun b hb=>hh b (hb.imp id fun hb=>Al _ hb)) hp;obtain⟨t4,x4,fp4,u1,u2,u3,u4,u5,u6⟩:=e6 Z' h' t3 _ x3 fp3 q2 q4 hz (fun b hb=>hh b (hb.imp id fun hb=>Am _ hb)) q1;refine⟨.st t4,x4,fp4,u1,by simp[Ty.imm,u2],?_,?_,fun h=>by rw[u5 (q5 h)],fun h=>u6 (q6 h)⟩
      ·refine u3.trans ?_;rw[Ae];exact Ay fr1 q3
      ·have hyl:ys.length=t'.size:=by rw[a1j hy,←a1e,hi,a1e]
       rw[c3x (by omega) e5] at u4;exact u4
    ·simp at ho
   ·simp at ho
  |_=>simp[a1w] at ho
 |.a j::p,t,x,cs,fp,o,t0,ho,hr=>by
  cases t with
  |arr n t =>
   simp only[a1w] at ho;split at ho
   ·rename_i hj;split at ho
    ·rename_i o' t' ho';simp only[Ad,Aj] at ho;obtain⟨rfl,rfl⟩:=ho;obtain⟨rfl,hpu,h1,h2,h3⟩:=hr;have hjn:j.toNat<x.length:=by omega
     have hgd:x.getD j.toNat t.dflt=x[j.toNat]:=a0h _ hjn;have hb:j.toNat*t.size+t.size≤cs.length:=by
      rw[h2,←AC];exact Ai _ (by omega)
     obtain⟨x0,fs,fr,g1,g2,g3,g4,g5⟩:=a7f ho' (h3 _ hjn);have hsl:(seg cs (j.toNat*t.size) t.size).length=t.size:=a3w hb;rw[hsl] at g4;obtain⟨rfl,rfl⟩:fr=[]∧fs=[]:=by simpa using BP g2
     refine⟨x0,[],[],fun k=>by simp only[b2z];rw[hgd];exact g1 k,by simp,?_,by omega,?_⟩
     ·rw[←a9u g4];exact g3
     ·intro Z' h' t2 ys y fy hi hy hz hh R' k' r' hp;simp only[b5s] at hp;rw[hgd] at hp;obtain⟨t3,x3,fp3,q1,q2,q3,q4,q5,q6⟩:=g5 Z' h' t2 ys y fy hi hy hz (fun b hb=>hh b (hb.imp id (by simp))) hp;obtain⟨rfl,y',hy',q1⟩:=b0y q1;cases hy';have hyl:ys.length=t'.size:=by rw[a1j hy,←a1e,hi,a1e]
      obtain rfl:=a1y q4 hpu;obtain rfl:fy=[]:=by simpa using BP q3
      refine⟨.arr n t3,_,[],q1,rfl,by simp,⟨rfl,hpu,by simpa using h1,?_,fun i hi=>?_⟩,fun _=>rfl,fun _=>TE.refl _⟩
      ·rw[a4i (by omega)];exact h2
      ·rw[Bx] at hi;rw[←c3x (by omega) hb];by_cases hij:j.toNat=i
       ·subst hij;rw[BE];have:seg (a1d cs (j.toNat*t3.size) (a1d (seg cs (j.toNat*t3.size) t3.size) o' ys)) (j.toNat*t3.size) t3.size=a1d (seg cs (j.toNat*t3.size) t3.size) o' ys:=by
         refine a3s ?_ hb;rw[a4i (by omega)];exact hsl
        rw[this];exact q4
       ·rw[CD hij];have:seg (a1d cs (j.toNat*t3.size) (a1d (seg cs (j.toNat*t3.size) t3.size) o' ys)) (i*t3.size) t3.size=seg cs (i*t3.size) t3.size:=by
         have hlen:(a1d (seg cs (j.toNat*t3.size) t3.size) o' ys).length=t3.size:=by rw[a4i (by omega)];exact hsl
         refine a1z (by omega) ?_;rw[hlen];exact b4p hij
        rw[this];exact a0g (h3 i hi) hz fun b hb=>hh b (hb.imp id (by simp))
    ·simp at ho
   ·simp at ho
  |_=>simp[a1w] at ho
end Go.Rb

namespace Go.Rb
variable {A:Amb} {P:Program} {Z Z':Nat→Prop} {h h':Array Obj} {R:Type}
theorem c0w:∀{t t':Ty} {i o:Nat} {t0:Ty},t.imm=t'.imm→a1h t i=some (o,t0)→∃t0',a1h t' i=some (o,t0')∧t0'.imm=t0.imm:=by
 intro t
 induction t with
 |pair a b iha ihb =>
  intro t' i o t0 hi hk;cases t' <;> simp[Ty.imm] at hi;rename_i a' b';cases i with
  |zero =>
   simp only[a1h,Ad,Aj] at hk ⊢;obtain⟨rfl,rfl⟩:=hk;exact⟨a',⟨rfl,rfl⟩,hi.1.symm⟩
  |succ i =>
   simp only[a1h] at hk ⊢;split at hk <;> simp only[Ad,Aj,reduceCtorEq] at hk;rename_i e2;obtain⟨rfl,rfl⟩:=hk;obtain⟨t0',e,he⟩:=ihb hi.2 e2;refine⟨t0',?_,he⟩;rw[e];simp only[Ad,Aj,and_true];rw[←a1e a',←hi.1,a1e]
 |_=>intro t' i o t0 hi hk;simp[a1h] at hk
theorem b7u:∀{p:List Stp} {t t':Ty} {o:Nat} {t0:Ty},t.imm=t'.imm→a1w p t=some (o,t0)→∃t0',a1w p t'=some (o,t0')∧t0'.imm=t0.imm
 |[],t,t',o,t0,hi,hk=>by
  simp only[a1w,Ad,Aj] at hk ⊢;obtain⟨rfl,rfl⟩:=hk;exact⟨t',⟨rfl,rfl⟩,hi.symm⟩
 |.f i::p,t,t',o,t0,hi,hk=>by
  cases t with
  |st t =>
   cases t' <;> simp[Ty.imm] at hi;simp only[a1w] at hk ⊢;split at hk
   ·rename_i o1 t1 e1;obtain⟨t1',e1',h1⟩:=c0w hi e1;split at hk
    ·rename_i o2 t2 e2;obtain⟨t2',e2',h2⟩:=b7u h1.symm e2;simp only[Ad,Aj] at hk;obtain⟨rfl,rfl⟩:=hk;exact⟨t2',by rw[e1'];simp[e2'],h2⟩
    ·simp at hk
   ·simp at hk
  |_=>simp[a1w] at hk
 |.a j::p,t,t',o,t0,hi,hk=>by
  cases t with
  |arr n t =>
   cases t' <;> simp[Ty.imm] at hi;rename_i n' t';obtain⟨rfl,hi⟩:=hi;simp only[a1w] at hk ⊢;split at hk
   ·split at hk
    ·rename_i o2 t2 e2;obtain⟨t2',e2',h2⟩:=b7u hi e2;simp only[Ad,Aj] at hk;obtain⟨rfl,rfl⟩:=hk;refine⟨t2',?_,h2⟩;rw[if_pos ‹_›,e2',←a1e t,hi,a1e]
    ·simp at hk
   ·simp at hk
  |_=>simp[a1w] at hk
theorem d3v:∀{p:List Stp} {t:Ty} {o:Nat} {t0:Ty} {x:t.den} {cs:List Value} {fp:List Nat},a1w p t=some (o,t0)→Rep A P t Z h cs x fp→o+t0.size≤cs.length:=by
 intro p t o t0 x cs fp ho hr;obtain⟨_,_,_,_,_,_,hl,_⟩:=a7f ho hr;exact hl
def a6p:Ty→Option (Nat×Ty)
 |.sl .own e t=>some (e,t)
 |.slh e t=>some (e,t)
 |_=>none
def Loc(h:Array Obj)(p:Pl)(t:Ty)(cs:List Value)(base:Option Nat)(t0:Ty)(cs0:List Value)(ad:Option Addr):Prop :=
 match p.ix with
 |none=>∃o,a1w p.p1 t=some (o,t0)∧cs0=seg cs o t0.size∧ad=base.map fun b=>⟨b,o,none⟩
 |some (j,q)=>∃o1 tsl e te n cap b c o2,a1w p.p1 t=some (o1,tsl)∧a6p tsl=some (e,te)∧seg cs o1 1=[.slice (some ⟨b,0,none⟩) n cap]∧Blk h b c ∧
   0≤j∧j<n∧n≤cap∧c.size=cap*te.size∧a1w q te=some (o2,t0)∧o2+t0.size≤te.size∧cs0=seg c.toList (j.toNat*te.size+o2) t0.size∧ad=some ⟨b,j.toNat*te.size+o2,none⟩
def Wr(h h':Array Obj)(ad:Addr)(ys:List Value):Prop :=
 ∃c c' el fr,ad.spot=none∧h[ad.block]?=some (.cells c el fr)∧h'[ad.block]?=some (.cells c' el fr)∧c'.toList=a1d c.toList ad.off ys∧ad.off+ys.length≤c.size ∧
  (∀b,b≠ad.block→h'[b]?=h[b]?)∧h'.size=h.size
def Mem(h h':Array Obj)(ad:Option Addr)(ys cs0:List Value):Prop:=(h'=h∧ys=cs0)∨∃a,ad=some a∧Wr h h' a ys
theorem Wr.blk{ad:Addr}{ys:List Value}(hw:Wr h h' ad ys){c:Array Value}(hb:Blk h ad.block c):∃c',Blk h' ad.block c'∧c'.toList=a1d c.toList ad.off ys∧ad.off+ys.length≤c.size∧c'.size=c.size:=by
 obtain⟨c0,c',el,fr,_,h1,h2,h3,h4,_,_⟩:=hw;obtain⟨el',fr',g1,g2⟩:=hb;rw[h1] at g1;simp only[Ad,CM] at g1;obtain⟨rfl,rfl,rfl⟩:=g1;have hs:c'.size=c0.size:=by
  rw[←AN,h3,a4i (by simpa using h4)];simp
 exact⟨c',⟨el,fr,h2,g2.1,fun i hi=>g2.2 i (by omega)⟩,h3,h4,hs⟩
theorem a5b{cs:List Value}{o n:Nat}(hl:o+n≤cs.length):a1d cs o (seg cs o n)=cs:=by
 unfold a1d;rw[a3w hl];unfold seg;have:(cs.drop o).take n++cs.drop (o+n)=cs.drop o:=by rw[←FB,Bw]
 rw[Ae,this,Bw]
theorem e3b{t:Ty}{cs:List Value}{x:t.den}{fp:List Nat}{p:Pl}{o:Nat}{t0 t2:Ty}{y:t2.den}{k:(t':Ty)→t'.den→Option R}{r:R}
  (hr:Rep A P t Z h cs x fp) (hix:p.ix=none) (ho:a1w p.p1 t=some (o,t0)) (hk:c0p t2 y p t x k=some r) :
  ∃x0 fs fr,(∀{R:Type} (k:(t':Ty)→t'.den→Option R),a3m p t x k=k t0 x0)∧fp.Perm (fr++fs)∧Rep A P t0 Z h (seg cs o t0.size) x0 fs∧t2.imm=t0.imm ∧
   ∀(Z':Nat→Prop) (h':Array Obj) (ys:List Value) (fy:List Nat),Rep A P t2 Z' h' ys y fy→(∀b,Z b→Z' b)→(∀b,Z b∨b∈fr→h'[b]?=h[b]?) →
    ∃t1 x1 fp1,k t1 x1=some r∧t1.imm=t.imm∧fp1.Perm (fr++fy)∧Rep A P t1 Z' h' (a1d cs o ys) x1 fp1∧(t2=t0→t1=t)∧(TE t0 t2→TE t t1):=by
 obtain⟨x0,fs,fr,e1,e2,e3,e4,e5⟩:=a7f (x:=x) ho hr;unfold c0p at hk;rw[e1] at hk;simp only[hix] at hk;split at hk
 ·rename_i hd;have hi:=of_decide_eq_true hd;refine⟨x0,fs,fr,fun k=>?_,e2,e3,hi,fun Z' h' ys fy hy hz hh=>e5 Z' h' t2 ys y fy hi hy hz hh hk⟩;unfold a3m;rw[e1];simp only[hix]
 ·simp at hk
theorem a7c:∀{l:List (List Nat)} {j:Nat} (g:List Nat),j<l.length→(l.set j g).flatten.Perm ((l.set j []).flatten++g)
 |x::l,0,g,_=>by simp only[List.set_cons_zero,Bt,List.nil_append];exact Aw
 |x::l,j+1,g,hj=>by
  simp only[List.set_cons_succ,Bt,Ae];exact Ay x (a7c g (by simpa using hj))
theorem a8v{l:List (List Nat)}{j:Nat}(hj:j<l.length):l.flatten.Perm ((l.set j []).flatten++l[j]):=by
 have:=a7c (l:=l) (j:=j) l[j] hj;rwa [List.set_getElem_self] at this
theorem Blk.same{b:Nat}{c c':Array Value}(h1:Blk h b c)(h2:Blk h b c'):c=c':=by
 obtain⟨el,fr,g1,_⟩:=h1;obtain⟨el',fr',g2,_⟩:=h2;rw[g1] at g2;simp only[Ad,CM] at g2;exact g2.1
theorem Mem.other{ad:Addr}{ys cs0:List Value}(hm:Mem h h' (some ad) ys cs0){b:Nat}(hb:b≠ad.block):h'[b]?=h[b]?:=by
 rcases hm with⟨rfl,_⟩|⟨a,ha,hw⟩
 ·rfl
 ·obtain rfl:=Ag ha;obtain⟨c,c',el,fr,_,_,_,_,_,h5,_⟩:=hw;exact h5 b hb
theorem Wr.nm{ad:Addr}{ys:List Value}(hw:Wr h h' ad ys){b:Nat}(hb:NoMk h b):NoMk h' b:=by
 obtain⟨c,c',el,fr,_,h1,h2,h3,h4,h5,_⟩:=hw;by_cases hbb:b=ad.block
 ·subst hbb;intro c2 el2 fr2 h6;rw[h2] at h6;simp only[Ad,CM] at h6;obtain⟨rfl,rfl,rfl⟩:=h6;have hs:c'.size=c.size:=by
   rw[←AN,h3,a4i (by simpa using h4)];simp
  rw[hs];exact hb c el fr h1
 ·exact hb.mono (h5 b hbb)
theorem Mem.nm{ad:Option Addr}{ys cs0:List Value}(hm:Mem h h' ad ys cs0){b:Nat}(hb:NoMk h b):NoMk h' b:=by
 rcases hm with⟨rfl,_⟩|⟨a,_,hw⟩
 ·exact hb
 ·exact hw.nm hb
theorem Mem.blk{ad:Addr}{ys cs0:List Value}(hm:Mem h h' (some ad) ys cs0){c:Array Value}(hb:Blk h ad.block c)(hc:cs0=seg c.toList ad.off ys.length)(hl:ad.off+ys.length≤c.size) :
  ∃c',Blk h' ad.block c'∧c'.toList=a1d c.toList ad.off ys∧c'.size=c.size:=by
 rcases hm with⟨rfl,rfl⟩|⟨a,ha,hw⟩
 ·refine⟨c,hb,?_,rfl⟩;rw[hc];have:(seg c.toList ad.off ys.length).length=ys.length:=a3w (by simpa using hl);rw[a5b (by simpa using hl)]
 ·obtain rfl:=Ag ha;obtain⟨c',g1,g2,_,g4⟩:=hw.blk hb;exact⟨c',g1,g2,g4⟩
theorem f1r{t:Ty}{cs:List Value}{x:t.den}{fp:List Nat}{p:Pl}{t0 t2:Ty}{y:t2.den}{k:(t':Ty)→t'.den→Option R}{r:R}
  {j:Int} {q:List Stp} {o1 e n cap b o2:Nat} {te:Ty} {c:Array Value}
  (hr:Rep A P t Z h cs x fp) (hix:p.ix=some (j,q)) (ho:a1w p.p1 t=some (o1,.sl .own e te)) (hs:seg cs o1 1=[.slice (some ⟨b,0,none⟩) n cap]) (hb:Blk h b c)
  (hj0:0≤j) (hjn:j<n) (ho2:a1w q te=some (o2,t0)) (hnd:fp.Nodup) (hnz:∀b,b∈fp→¬Z b) (hk:c0p t2 y p t x k=some r) :
  ∃x0 fs fr,(∀{R:Type} (k:(t':Ty)→t'.den→Option R),a3m p t x k=k t0 x0)∧fp.Perm (fr++fs)∧Rep A P t0 Z h (seg c.toList (j.toNat*te.size+o2) t0.size) x0 fs∧t2.imm=t0.imm ∧
   ∀(Z':Nat→Prop) (h':Array Obj) (ys:List Value) (fy:List Nat),Rep A P t2 Z' h' ys y fy→(∀b,Z b→Z' b)→Mem h h' (some ⟨b,j.toNat*te.size+o2,none⟩) ys (seg c.toList (j.toNat*te.size+o2) t0.size) →
    ∃t1 x1 fp1,k t1 x1=some r∧t1.imm=t.imm∧fp1.Perm (fr++fy)∧Rep A P t1 Z' h' cs x1 fp1∧t1=t:=by
 obtain⟨xl,fs,fr,e1,e2,e3,e4,e5⟩:=a7f (x:=x) ho hr;simp only[Ty.size] at e3 e4;rw[hs] at e3;obtain⟨a,n',cap',hsl,h2,h3,h4,h5,h6⟩:=e3;simp only[AG,AR,and_true] at hsl;obtain⟨rfl,rfl,rfl⟩:=hsl;rcases h6 with⟨h6,_⟩|⟨b',c',fps,g1,g2,g3,rfl,g5,g6⟩
 ·simp at h6
 ·simp only[Ad,B0,and_true] at g1;obtain rfl:=g1;obtain rfl:=hb.same g2.blk;have hjl:j.toNat<xl.length:=by omega
  have hgd:xl.getD j.toNat te.dflt=xl[j.toNat]:=a0h _ hjl;obtain⟨x0,fs',fr',k1,k2,k3,k4,k5⟩:=a7f (x:=xl[j.toNat]) ho2 (g6 _ hjl);rw[a0h _ (by omega:j.toNat<fps.length)] at k2;have hjb:j.toNat*te.size+te.size≤c.toList.length:=by
   rw[AN,g3,←AC];exact Ai _ (by omega)
  have hel:(seg c.toList (j.toNat*te.size) te.size).length=te.size:=a3w hjb;rw[hel] at k4;unfold c0p at hk;rw[e1] at hk;simp only[hix,hgd] at hk;rw[k1] at hk;split at hk
  ·rename_i hd;have hi:=of_decide_eq_true hd;have hnd2:(fr++(b::fps.flatten)).Nodup:=e2.nodup_iff.1 hnd;have hbz:¬Z b:=hnz b (e2.mem_iff.2 (by simp));have hbfr:b∉fr:=fun hm=>(Ak.1 hnd2).2.2 b hm b (by simp) rfl
   have hbfl:b∉fps.flatten:=(AO.1 (Ak.1 hnd2).2.1).1;refine⟨x0,fs',fr++(b::((fps.set j.toNat []).flatten++fr')),fun k=>?_,?_,?_,hi,?_⟩
   ·unfold a3m;rw[e1];simp only[hix,hgd];exact k1 k
   ·refine e2.trans ?_;rw[Ae];refine Ay fr (B7 b ?_);refine(a8v (by omega:j.toNat<fps.length)).trans ?_;exact(Ay _ k2).trans (by simp)
   ·rw[←a9u k4];exact k3
   ·intro Z' h' ys fy hy hz hm;have hyl:ys.length=t0.size:=by rw[a1j hy,←a1e,hi,a1e]
    obtain⟨c1,m1,m2,m3⟩:=hm.blk hb (by rw[hyl]) (by simp only[hyl];simp at hjb;omega);have hoth:∀b',b'≠b→h'[b']?=h[b']?:=fun b' hb'=>hm.other hb'
    obtain⟨te',y',fp',q1,q2,q3,q4,_,_⟩:=k5 Z' h' t2 ys y fy hi hy hz (fun b' hb'=>hoth b' (by
     rintro rfl;rcases hb' with hb'|hb'
     ·exact hbz hb'
     ·exact hbfl (a2p (i:=j.toNat) (by rw[a0h _ (by omega:j.toNat<fps.length)];exact k2.mem_iff.2 (Am _ hb'))))) hk
    obtain⟨rfl,y'',hyy,q1⟩:=b0y q1;cases hyy;have hsp:(a1d (seg c.toList (j.toNat*te'.size) te'.size) o2 ys).length=te'.size:=by rw[a4i (by omega)];exact hel
    have hc1:c1.toList=a1d c.toList (j.toNat*te'.size) (a1d (seg c.toList (j.toNat*te'.size) te'.size) o2 ys):=by rw[m2,c3x (by omega) hjb]
    have hnew:Rep A P (.sl .own e te') Z' h' [.slice (some ⟨b,0,none⟩) n cap] (xl.set j.toNat y') (b::(fps.set j.toNat fp').flatten):=by
     refine⟨_,n,cap,rfl,by simpa using h2,h3,h4,h5,.inr ⟨b,c1,fps.set j.toNat fp',rfl,⟨m1,fun he=>hm.nm (g2.nm he)⟩,by rw[m3,g3],rfl,by simpa using g5,fun i hi'=>?_⟩⟩;rw[Bx] at hi';by_cases hij:j.toNat=i
     ·subst hij;rw[BE,a0h _ (by simp;omega),BE,hc1,a3s hsp hjb];exact q4
     ·rw[CD hij,hc1,a1z (by omega) (by rw[hsp];exact b4p hij)];have:(fps.set j.toNat fp').getD i []=fps.getD i []:=by simp[BC,C4 hij]
      rw[this];refine a0g (g6 i hi') hz fun b' hb'=>hoth b' ?_
      rintro rfl;rcases hb' with hb'|hb'
      ·exact hbz hb'
      ·exact hbfl (a2p hb')
    obtain⟨t1,x1,fp1,u1,u2,u3,u4,u5,_⟩:=e5 Z' h' (.sl .own e te') _ _ _ rfl hnew hz (fun b' hb'=>hoth b' (by
     rintro rfl;rcases hb' with hb'|hb'
     ·exact hbz hb'
     ·exact hbfr hb')) q1
    refine⟨t1,x1,fp1,u1,u2,?_,?_,u5 rfl⟩
    ·refine u3.trans ?_;rw[Ae];refine Ay fr (B7 b ?_);refine(a7c fp' (by omega)).trans ?_;exact(Ay _ q3).trans (by simp)
    ·rw[←hs,a5b (by simpa using e4)] at u4;exact u4
  ·simp at hk
theorem e2j{t:Ty}{cs:List Value}{x:t.den}{fp:List Nat}{p:Pl}{t0 t2:Ty}{y:t2.den}{k:(t':Ty)→t'.den→Option R}{r:R}
  {j:Int} {q:List Stp} {o1 e n cap b o2:Nat} {te:Ty} {c:Array Value}
  (hr:Rep A P t Z h cs x fp) (hix:p.ix=some (j,q)) (ho:a1w p.p1 t=some (o1,.slh e te)) (hs:seg cs o1 1=[.slice (some ⟨b,0,none⟩) n cap]) (hb:Blk h b c)
  (hj0:0≤j) (hjn:j<n) (ho2:a1w q te=some (o2,t0)) (hnd:fp.Nodup) (hnz:∀b,b∈fp→¬Z b) (hk:c0p t2 y p t x k=some r) :
  t2=te∧t0=te∧o2=0 ∧
   ∀(Z':Nat→Prop) (h':Array Obj) (ys:List Value) (fy:List Nat),Rep A P t2 Z' h' ys y fy→(∀b,Z b→Z' b)→Mem h h' (some ⟨b,j.toNat*te.size+o2,none⟩) ys (seg c.toList (j.toNat*te.size+o2) t0.size) →
    ∃t1 x1 fp1,k t1 x1=some r∧t1.imm=t.imm∧fp1.Perm (fp++fy)∧Rep A P t1 Z' h' cs x1 fp1:=by
 obtain⟨xl,fs,fr,e1,e2,e3,e4,e5⟩:=a7f (x:=x) ho hr;simp only[Ty.size] at e3 e4;rw[hs] at e3;obtain⟨b',n',cap',c',fps,hsl,h2,h3,h4,h5,g2,g3,rfl,g5,h9,h10,g6⟩:=e3;simp only[AG,AR,Ad,B0,and_true] at hsl;obtain⟨rfl,rfl,rfl⟩:=hsl;obtain rfl:=hb.same g2.blk;unfold c0p at hk;rw[e1] at hk;simp only[hix] at hk;cases q with
 |cons=>simp at hk
 |nil =>
  simp only at hk;obtain⟨rfl,y',hy',hk⟩:=b0y hk;cases hy';split at hk
  ·rename_i hj;subst hj;simp only[a1w,Ad,Aj] at ho2;obtain⟨rfl,rfl⟩:=ho2;have hnd2:(fr++(b::fps.flatten)).Nodup:=e2.nodup_iff.1 hnd;have hbz:¬Z b:=hnz b (e2.mem_iff.2 (by simp));have hbfr:b∉fr:=fun hm=>(Ak.1 hnd2).2.2 b hm b (by simp) rfl
   have hbfl:b∉fps.flatten:=(AO.1 (Ak.1 hnd2).2.1).1;refine⟨rfl,rfl,rfl,?_⟩;intro Z' h' ys fy hy hz hm;have hjl:xl.1.toNat<xl.2.length:=by omega
   have hyl:ys.length=t2.size:=a1j hy;have hjb:xl.1.toNat*t2.size+t2.size≤c.toList.length:=by
    rw[AN,g3,←AC];exact Ai _ (by omega)
   obtain⟨c1,m1,m2,m3⟩:=hm.blk hb (by rw[hyl]) (by simp only[hyl];simp at hjb;omega);simp only[Ee] at m2;have hoth:∀b',b'≠b→h'[b']?=h[b']?:=fun b' hb'=>hm.other hb'
   have hnew:Rep A P (.sl .own e t2) Z' h' [.slice (some ⟨b,0,none⟩) n cap] (xl.2.set xl.1.toNat y) (b::(fps.set xl.1.toNat fy).flatten):=by
    refine⟨_,n,cap,rfl,by simpa using h2,h3,h4,h5,.inr ⟨b,c1,fps.set xl.1.toNat fy,rfl,⟨m1,fun he=>hm.nm (g2.nm he)⟩,by rw[m3,g3],rfl,by simpa using g5,fun i hi'=>?_⟩⟩;rw[Bx] at hi';by_cases hij:xl.1.toNat=i
    ·subst hij;rw[BE,a0h _ (by simp;omega),BE,m2,a3s hyl hjb];exact hy
    ·rw[CD hij,m2,a1z (by omega) (by rw[hyl];exact b4p hij)];have h11:=g6 i hi';rw[if_neg (BM hij)] at h11;have:(fps.set xl.1.toNat fy).getD i []=fps.getD i []:=by simp[BC,C4 hij]
     rw[this];refine a0g h11 hz fun b' hb'=>hoth b' ?_
     rintro rfl;rcases hb' with hb'|hb'
     ·exact hbz hb'
     ·exact hbfl (a2p hb')
   obtain⟨t1,x1,fp1,u1,u2,u3,u4,_,_⟩:=e5 Z' h' (.sl .own e t2) _ _ _ rfl hnew hz (fun b' hb'=>hoth b' (by
    rintro rfl;rcases hb' with hb'|hb'
    ·exact hbz hb'
    ·exact hbfr hb')) hk
   refine⟨t1,x1,fp1,u1,u2,?_,?_⟩
   ·refine u3.trans ?_;refine List.Perm.trans ?_ (Az fy e2.symm);rw[Ae];refine Ay fr (B7 b ?_);refine(a7c fy (by omega)).trans (Az fy ?_);have h12:=g6 xl.1.toNat hjl;rw[if_pos rfl,a0h _ (by omega:xl.1.toNat<fps.length)] at h12;have h13:=a8v (l:=fps) (j:=xl.1.toNat) (by omega);rw[h12,A9] at h13;exact h13.symm
   ·rw[←hs,a5b (by simpa using e4)] at u4;exact u4
  ·simp at hk
theorem f2v(t:Ty):t.left.imm=t.imm:=by
 induction t with
 |sl m e t _=>cases m <;> rfl
 |st t ih=>simp[Ty.left,Ty.imm,ih]
 |pair a b iha ihb=>simp[Ty.left,Ty.imm,iha,ihb]
 |_=>rfl
theorem e2e(t:Ty):t.den=t.left.den:=by
 induction t with
 |sl m e t _=>cases m <;> rfl
 |st t ih=>exact ih
 |pair a b iha ihb=>show(a.den×b.den)=(a.left.den×b.left.den);rw[←iha,←ihb]
 |_=>rfl
theorem f4h:∀{t:Ty} {cs:List Value} {x:t.den} {y:t.left.den} {fp:List Nat},t.whole=true→HEq x y→Rep A P t Z h cs x fp→Rep A P t.left Z h cs y []:=by
 intro t
 induction t with
 |sl m e t ih =>
  intro cs x y fp hw hx hr;cases m with
  |imm=>cases hx;have:=hr;obtain⟨_,_,_,_,rfl,_⟩:=this;exact hr
  |own=>obtain⟨a,n,cap,rfl,_⟩:=hr;exact⟨a,n,cap,rfl,rfl⟩
  |hole=>simp[Ty.whole] at hw
 |slh e t _=>intro cs x y fp hw;simp[Ty.whole] at hw
 |st t ih=>intro cs x y fp hw hx hr;exact ih (by simpa[Ty.whole] using hw) hx hr
 |pair a b iha ihb =>
  intro cs x y fp hw hx hr;simp only[Ty.whole,Af] at hw;obtain⟨h1,h2⟩:=e2s (e2e a) (e2e b) hx;obtain⟨c1,c2,f1,f2,rfl,rfl,h3,h4⟩:=hr;exact⟨c1,c2,[],[],rfl,rfl,iha hw.1 h1 h3,ihb hw.2 h2 h4⟩
 |_ =>
  intro cs x y fp hw hx hr;cases hx;have:=a1y hr
  first
  |(rw[this rfl] at hr;exact hr)
  |(have h0:=hr.1;rw[h0] at hr;exact hr)
theorem f8o(t:Ty):TE t t.left:=by
 induction t with
 |sl m e t _ =>
  cases m with
  |imm=>exact TE.refl _
  |own=>exact⟨rfl,rfl,.inr ⟨rfl,by simp⟩⟩
  |hole=>exact TE.refl _
 |st t ih=>exact ih
 |pair a b iha ihb=>exact⟨iha,ihb⟩
 |_=>exact TE.refl _
theorem c1d(t:Ty):t.imm.imm=t.imm:=by induction t <;> simp_all [Ty.imm]
theorem f9r{t:Ty}{cs:List Value}{x:t.den}{fp:List Nat}{p:Pl}{o:Nat}{t0:Ty}{k:(t':Ty)→t'.den→Option R}{r:R}
  (hr:Rep A P t Z h cs x fp) (hix:p.ix=none) (ho:a1w p.p1 t=some (o,t0)) (hk:b6p p t x k=some r) :
  ∃x0 fs fr,(∀{R:Type} (k:(t':Ty)→t'.den→Option R),a3m p t x k=k t0 x0)∧fp.Perm (fr++fs)∧Rep A P t0 Z h (seg cs o t0.size) x0 fs ∧
   ∃t1 x1 fp1,k t1 x1=some r∧t1.imm=t.imm∧fp1.Perm fr∧Rep A P t1 Z h cs x1 fp1∧TE t t1:=by
 obtain⟨x0,fs,fr,e1,e2,e3,e4,e5⟩:=a7f (x:=x) ho hr;unfold b6p at hk;rw[e1] at hk;simp only[hix] at hk;split at hk
 ·rename_i hden hw hd;have hl:=f4h (y:=cast hden x0) hw (cast_heq _ _).symm e3;obtain⟨t1,x1,fp1,q1,q2,q3,q4,_,q6⟩:=e5 Z h t0.left _ _ [] (f2v t0) hl (fun _ h=>h) (fun _ _=>rfl) hk;rw[a5b e4] at q4;refine⟨x0,fs,fr,fun k=>?_,e2,e3,t1,x1,fp1,q1,q2,by simpa using q3,q4,q6 (f8o t0)⟩;unfold a3m;rw[e1];simp only[hix]
 ·simp at hk
theorem f8x{t:Ty}{cs:List Value}{x:t.den}{fp:List Nat}{p:Pl}{k:(t':Ty)→t'.den→Option R}{r:R}
  {j:Int} {q:List Stp} {o1 n cap b:Nat} {tsl:Ty} {c:Array Value}
  (hr:Rep A P t Z h cs x fp) (hix:p.ix=some (j,q)) (ho:a1w p.p1 t=some (o1,tsl)) (hs:seg cs o1 1=[.slice (some ⟨b,0,none⟩) n cap]) (hb:Blk h b c)
  (hj0:0≤j) (hjn:j<n) (hk:b6p p t x k=some r) :
  ∃e te x0 fs fr,tsl=.sl .own e te∧q=[]∧(∀{R:Type} (k:(t':Ty)→t'.den→Option R),a3m p t x k=k te x0)∧fp.Perm (fr++fs)∧Rep A P te Z h (seg c.toList (j.toNat*te.size) te.size) x0 fs ∧
   ∃t1 x1 fp1,k t1 x1=some r∧t1.imm=t.imm∧fp1.Perm fr∧Rep A P t1 Z h cs x1 fp1∧TE t t1:=by
 obtain⟨xl,fs,fr,e1,e2,e3,e4,e5⟩:=a7f (x:=x) ho hr;unfold b6p at hk;rw[e1] at hk;simp only[hix] at hk;cases q with
 |cons=>simp at hk
 |nil =>
  simp only at hk;split at hk
  ·rename_i e te l;simp only[Ty.size] at e3 e4;rw[hs] at e3;obtain⟨a,n',cap',hsl,h2,h3,h4,h5,h6⟩:=e3;simp only[AG,AR,and_true] at hsl;obtain⟨rfl,rfl,rfl⟩:=hsl;rcases h6 with⟨h6,_⟩|⟨b',c',fps,g1,g2,g3,rfl,g5,g6⟩
   ·simp at h6
   ·simp only[Ad,B0,and_true] at g1;obtain rfl:=g1;obtain rfl:=hb.same g2.blk;have hjl:j.toNat<l.length:=by omega
    have hnew:Rep A P (.slh e te) Z h (seg cs o1 1) (j,l) (b::(fps.set j.toNat []).flatten):=by
     rw[hs];refine⟨b,n,cap,c,fps.set j.toNat [],rfl,h2,h3,h4,h5,g2,g3,rfl,by simpa using g5,hj0,by simpa using(by omega:j<(l.length:Int)),fun i hi=>?_⟩;split
     ·rename_i hij;subst hij;rw[a0h _ (by simp;omega),BE]
     ·rename_i hij;have:(fps.set j.toNat []).getD i []=fps.getD i []:=by simp[BC,C4 (BM hij)]
      rw[this];exact g6 i hi
    obtain⟨t1,x1,fp1,q1,q2,q3,q4,_,q6⟩:=e5 Z h (.slh e te) _ _ _ rfl hnew (fun _ h=>h) (fun _ _=>rfl) hk;rw[a5b (by simpa using e4)] at q4;refine⟨e,te,l[j.toNat],fps.getD j.toNat [],fr++(b::(fps.set j.toNat []).flatten),rfl,rfl,fun k=>?_,?_,g6 _ hjl,t1,x1,fp1,q1,q2,q3,q4,q6 ⟨rfl,rfl,rfl⟩⟩
    ·unfold a3m;rw[e1];simp only[hix,b2z];rw[a0h _ hjl]
    ·refine e2.trans ?_;rw[Ae];refine Ay fr (B7 b ?_);rw[a0h _ (by omega:j.toNat<fps.length)];exact a8v (by omega)
  ·simp at hk
end Go.Rb

namespace Go.Rb
variable {A:Amb} {P:Program} {Z Z':Nat→Prop} {h h':Array Obj} {R:Type}
def Own(A:Amb)(P:Program)(Z:Nat→Prop)(h:Array Obj):SV→Value→List Nat→Prop
 |.val t x,v,fp=>∃cs,VC t v cs∧Rep A P t Z h cs x fp
 |.box t x,v,fp=>∃b c fp',v=.pointer (some ⟨b,0,none⟩)∧Blk h b c∧fp=b::fp'∧Rep A P t Z h c.toList x fp'
 |.pv t x,v,fp=>fp=[]∧∃ad cs,v=.pointer (some ad)∧Z ad.block∧Row h ad t.size cs∧Rep A P t Z h cs x []
 |.nls,v,fp=>fp=[]∧v=.slice none 0 0
 |.nlp,v,fp=>fp=[]∧v=.pointer none
 |.fnc f,v,fp=>fp=[]∧v=.func (.func f) #[] #[]
 |.und,v,fp=>fp=[]∧v=undef
 |.kb b,v,fp=>fp=[]∧v=.bool b
 |.pts l,v,fp=>fp=[]∧∃b,v=.slice (some ⟨b,0,none⟩) l.length l.length∧Z b
 |.tup l,v,fp=>∃(vs:Array Value) (fps:List (List Nat)),v=.tuple vs∧vs.size=l.length∧fps.length=l.length∧fp=fps.flatten ∧
   ∀i (hi:i<l.length),(l[i].1=.unit∧fps.getD i []=[])∨∃cs,VC l[i].1 (vs.getD i undef) cs∧Rep A P l[i].1 Z h cs l[i].2 (fps.getD i [])
 |_,_,fp=>fp=[]
def SV.rootTy:SV→Option Ty
 |.val t _=>some t
 |.box t _=>some t
 |_=>Option.none
def b0q(h:Array Obj):SV→Value→List Value→Option Nat→Prop
 |.val t _,v,cs,base=>VC t v cs∧base=none
 |.box _ _,v,cs,base=>∃b c,v=.pointer (some ⟨b,0,none⟩)∧Blk h b c∧cs=c.toList∧base=some b
 |_,_,_,_=>False
def d1k(p:Pl)(t:Ty):Prop:=p.ix.isSome=true∧∃o tsl,a1w p.p1 t=some (o,tsl)∧a6p tsl=none
def At(e:En)(tm:Nat→Value)(h:Array Obj)(p:Pl)(X:Ty→List Value→Option Addr→Prop):Prop :=
 ∃t cs base,(e.get p.root).s.rootTy=some t∧b0q h (e.get p.root).s (tm p.root) cs base∧((∃t0 cs0 ad,Loc h p t cs base t0 cs0 ad∧X t0 cs0 ad)∨d1k p t)
def PtrX(v:Value):Ty→List Value→Option Addr→Prop:=fun _ _ ad=>∃a,ad=some a∧v=.pointer (some a)
def AliX(p:Pl)(v:Value):Ty→List Value→Option Addr→Prop:=fun t0 cs0 _=>VC t0 v cs0∧(p.ix.isSome=true→t0.pure=false)
def SubX(v:Value)(lo hi:Int):Ty→List Value→Option Addr→Prop:=fun t0 cs0 _ =>
 ∃e te a n cap,t0.imm=.sl .imm e te∧cs0=[.slice a n cap]∧0≤lo∧lo≤hi∧hi≤(n:Int)∧n≤cap ∧
  v=.slice (if cap=lo.toNat then a else a.map (·.add (lo.toNat*te.size))) (hi.toNat - lo.toNat) (cap - lo.toNat)
def f1v(e:En)(tm:Nat→Value)(h:Array Obj)(q:Pl×Nat×Nat)(v:Value):Prop :=
 q.2.1≤(e.get q.1.root).v∧q.2.2≤(e.get q.1.root).c∧((e.get q.1.root).v=q.2.1→(q.1.ix.isSome=true→(e.get q.1.root).c=q.2.2)→At e tm h q.1 (PtrX v))
def Ref(e:En)(tm:Nat→Value)(h:Array Obj)(s:SV)(v:Value):Prop :=
 match s with
 |.ptr p n c=>n≤(e.get p.root).v∧c≤(e.get p.root).c∧((e.get p.root).v=n→(p.ix.isSome=true→(e.get p.root).c=c)→At e tm h p (PtrX v))
 |.ali p n c=>n≤(e.get p.root).v∧c≤(e.get p.root).c∧((e.get p.root).v=n→(e.get p.root).c=c→At e tm h p (AliX p v))
 |.sub p n c lo hi=>n≤(e.get p.root).v∧c≤(e.get p.root).c∧((e.get p.root).v=n→(e.get p.root).c=c→p.ix=none∧At e tm h p (SubX v lo hi))
 |.pts l=>∃b c el fr,v=.slice (some ⟨b,0,none⟩) l.length l.length∧h[b]?=some (.cells c el fr)∧c.size=l.length∧∀i (hi:i<l.length),∃ad,c[i]?=some (.pointer (some ad))∧f1v e tm h l[i] (.pointer (some ad))
 |.pte s n j=>n≤(e.get s).v∧((e.get s).v=n→∃l b,(e.get s).s=.pts l∧j<l.length∧tm s=.slice (some ⟨b,0,none⟩) l.length l.length∧v=.pointer (some ⟨b,j,none⟩))
 |_=>True
structure Base where
 Z0:Nat→Prop
 w0:World
 fp0:Nat→Prop
 fix:Nat→Option Value
def _root_.Go.Act.tm(a:Act)(i:Nat):Value:=a.tmps.getD i undef
structure AmbOK (A:Amb) (Z:Nat→Prop) (h:Array Obj):Prop where
 at_:∀g T a,A.sent g=some (T,a)→Z a.block∧a.spot=none∧∃c t,h[a.block]?=some (.cells c t (0,0))
 inj:∀g g' T T' a,A.sent g=some (T,a)→A.sent g'=some (T',a)→g=g'
 raw_:∀x,x∈A.raw→Z x.1∧∃el fr,h[x.1]?=some (.cells #[x.2] el fr)
structure GlobOK (A:Amb) (P:Program) (C:Ctx) (Z:Nat→Prop) (h:Array Obj):Prop where
 var:∀g t x,C.gl g=some ⟨t,x⟩→∃cs,Z g∧Row h ⟨g,0,none⟩ t.size cs∧Rep A P t Z h cs x []
 amb:AmbOK A Z h
def a4f(C:Ctx)(B:Base)(d:Nat):Prop:=d<C.nt∧B.fix d=none
structure Rel (A:Amb) (P:Program) (C:Ctx) (B:Base) (e:En) (a:Act) (w:World) (Z:Nat→Prop) (F:Nat→List Nat) (X:List Nat):Prop where
 own:∀i,Own A P Z w.heap (e.get i).s (a.tm i) (F i)
 ref:∀i,Ref e a.tm w.heap (e.get i).s (a.tm i)
 nodup:∀i,(F i).Nodup
 disj:∀i j b,b∈F i→b∈F j→i=j
 notZ:∀i b,b∈F i→¬Z b
 fb:∀i b,b∈F i→b<w.heap.size
 fnew:∀i b,b∈F i→B.fp0 b∨B.w0.heap.size≤b
 xnodup:X.Nodup
 xdisj:∀i b,b∈F i→b∉X
 xnotZ:∀b,b∈X→¬Z b
 xb:∀b,b∈X→b<w.heap.size
 xnew:∀b,b∈X→B.fp0 b∨B.w0.heap.size≤b
 zb:∀b,Z b→b<w.heap.size
 z:∀b,B.Z0 b→Z b
 znew:∀b,Z b→B.Z0 b∨B.fp0 b∨B.w0.heap.size≤b
 hs:B.w0.heap.size≤w.heap.size
 keep:∀b,b<B.w0.heap.size→¬B.fp0 b→w.heap[b]?=B.w0.heap[b]?
 os:w.os=B.w0.os
 out:w.output=B.w0.output
 tape:w.tape=B.w0.tape
 defs:a.defers=[]
 nt:C.nt≤a.tmps.size
 glob:GlobOK A P C Z w.heap
 fix:∀i v,B.fix i=some v→a.tm i=v
theorem b4g{s:SV}{v:Value}{fp:List Nat}(ho:Own A P Z h s v fp)(hz:∀b,Z b→Z' b)(hh:∀b,Z b∨b∈fp→h'[b]?=h[b]?):Own A P Z' h' s v fp:=by
 cases s with
 |val t x=>obtain⟨cs,h1,h2⟩:=ho;exact⟨cs,h1,a0g h2 hz hh⟩
 |box t x =>
  obtain⟨b,c,fp',h1,h2,rfl,h4⟩:=ho;exact⟨b,c,fp',h1,h2.mono (hh b (.inr (by simp))),rfl,a0g h4 hz fun b' hb=>hh b' (hb.imp id (AE _))⟩
 |pv t x =>
  obtain⟨h1,ad,cs,h2,h3,h4,h5⟩:=ho;exact⟨h1,ad,cs,h2,hz _ h3,h4.mono (hh _ (.inl h3)),a0g h5 hz fun b hb=>hh b (hb.imp id (by simp))⟩
 |tup l =>
  obtain⟨vs,fps,h1,h2,h3,rfl,h5⟩:=ho;refine⟨vs,fps,h1,h2,h3,rfl,fun i hi=>(h5 i hi).imp id ?_⟩;rintro⟨cs,g1,g2⟩;exact⟨cs,g1,a0g g2 hz fun b hb=>hh b (hb.imp id a2p)⟩
 |pts l=>obtain⟨h1,b,h2,h3⟩:=ho;exact⟨h1,b,h2,hz _ h3⟩
 |_=>exact ho
theorem b2w{h0:Array Obj}{s:SV}{v:Value}{fp:List Nat}(ho:Own A P Z h0 s v fp)(hz:∀b,Z b→h'[b]?=h[b]?):∀l,s=.pts l→∀b n c,v=.slice (some ⟨b,0,none⟩) n c→h'[b]?=h[b]?:=by
 rintro l rfl b n c rfl;obtain⟨_,b',h1,h2⟩:=ho;cases h1;exact hz _ h2
theorem g0k{s:SV}{v:Value}{fp:List Nat}(ho:Own A P Z h s v fp):∀b,b∈fp→b<h.size:=by
 cases s with
 |val t x=>obtain⟨cs,h1,h2⟩:=ho;exact b2q h2
 |box t x =>
  obtain⟨b,c,fp',h1,h2,rfl,h4⟩:=ho;intro b' hb';rcases A3.1 hb' with rfl|hb'
  ·exact h2.lt
  ·exact b2q h4 b' hb'
 |tup l =>
  obtain⟨vs,fps,h1,h2,h3,rfl,h5⟩:=ho;intro b hb;obtain⟨x,hx,hb⟩:=B6.1 hb;obtain⟨i,hi,rfl⟩:=Bf hx;rcases h5 i (by omega) with⟨_,g0⟩|⟨cs,g1,g2⟩
  ·rw[a0h _ hi] at g0;rw[g0] at hb;simp at hb
  ·exact b2q g2 b (by rw[a0h _ hi];exact hb)
 |pv t x=>obtain⟨rfl,_⟩:=ho;simp
 |nls=>obtain⟨rfl,_⟩:=ho;simp
 |nlp=>obtain⟨rfl,_⟩:=ho;simp
 |fnc=>obtain⟨rfl,_⟩:=ho;simp
 |und=>obtain⟨rfl,_⟩:=ho;simp
 |kb=>obtain⟨rfl,_⟩:=ho;simp
 |none=>obtain rfl:=ho;simp
 |ptr=>obtain rfl:=ho;simp
 |ali=>obtain rfl:=ho;simp
 |sub=>obtain rfl:=ho;simp
 |pts=>obtain⟨rfl,_⟩:=ho;simp
 |pte=>obtain rfl:=ho;simp
theorem GlobOK.mono{C:Ctx}(hg:GlobOK A P C Z h)(hz:∀b,Z b→Z' b)(hh:∀b,Z b→h'[b]?=h[b]?):GlobOK A P C Z' h':=by
 refine⟨fun g t x hx=>?_,⟨fun g T a ha=>?_,hg.amb.inj,fun x hx=>?_⟩⟩
 ·obtain⟨cs,h1,h2,h3⟩:=hg.var g t x hx;exact⟨cs,hz _ h1,h2.mono (hh _ h1),a0g h3 hz fun b hb=>hh b (hb.elim id (by simp))⟩
 ·obtain⟨h1,h2,c,t,h3⟩:=hg.amb.at_ g T a ha;exact⟨hz _ h1,h2,c,t,(hh _ h1).trans h3⟩
 ·obtain⟨h1,el,fr,h2⟩:=hg.amb.raw_ x hx;exact⟨hz _ h1,el,fr,(hh _ h1).trans h2⟩
theorem a1p{a b:Nat}(hb:AB a b=true):a=b:=AF hb
theorem b2d{a b:Nat}(hb:AB a b=false):a≠b:=fun h=>by subst h;simp at hb
theorem b2v{j i:Nat}{x:Ent}{e:En}:En.get ((j,x)::e) i=if j=i then x else En.get e i:=by
 simp only[En.get];split
 ·rw[if_pos (a1p ‹_›)]
 ·rw[if_neg (b2d ‹_›)]
theorem c9d{e:En}{u:Up}:e.app [u]=(u.d,(e.get u.d).bump u.b u.s)::e:=rfl
theorem c6o{e:En}{u:Up}{us:List Up}:e.app (u::us)=En.app (e.app [u]) us:=rfl
theorem a2b:∀{us vs:List Up} {e:En},e.app (us++vs)=(e.app us).app vs
 |[],_,_=>rfl
 |_::us,_,_=>a2b (us:=us)
def Sub(r:Nat→Ent)(e:En):Prop:=∀i,(r i).s≠.none→r i=e.get i
theorem Sub.app:∀{us:List Up} {r:Nat→Ent} {e:En},Sub r e→(∀u,u∈us→r u.d=e.get u.d)→Sub (upd r us) (e.app us)
 |[],_,_,hr,_=>hr
 |u::us,r,e,hr,hu=>by
  have h1:r u.d=e.get u.d:=hu u (by simp);have h2:Sub (fun i=>match AB u.d i with|true=>(r u.d).bump u.b u.s|false=>r i) (e.app [u]):=by
   intro i hi;rw[c9d,b2v];cases hb:AB u.d i with
   |true=>simp only[hb] at hi ⊢;rw[if_pos (a1p hb),h1]
   |false=>simp only[hb] at hi ⊢;rw[if_neg (b2d hb)];exact hr i hi
  refine Sub.app (us:=us) (r:=fun i=>match AB u.d i with|true=>(r u.d).bump u.b u.s|false=>r i) (e:=e.app [u]) h2 fun u' hu'=>?_
  rw[c9d,b2v];cases hb:AB u.d u'.d with
  |true=>simp only[hb];rw[if_pos (a1p hb),h1]
  |false=>simp only[hb];rw[if_neg (b2d hb)];exact hu u' (by simp[hu'])
end Go.Rb

namespace Go.Rb
variable {A:Amb} {P:Program} {Z Z':Nat→Prop} {h h':Array Obj} {R:Type} {C:Ctx} {B:Base} {e:En} {a:Act} {w w':World} {F:Nat→List Nat} {X:List Nat}
theorem e1s{t:Ty}{x:t.den}{cs:List Value}{fp:List Nat}(hr:Rep A P t Z h cs x fp){p1:List Stp}{o1 e n cap b:Nat}{tsl te:Ty}
  (ho:a1w p1 t=some (o1,tsl)) (hel:a6p tsl=some (e,te)) (hs:seg cs o1 1=[.slice (some ⟨b,0,none⟩) n cap]):b∈fp:=by
 obtain⟨xl,fs,fr,e1,e2,e3,e4,e5⟩:=a7f (x:=x) ho hr;refine e2.mem_iff.2 (Al _ ?_);cases tsl with
 |sl m e' t' =>
  cases m with
  |own =>
   simp only[Ty.size] at e3;rw[hs] at e3;obtain⟨a,n',cap',hsl,_,_,_,_,h6⟩:=e3;simp only[AG,AR,and_true] at hsl;obtain⟨rfl,_,_⟩:=hsl;rcases h6 with⟨h6,_⟩|⟨b',c',fps,g1,_,_,rfl,_,_⟩
   ·simp at h6
   ·simp only[Ad,B0,and_true] at g1;subst g1;simp
  |_=>simp[a6p] at hel
 |slh e' t' =>
  simp only[Ty.size] at e3;rw[hs] at e3;obtain⟨b',n',cap',c',fps,hsl,_,_,_,_,_,_,rfl,_⟩:=e3;simp only[AG,AR,Ad,B0,and_true] at hsl;obtain⟨rfl,_,_⟩:=hsl;simp
 |_=>simp[a6p] at hel
theorem f5u{t:Ty}{x:t.den}{cs:List Value}{fp:List Nat}(hr:Rep A P t Z h cs x fp){p:Pl}{base:Option Nat}{t0:Ty}{cs0:List Value}{ad:Option Addr}
  (hl:Loc h p t cs base t0 cs0 ad) (hh:∀b,b∈fp→h'[b]?=h[b]?):Loc h' p t cs base t0 cs0 ad:=by
 unfold Loc at *;split
 ·rename_i hix;simp only[hix] at hl;exact hl
 ·rename_i j q hix;simp only[hix] at hl;obtain⟨o1,tsl,e,te,n,cap,b,c,o2,h1,h2,h3,h4,rest⟩:=hl;exact⟨o1,tsl,e,te,n,cap,b,c,o2,h1,h2,h3,h4.mono (hh b (e1s hr h1 h2 h3)),rest⟩
theorem f2b{s:SV}{v:Value}{fp:List Nat}(ho:Own A P Z h s v fp){t:Ty}(ht:s.rootTy=some t) :
  ∃x cs base fp',b0q h s v cs base∧Rep A P t Z h cs x fp'∧((s=.val t x∧base=none∧fp=fp')∨∃b,s=.box t x∧base=some b∧fp=b::fp'):=by
 cases s with
 |val t' x =>
  obtain rfl:t'=t:=by simpa[SV.rootTy] using ht
  obtain⟨cs,h1,h2⟩:=ho;exact⟨x,cs,none,fp,⟨h1,rfl⟩,h2,.inl ⟨rfl,rfl,rfl⟩⟩
 |box t' x =>
  obtain rfl:t'=t:=by simpa[SV.rootTy] using ht
  obtain⟨b,c,fp',h1,h2,h3,h4⟩:=ho;exact⟨x,c.toList,some b,fp',⟨b,c,h1,h2,rfl,rfl⟩,h4,.inr ⟨b,rfl,rfl,h3⟩⟩
 |_=>simp[SV.rootTy] at ht
theorem f1i{t:Ty}{v:Value}{cs cs':List Value}(h1:VC t v cs)(h2:VC t v cs'):cs=cs':=by
 unfold VC at *;split at h1
 ·rw[if_pos ‹_›] at h2;rw[h1] at h2;simpa using h2
 ·rw[if_neg ‹_›] at h2;rw[h1.1,h2.1]
theorem b8o{s:SV}{v:Value}{cs cs':List Value}{base base':Option Nat}(h1:b0q h s v cs base)(h2:b0q h s v cs' base'):cs=cs'∧base=base':=by
 cases s with
 |val t x=>exact⟨f1i h1.1 h2.1,h1.2.trans h2.2.symm⟩
 |box t x =>
  obtain⟨b,c,rfl,g1,rfl,rfl⟩:=h1;obtain⟨b',c',g2,g3,rfl,rfl⟩:=h2;simp only[C9,Ad,B0,and_true] at g2;subst g2;exact⟨by rw[g1.same g3],rfl⟩
 |_=>exact h1.elim
theorem e7i{s:SV}{v:Value}{fp:List Nat}(ho:Own A P Z h s v fp){cs:List Value}{base:Option Nat}(hr:b0q h s v cs base)(hh:∀b,b∈fp→h'[b]?=h[b]?):b0q h' s v cs base:=by
 cases s with
 |val t x=>exact hr
 |box t x =>
  obtain⟨b,c,rfl,g1,rfl,rfl⟩:=hr;obtain⟨b',c',fp',g2,g3,rfl,_⟩:=ho;simp only[C9,Ad,B0,and_true] at g2;subst g2;exact⟨b,c,rfl,g1.mono (hh b (by simp)),rfl,rfl⟩
 |_=>exact hr.elim
theorem b2i{tm tm':Nat→Value}{e':En}{p:Pl}{Y:Ty→List Value→Option Addr→Prop}{fp:List Nat}(ho:Own A P Z h (e.get p.root).s (tm p.root) fp)
  (he:(e'.get p.root).s=(e.get p.root).s) (ht:tm' p.root=tm p.root) (hh:∀b,b∈fp→h'[b]?=h[b]?) (ha:At e tm h p Y):At e' tm' h' p Y:=by
 obtain⟨t,cs,base,h1,h2,h3⟩:=ha;refine⟨t,cs,base,by rw[he];exact h1,by rw[he,ht];exact e7i ho h2 hh,?_⟩;refine h3.imp (fun⟨t0,cs0,ad,h4,h5⟩=>⟨t0,cs0,ad,?_,h5⟩) id;obtain⟨x,cs',base',fp',g1,g2,g3⟩:=f2b ho h1;obtain⟨rfl,rfl⟩:=b8o h2 g1;refine f5u g2 h4 fun b hb=>hh b ?_
 rcases g3 with⟨_,_,rfl⟩|⟨b',_,_,rfl⟩
 ·exact hb
 ·exact AE _ hb
theorem a9o{tm tm':Nat→Value}{e':En}{F:Nat→List Nat}{s:SV}{v:Value}(ho:∀i,Own A P Z h (e.get i).s (tm i) (F i))(hr:Ref e tm h s v)
  (hpk:∀l,s=.pts l→∀b n c,v=.slice (some ⟨b,0,none⟩) n c→h'[b]?=h[b]?)
  (hroot:∀r,((e'.get r=e.get r)∧tm' r=tm r∧∀b,b∈F r→h'[b]?=h[b]?)∨((e.get r).v<(e'.get r).v∧(e.get r).c≤(e'.get r).c)):Ref e' tm' h' s v:=by
 cases s with
 |ptr p n c =>
  obtain⟨h1,h2,h3⟩:=hr;rcases hroot p.root with⟨g1,g2,g3⟩|⟨g1,g2⟩
  ·exact⟨by rw[g1];exact h1,by rw[g1];exact h2,fun k1 k2=>b2i (ho _) (by rw[g1]) g2 g3 (h3 (by rw[←g1];exact k1) fun hx=>by rw[←g1];exact k2 hx)⟩
  ·exact⟨by omega,by omega,fun k1=>by omega⟩
 |ali p n c =>
  obtain⟨h1,h2,h3⟩:=hr;rcases hroot p.root with⟨g1,g2,g3⟩|⟨g1,g2⟩
  ·exact⟨by rw[g1];exact h1,by rw[g1];exact h2,fun k1 k2=>b2i (ho _) (by rw[g1]) g2 g3 (h3 (by rw[←g1];exact k1) (by rw[←g1];exact k2))⟩
  ·exact⟨by omega,by omega,fun k1=>by omega⟩
 |sub p n c lo hi =>
  obtain⟨h1,h2,h3⟩:=hr;rcases hroot p.root with⟨g1,g2,g3⟩|⟨g1,g2⟩
  ·refine⟨by rw[g1];exact h1,by rw[g1];exact h2,fun k1 k2=>?_⟩;obtain⟨q1,q2⟩:=h3 (by rw[←g1];exact k1) (by rw[←g1];exact k2);exact⟨q1,b2i (ho _) (by rw[g1]) g2 g3 q2⟩
  ·exact⟨by omega,by omega,fun k1=>by omega⟩
 |pts l =>
  obtain⟨b,c,el,fr,h1,h2,h3,h4⟩:=hr;refine⟨b,c,el,fr,h1,(hpk l rfl b _ _ h1).trans h2,h3,fun i hi=>?_⟩;obtain⟨u,g1,g2,g3,g4⟩:=h4 i hi;refine⟨u,g1,?_⟩;rcases hroot l[i].1.root with⟨q1,q2,q3⟩|⟨q1,q2⟩
  ·exact⟨by rw[q1];exact g2,by rw[q1];exact g3,fun k1 k2=>b2i (ho _) (by rw[q1]) q2 q3 (g4 (by rw[←q1];exact k1) fun hx=>by rw[←q1];exact k2 hx)⟩
  ·exact⟨by omega,by omega,fun k1=>by omega⟩
 |pte r0 n j =>
  obtain⟨h1,h2⟩:=hr;rcases hroot r0 with⟨q1,q2,_⟩|⟨q1,q2⟩
  ·exact⟨by rw[q1];exact h1,fun k1=>by rw[q1,q2];exact h2 (by rw[←q1];exact k1)⟩
  ·exact⟨by omega,fun k1=>by omega⟩
 |_=>trivial
def setF(F:Nat→List Nat)(d:Nat)(f:List Nat):Nat→List Nat:=fun i=>if i=d then f else F i
theorem c5n{d:Nat}{v:Value}(hd:d<a.tmps.size)(i:Nat):(a.put (some d) v).tm i=if i=d then v else a.tm i:=by
 simp only[Act.put,Act.tm];by_cases hi:i=d
 ·subst hi;simp[hd]
 ·simp[hi,Array.getElem?_setIfInBounds_ne (BM hi),Array.getD_eq_getD_getElem?]
theorem a0j{d i:Nat}{b:Bump}{s:SV}:(e.app [⟨d,b,s⟩]).get i=if d=i then(e.get d).bump b s else e.get i:=by
 rw[c9d,b2v]
theorem Rel.dst(hrel:Rel A P C B e a w Z F X){d:Nat}(hd:a4f C B d){s:SV}{v:Value}{fp Y X':List Nat}(hX:X.Perm (X'++Y))
  (hsz:w.heap.size≤w'.heap.size) (hos:w'.os=w.os) (hout:w'.output=w.output) (htape:w'.tape=w.tape)
  (hh:∀b,b<w.heap.size→b∉Y→w'.heap[b]?=w.heap[b]?) (hz:∀b,Z b→Z' b) (hz':∀b,Z' b→Z b∨b∈Y∨w.heap.size≤b) (hzb:∀b,Z' b→b<w'.heap.size)
  (own:Own A P Z' w'.heap s v fp) (hnd:fp.Nodup) (hfp:∀b,b∈fp→b∈Y∨w.heap.size≤b) (hfz:∀b,b∈fp→¬Z' b)
  (href:Ref (e.app [⟨d,.slot,s⟩]) (a.put (some d) v).tm w'.heap s v) :
  Rel A P C B (e.app [⟨d,.slot,s⟩]) (a.put (some d) v) w' Z' (setF F d fp) X':=by
 have hdn:d<a.tmps.size:=AU hd.1 hrel.nt;have hXm:∀b,b∈X↔b∈X'∨b∈Y:=fun b=>by rw[hX.mem_iff,Aq]
 have hXn:(X'++Y).Nodup:=hX.nodup_iff.1 hrel.xnodup;have hFY:∀i b,b∈F i→b∉Y:=fun i b hb hy=>hrel.xdisj i b hb ((hXm b).2 (.inr hy))
 have hFh:∀i b,b∈F i→w'.heap[b]?=w.heap[b]?:=fun i b hb=>hh b (hrel.fb i b hb) (hFY i b hb)
 have hZh:∀b,Z b→w'.heap[b]?=w.heap[b]?:=fun b hb=>hh b (hrel.zb b hb) fun hy=>hrel.xnotZ b ((hXm b).2 (.inr hy)) hb
 refine {
      own:=fun i=>?_,ref:=fun i=>?_,nodup:=fun i=>?_,disj:=fun i j b hi hj=>?_,notZ:=fun i b hb=>?_,fb:=fun i b hb=>?_,fnew:=fun i b hb=>?_,
      xnodup:=(Ak.1 hXn).1,xdisj:=fun i b hb=>?_,xnotZ:=fun b hb hzz=>?_,xb:=fun b hb=>?_,xnew:=fun b hb=>?_,zb:=hzb,z:=fun b hb=>hz b (hrel.z b hb),
      znew:=fun b hb=>?_,hs:=AM hrel.hs hsz,keep:=fun b hb hn=>?_,os:=hos.trans hrel.os,out:=hout.trans hrel.out,tape:=htape.trans hrel.tape,
      defs:=hrel.defs,nt:=?_,glob:=hrel.glob.mono hz hZh,fix:=fun i v hv=>?_ }
 ·rw[a0j,c5n hdn];unfold setF;by_cases hi:i=d
  ·subst hi;simp only[if_true];exact own
  ·rw[if_neg (BM hi),if_neg hi,if_neg hi];exact b4g (hrel.own i) hz fun b hb=>hb.elim (hZh b) (hFh i b)
 ·rw[a0j,c5n hdn];by_cases hi:i=d
  ·subst hi;simp only[if_true];exact href
  ·rw[if_neg (BM hi),if_neg hi];refine a9o (F:=F) hrel.own (hrel.ref i) (b2w (hrel.own i) hZh) fun r=>?_
   rw[a0j,c5n hdn];by_cases hr:r=d
   ·subst hr;right;simp[Ent.bump]
   ·left;rw[if_neg (BM hr),if_neg hr];exact⟨rfl,rfl,hFh r⟩
 ·unfold setF;split
  ·exact hnd
  ·exact hrel.nodup i
 ·unfold setF at hi hj;split at hi <;> split at hj
  ·omega
  ·exfalso;rcases hfp b hi with hb|hb
   ·exact hFY j b hj hb
   ·have:=hrel.fb j b hj;omega
  ·exfalso;rcases hfp b hj with hb|hb
   ·exact hFY i b hi hb
   ·have:=hrel.fb i b hi;omega
  ·exact hrel.disj i j b hi hj
 ·unfold setF at hb;split at hb
  ·exact hfz b hb
  ·intro hzz;rcases hz' b hzz with h1|h1|h1
   ·exact hrel.notZ i b hb h1
   ·exact hFY i b hb h1
   ·have:=hrel.fb i b hb;omega
 ·unfold setF at hb;split at hb
  ·exact g0k own b hb
  ·exact AU (hrel.fb i b hb) hsz
 ·unfold setF at hb;split at hb
  ·rcases hfp b hb with h1|h1
   ·exact hrel.xnew b ((hXm b).2 (.inr h1))
   ·exact .inr (AM hrel.hs h1)
  ·exact hrel.fnew i b hb
 ·unfold setF at hb;split at hb
  ·intro hx;rcases hfp b hb with h1|h1
   ·exact(Ak.1 hXn).2.2 b hx b h1 rfl
   ·have:=hrel.xb b ((hXm b).2 (.inl hx));omega
  ·intro hx;exact hrel.xdisj i b hb ((hXm b).2 (.inl hx))
 ·rcases hz' b hzz with h1|h1|h1
  ·exact hrel.xnotZ b ((hXm b).2 (.inl hb)) h1
  ·exact(Ak.1 hXn).2.2 b hb b h1 rfl
  ·have:=hrel.xb b ((hXm b).2 (.inl hb));omega
 ·exact AU (hrel.xb b ((hXm b).2 (.inl hb))) hsz
 ·exact hrel.xnew b ((hXm b).2 (.inl hb))
 ·rcases hz' b hb with h1|h1|h1
  ·exact hrel.znew b h1
  ·rcases hrel.xnew b ((hXm b).2 (.inr h1)) with h2|h2
   ·exact .inr (.inl h2)
   ·exact .inr (.inr h2)
  ·exact .inr (.inr (AM hrel.hs h1))
 ·rw[hh b (AU hb hrel.hs) fun hy=>?_,hrel.keep b hb hn];rcases hrel.xnew b ((hXm b).2 (.inr hy)) with h2|h2
  ·exact hn h2
  ·omega
 ·simp only[Act.put,Array.size_setIfInBounds];exact hrel.nt
 ·rw[c5n hdn,if_neg (fun h=>by subst h;rw[hd.2] at hv;simp at hv)];exact hrel.fix i v hv
theorem Rel.root(hrel:Rel A P C B e a w Z F X){r:Nat}{bp:Bump}{s1:SV}{f1 X':List Nat}
  (hsz:w'.heap.size=w.heap.size) (hos:w'.os=w.os) (hout:w'.output=w.output) (htape:w'.tape=w.tape)
  (hh:∀b,b<w.heap.size→b∉F r→w'.heap[b]?=w.heap[b]?) (hz:∀b,Z b→Z' b) (hz':∀b,Z' b→Z b∨b∈F r∨b∈X)
  (own:Own A P Z' w'.heap s1 (a.tm r) f1) (hnd:(f1++X').Nodup) (hsub:∀b,b∈f1++X'→b∈F r∨b∈X) (hfz:∀b,b∈f1++X'→¬Z' b)
  (hself:Ref (e.app [⟨r,bp,s1⟩]) a.tm w'.heap s1 (a.tm r))
  (hrefs:∀i,i≠r→Ref (e.app [⟨r,bp,s1⟩]) a.tm w'.heap (e.get i).s (a.tm i)) :
  Rel A P C B (e.app [⟨r,bp,s1⟩]) a w' Z' (setF F r f1) X':=by
 have hZh:∀b,Z b→w'.heap[b]?=w.heap[b]?:=fun b hb=>hh b (hrel.zb b hb) fun hy=>hrel.notZ r b hy hb
 have hFh:∀i b,i≠r→b∈F i→w'.heap[b]?=w.heap[b]?:=fun i b hi hb=>hh b (hrel.fb i b hb) fun hy=>hi (hrel.disj i r b hb hy)
 have hb1:∀b,b∈f1++X'→b<w.heap.size:=fun b hb=>(hsub b hb).elim (hrel.fb r b) (hrel.xb b)
 have hn1:∀b,b∈f1++X'→B.fp0 b∨B.w0.heap.size≤b:=fun b hb=>(hsub b hb).elim (hrel.fnew r b) (hrel.xnew b)
 have hd1:∀i b,i≠r→b∈F i→b∉f1++X':=fun i b hi hb hx=>(hsub b hx).elim (fun h=>hi (hrel.disj i r b hb h)) (hrel.xdisj i b hb)
 refine {
      own:=fun i=>?_,ref:=fun i=>?_,nodup:=fun i=>?_,disj:=fun i j b hi hj=>?_,notZ:=fun i b hb=>?_,fb:=fun i b hb=>?_,fnew:=fun i b hb=>?_,
      xnodup:=(Ak.1 hnd).2.1,xdisj:=fun i b hb=>?_,xnotZ:=fun b hb=>hfz b (Al _ hb),xb:=fun b hb=>by rw[hsz];exact hb1 b (Al _ hb),
      xnew:=fun b hb=>hn1 b (Al _ hb),zb:=fun b hb=>?_,z:=fun b hb=>hz b (hrel.z b hb),
      znew:=fun b hb=>?_,hs:=by rw[hsz];exact hrel.hs,keep:=fun b hb hn=>?_,os:=hos.trans hrel.os,out:=hout.trans hrel.out,tape:=htape.trans hrel.tape,
      defs:=hrel.defs,nt:=hrel.nt,glob:=hrel.glob.mono hz hZh,fix:=hrel.fix }
 ·rw[a0j];unfold setF;by_cases hi:i=r
  ·subst hi;simp only[if_true];cases bp <;> exact own
  ·rw[if_neg (BM hi),if_neg hi];exact b4g (hrel.own i) hz fun b hb=>hb.elim (hZh b) (hFh i b hi)
 ·rw[a0j];by_cases hi:i=r
  ·subst hi;simp only[if_true];cases bp <;> exact hself
  ·rw[if_neg (BM hi)];exact hrefs i hi
 ·unfold setF;split
  ·exact(Ak.1 hnd).1
  ·exact hrel.nodup i
 ·unfold setF at hi hj;split at hi <;> split at hj
  ·omega
  ·exact absurd (Am _ hi) (hd1 j b ‹_› hj)
  ·exact absurd (Am _ hj) (hd1 i b ‹_› hi)
  ·exact hrel.disj i j b hi hj
 ·unfold setF at hb;split at hb
  ·exact hfz b (Am _ hb)
  ·intro hzz;rcases hz' b hzz with h1|h1|h1
   ·exact hrel.notZ i b hb h1
   ·exact ‹¬i=r› (hrel.disj i r b hb h1)
   ·exact hrel.xdisj i b hb h1
 ·unfold setF at hb;rw[hsz];split at hb
  ·exact hb1 b (Am _ hb)
  ·exact hrel.fb i b hb
 ·unfold setF at hb;split at hb
  ·exact hn1 b (Am _ hb)
  ·exact hrel.fnew i b hb
 ·unfold setF at hb;split at hb
  ·intro hx;exact(Ak.1 hnd).2.2 b hb b hx rfl
  ·intro hx;exact hd1 i b ‹_› hb (Al _ hx)
 ·rw[hsz];rcases hz' b hb with h1|h1|h1
  ·exact hrel.zb b h1
  ·exact hrel.fb r b h1
  ·exact hrel.xb b h1
 ·rcases hz' b hb with h1|h1|h1
  ·exact hrel.znew b h1
  ·rcases hrel.fnew r b h1 with h2|h2
   ·exact .inr (.inl h2)
   ·exact .inr (.inr h2)
  ·rcases hrel.xnew b h1 with h2|h2
   ·exact .inr (.inl h2)
   ·exact .inr (.inr h2)
 ·rw[hh b (AU hb hrel.hs) fun hy=>?_,hrel.keep b hb hn];rcases hrel.fnew r b hy with h2|h2
  ·exact hn h2
  ·omega
theorem e2v:∀{t t1:Ty},TE t t1→t1.imm=t.imm:=by
 intro t
 induction t with
 |sl m e t ih =>
  intro t1 hte;cases t1 <;> simp[TE] at hte
  ·obtain⟨rfl,h2,_⟩:=hte;simp[Ty.imm,h2]
  ·obtain⟨rfl,rfl,rfl⟩:=hte;rfl
 |st t ih=>intro t1 hte;cases t1 <;> simp[TE] at hte;simp[Ty.imm,ih hte]
 |pair a b iha ihb=>intro t1 hte;cases t1 <;> simp[TE] at hte;simp[Ty.imm,iha hte.1,ihb hte.2]
 |arr n t ih=>intro t1 hte;cases t1 <;> simp[TE] at hte;simp[Ty.imm,ih hte.2,hte.1]
 |_=>intro t1 hte;cases t1 <;> simp[TE] at hte <;> simp_all
theorem e7c:∀{t t1:Ty} {i o:Nat} {t0:Ty},TE t t1→a1h t i=some (o,t0)→∃t0',a1h t1 i=some (o,t0')∧TE t0 t0':=by
 intro t
 induction t with
 |pair a b iha ihb =>
  intro t1 i o t0 hi hk;cases t1 <;> simp[TE] at hi;rename_i a' b';cases i with
  |zero =>
   simp only[a1h,Ad,Aj] at hk ⊢;obtain⟨rfl,rfl⟩:=hk;exact⟨a',⟨rfl,rfl⟩,hi.1⟩
  |succ i =>
   simp only[a1h] at hk ⊢;split at hk <;> simp only[Ad,Aj,reduceCtorEq] at hk;rename_i e2;obtain⟨rfl,rfl⟩:=hk;obtain⟨t0',e,he⟩:=ihb hi.2 e2;refine⟨t0',?_,he⟩;rw[e];simp only[Ad,Aj,and_true];rw[←a1e a',e2v hi.1,a1e]
 |_=>intro t' i o t0 hi hk;simp[a1h] at hk
theorem c2b:∀{p:List Stp} {t t':Ty} {o:Nat} {t0:Ty},TE t t'→a1w p t=some (o,t0)→∃t0',a1w p t'=some (o,t0')∧TE t0 t0'
 |[],t,t',o,t0,hi,hk=>by
  simp only[a1w,Ad,Aj] at hk ⊢;obtain⟨rfl,rfl⟩:=hk;exact⟨t',⟨rfl,rfl⟩,hi⟩
 |.f i::p,t,t',o,t0,hi,hk=>by
  cases t with
  |st t =>
   cases t' <;> simp[TE] at hi;simp only[a1w] at hk ⊢;split at hk
   ·rename_i o1 t1 e1;obtain⟨t1',e1',h1⟩:=e7c hi e1;split at hk
    ·rename_i o2 t2 e2;obtain⟨t2',e2',h2⟩:=c2b h1 e2;simp only[Ad,Aj] at hk;obtain⟨rfl,rfl⟩:=hk;exact⟨t2',by rw[e1'];simp[e2'],h2⟩
    ·simp at hk
   ·simp at hk
  |_=>simp[a1w] at hk
 |.a j::p,t,t',o,t0,hi,hk=>by
  cases t with
  |arr n t =>
   cases t' <;> simp[TE] at hi;rename_i n' t';obtain⟨rfl,hi⟩:=hi;simp only[a1w] at hk ⊢;split at hk
   ·split at hk
    ·rename_i o2 t2 e2;obtain⟨t2',e2',h2⟩:=c2b hi e2;simp only[Ad,Aj] at hk;obtain⟨rfl,rfl⟩:=hk;refine⟨t2',?_,h2⟩;rw[if_pos ‹_›,e2',←a1e t',e2v hi,a1e]
    ·simp at hk
   ·simp at hk
  |_=>simp[a1w] at hk
theorem e3k{t t1:Ty}(ht:TE t t1):(a6p t=none→a6p t1=none)∧∀e te,a6p t=some (e,te)→a6p t1=none∨a6p t1=some (e,te):=by
 cases t with
 |sl m e t =>
  cases t1 with
  |sl m' e' t' =>
   obtain⟨rfl,_,ht⟩:=ht;rcases ht with⟨rfl,ht⟩|⟨rfl,hm⟩
   ·cases m with
    |own=>obtain rfl:=ht rfl;exact⟨id,fun _ _=>.inr⟩
    |_=>exact⟨fun _=>rfl,fun _ _ h=>by simp[a6p] at h⟩
   ·refine⟨fun h=>by simp[a6p] at h,fun e te _=>.inl ?_⟩;cases m' with
    |own=>exact absurd rfl hm
    |_=>rfl
  |slh e' t' =>
   obtain⟨rfl,rfl,rfl⟩:=ht;exact⟨fun h=>by simp[a6p] at h,fun e te h=>.inr h⟩
  |_=>simp[TE] at ht
 |slh e t =>
  cases t1 <;> simp[TE] at ht;obtain⟨rfl,rfl⟩:=ht;exact⟨id,fun _ _=>.inr⟩
 |st=>cases t1 <;> simp[TE] at ht;exact⟨fun _=>rfl,fun _ _ h=>by simp[a6p] at h⟩
 |pair=>cases t1 <;> simp[TE] at ht;exact⟨fun _=>rfl,fun _ _ h=>by simp[a6p] at h⟩
 |arr=>cases t1 <;> simp[TE] at ht;exact⟨fun _=>rfl,fun _ _ h=>by simp[a6p] at h⟩
 |_=>cases t1 <;> simp[TE] at ht <;> exact⟨fun _=>rfl,fun _ _ h=>by simp[a6p] at h⟩
theorem g0x{t t1:Ty}(ht:TE t t1){p:Pl}{cs:List Value}{base:Option Nat}{t0:Ty}{cs0:List Value}{ad:Option Addr}(hl:Loc h p t cs base t0 cs0 ad) :
  (∃t0',Loc h p t1 cs base t0' cs0 ad∧t0'.imm=t0.imm∧(p.ix.isSome=true→t0'=t0))∨d1k p t1:=by
 unfold Loc at hl;split at hl
 ·rename_i hix;obtain⟨o,h1,h2,h3⟩:=hl;obtain⟨t0',g1,g2⟩:=c2b ht h1;have hi:=e2v g2;refine .inl ⟨t0',?_,hi,fun hx=>by simp[hix] at hx⟩;unfold Loc;simp only[hix];exact⟨o,g1,by rw[h2,←a1e t0',hi,a1e],h3⟩
 ·rename_i j q hix;obtain⟨o1,tsl,e,te,n,cap,b,c,o2,h1,h2,rest⟩:=hl;obtain⟨tsl',g1,g2⟩:=c2b ht h1;rcases(e3k g2).2 e te h2 with g3|g3
  ·exact .inr ⟨by simp[hix],o1,tsl',g1,g3⟩
  ·refine .inl ⟨t0,?_,rfl,fun _=>rfl⟩;unfold Loc;simp only[hix];exact⟨o1,tsl',e,te,n,cap,b,c,o2,g1,g3,rest⟩
theorem f1j{t t1:Ty}(ht:TE t t1){p:Pl}(hn:d1k p t):d1k p t1:=by
 obtain⟨h1,o,tsl,h2,h3⟩:=hn;obtain⟨tsl',g1,g2⟩:=c2b ht h2;exact⟨h1,o,tsl',g1,(e3k g2).1 h3⟩
theorem g0i{t:Ty}{cs:List Value}{x:t.den}{fp:List Nat}{p:Pl}{base:Option Nat}{t0:Ty}{cs0:List Value}{ad:Option Addr}{k:(t':Ty)→t'.den→Option R}{r:R}
  (hr:Rep A P t Z h cs x fp) (hl:Loc h p t cs base t0 cs0 ad) (hk:a3m p t x k=some r) :
  ∃x0 fs fr,(∀{R:Type} (k:(t':Ty)→t'.den→Option R),a3m p t x k=k t0 x0)∧fp.Perm (fr++fs)∧Rep A P t0 Z h cs0 x0 fs:=by
 unfold Loc at hl;split at hl
 ·rename_i hix;obtain⟨o,h1,h2,h3⟩:=hl;obtain⟨x0,fs,fr,e1,e2,e3,_,_⟩:=a7f (x:=x) h1 hr;refine⟨x0,fs,fr,fun k=>?_,e2,h2 ▸ e3⟩;unfold a3m;rw[e1];simp only[hix]
 ·rename_i j q hix;obtain⟨o1,tsl,e,te,n,cap,b,c,o2,h1,h2,hs,hb,hj0,hjn,hnc,hcs,ho2,hle,hc0,had⟩:=hl;obtain⟨xl,fs,fr,e1,e2,e3,e4,e5⟩:=a7f (x:=x) h1 hr;unfold a3m at hk;rw[e1] at hk;simp only[hix] at hk;split at hk
  ·rename_i e' te' l;simp only[a6p,Ad,Aj] at h2;obtain⟨rfl,rfl⟩:=h2;simp only[Ty.size] at e3 e4;rw[hs] at e3;obtain⟨a,n',cap',hsl,h2,h3,h4,h5,h6⟩:=e3;simp only[AG,AR,and_true] at hsl;obtain⟨rfl,rfl,rfl⟩:=hsl;rcases h6 with⟨h6,_⟩|⟨b',c',fps,g1,g2,g3,rfl,g5,g6⟩
   ·simp at h6
   ·simp only[Ad,B0,and_true] at g1;obtain rfl:=g1;obtain rfl:=hb.same g2.blk;have hjl:j.toNat<l.length:=by omega
    obtain⟨x0,fs',fr',k1,k2,k3,k4,k5⟩:=a7f (x:=l[j.toNat]) ho2 (g6 _ hjl);rw[a0h _ (by omega:j.toNat<fps.length)] at k2;refine⟨x0,fs',fr++(b::((fps.set j.toNat []).flatten++fr')),fun k=>?_,?_,?_⟩
    ·unfold a3m;rw[e1];simp only[hix];rw[a0h _ hjl];exact k1 k
    ·refine e2.trans ?_;rw[Ae];refine Ay fr (B7 b ?_);refine(a8v (by omega:j.toNat<fps.length)).trans ?_;exact(Ay _ k2).trans (by simp)
    ·rw[hc0,←a9u hle];exact k3
  ·simp at hk
theorem e4y{t:Ty}{cs:List Value}{x:t.den}{fp:List Nat}{p:Pl}{k:(t':Ty)→t'.den→Option R}{r:R}
  (hr:Rep A P t Z h cs x fp) (hn:d1k p t) (hk:a3m p t x k=some r):False:=by
 obtain⟨h1,o,tsl,h2,h3⟩:=hn;obtain⟨xl,fs,fr,e1,_⟩:=a7f (x:=x) h2 hr;unfold a3m at hk;rw[e1] at hk;split at hk
 ·rename_i hix;simp[hix] at h1
 ·split at hk
  ·simp[a6p] at h3
  ·simp at hk
inductive RootIs:SV→(t:Ty)→t.den→Prop where
 |val (t:Ty) (x:t.den):RootIs (.val t x) t x
 |box (t:Ty) (x:t.den):RootIs (.box t x) t x
def SV.with:SV→(t:Ty)→t.den→SV
 |.box _ _,t,x=>.box t x
 |_,t,x=>.val t x
theorem d1o{s:SV}{t:Ty}{x:t.den}(hs:RootIs s t x){v:Value}{fp:List Nat}(ho:Own A P Z h s v fp) :
  ∃cs base fp',s.rootTy=some t∧b0q h s v cs base∧Rep A P t Z h cs x fp'∧((base=none∧fp=fp')∨∃b,base=some b∧fp=b::fp'):=by
 cases hs with
 |val=>obtain⟨cs,h1,h2⟩:=ho;exact⟨cs,none,fp,rfl,⟨h1,rfl⟩,h2,.inl ⟨rfl,rfl⟩⟩
 |box=>obtain⟨b,c,fp',h1,h2,h3,h4⟩:=ho;exact⟨c.toList,some b,fp',rfl,⟨b,c,h1,h2,rfl,rfl⟩,h4,.inr ⟨b,rfl,h3⟩⟩
theorem b7n{p:Pl}{Y:Ty→List Value→Option Addr→Prop}{t:Ty}{x:t.den}{k:(t':Ty)→t'.den→Option R}{r:R}{tm:Nat→Value}{fp:List Nat}
  (ho:Own A P Z h (e.get p.root).s (tm p.root) fp) (hs:RootIs (e.get p.root).s t x) (ha:At e tm h p Y) (hk:a3m p t x k=some r) :
  ∃cs base fp' t0 cs0 ad x0 fs fr,b0q h (e.get p.root).s (tm p.root) cs base∧Rep A P t Z h cs x fp'∧((base=none∧fp=fp')∨∃b,base=some b∧fp=b::fp') ∧
   Loc h p t cs base t0 cs0 ad∧Y t0 cs0 ad∧(∀{R:Type} (k:(t':Ty)→t'.den→Option R),a3m p t x k=k t0 x0)∧fp'.Perm (fr++fs)∧Rep A P t0 Z h cs0 x0 fs:=by
 obtain⟨t',cs,base,h1,h2,h3⟩:=ha;obtain⟨cs',base',fp',g1,g2,g3,g4⟩:=d1o hs ho;rw[h1] at g1;obtain rfl:=Ag g1;obtain⟨rfl,rfl⟩:=b8o h2 g2;rcases h3 with⟨t0,cs0,ad,h4,h5⟩|h3
 ·obtain⟨x0,fs,fr,q1,q2,q3⟩:=g0i g3 h4 hk;exact⟨cs,base,fp',t0,cs0,ad,x0,fs,fr,h2,g3,g4,h4,h5,q1,q2,q3⟩
 ·exact(e4y g3 h3 hk).elim
theorem e3e{s:SV}{v:Value}{r:Nat}{t t1:Ty}{x:t.den}{x1:t1.den}{tm:Nat→Value}
  (ho:∀i,Own A P Z h (e.get i).s (tm i) (F i)) (hs:RootIs (e.get r).s t x) (ht:TE t t1) (hr:Ref e tm h s v) :
  Ref (e.app [⟨r,.no,(e.get r).s.with t1 x1⟩]) tm h s v:=by
 have hAt:∀{p:Pl} {Y:Ty→List Value→Option Addr→Prop},(∀t0 t0' cs ad,t0'.imm=t0.imm→(p.ix.isSome=true→t0'=t0)→Y t0 cs ad→Y t0' cs ad) →
   At e tm h p Y→At (e.app [⟨r,.no,(e.get r).s.with t1 x1⟩]) tm h p Y:=by
  intro p Y hY ha;by_cases hp:p.root=r
  ·subst hp;obtain⟨t',cs,base,h1,h2,h3⟩:=ha;have hg:((e.app [⟨p.root,.no,(e.get p.root).s.with t1 x1⟩]).get p.root).s=(e.get p.root).s.with t1 x1:=by rw[a0j];simp[Ent.bump]
   have htt:t'=t∧((e.get p.root).s.with t1 x1).rootTy=some t1∧b0q h ((e.get p.root).s.with t1 x1) (tm p.root) cs base:=by
    generalize (e.get p.root).s=s0 at hs h1 h2;cases hs with
    |val=>exact⟨by simpa[SV.rootTy] using h1.symm,rfl,b0c (e2v ht).symm (by simp[SV.rootTy] at h1;subst h1;exact h2.1),h2.2⟩
    |box=>exact⟨by simpa[SV.rootTy] using h1.symm,rfl,h2⟩
   obtain⟨rfl,g1,g2⟩:=htt;refine⟨t1,cs,base,by rw[hg];exact g1,by rw[hg];exact g2,?_⟩;rcases h3 with⟨t0,cs0,ad,h4,h5⟩|h3
   ·rcases g0x ht h4 with⟨t0',q1,q2,q3⟩|q
    ·exact .inl ⟨t0',cs0,ad,q1,hY _ _ _ _ q2 q3 h5⟩
    ·exact .inr q
   ·exact .inr (f1j ht h3)
  ·refine b2i (ho p.root) ?_ rfl (fun _ _=>rfl) ha;rw[a0j,if_neg (BM hp)]
 have hv:∀i,((e.app [⟨r,.no,(e.get r).s.with t1 x1⟩]).get i).v=(e.get i).v∧((e.app [⟨r,.no,(e.get r).s.with t1 x1⟩]).get i).c=(e.get i).c:=by
  intro i;rw[a0j];split
  ·subst_vars;exact⟨rfl,rfl⟩
  ·exact⟨rfl,rfl⟩
 cases s with
 |ptr p n c =>
  obtain⟨h1,h2,h3⟩:=hr;refine⟨by rw[(hv _).1];exact h1,by rw[(hv _).2];exact h2,fun k1 k2=>hAt (fun _ _ _ _ _ _ h=>h) (h3 (by rw[←(hv _).1];exact k1) fun hx=>by rw[←(hv _).2];exact k2 hx)⟩
 |ali p n c =>
  obtain⟨h1,h2,h3⟩:=hr;refine⟨by rw[(hv _).1];exact h1,by rw[(hv _).2];exact h2,fun k1 k2=>hAt (fun t0 t0' cs ad hi hx hy=>⟨b0c hi.symm hy.1,fun hh=>by rw[hx hh];exact hy.2 hh⟩) (h3 (by rw[←(hv _).1];exact k1) (by rw[←(hv _).2];exact k2))⟩
 |sub p n c lo hi =>
  obtain⟨h1,h2,h3⟩:=hr;refine⟨by rw[(hv _).1];exact h1,by rw[(hv _).2];exact h2,fun k1 k2=>?_⟩;obtain⟨q1,q2⟩:=h3 (by rw[←(hv _).1];exact k1) (by rw[←(hv _).2];exact k2);refine⟨q1,hAt (fun t0 t0' cs ad hi hx hy=>?_) q2⟩;obtain⟨e',te,a',n',cap,y1,y2⟩:=hy;exact⟨e',te,a',n',cap,by rw[hi];exact y1,y2⟩
 |pts l =>
  obtain⟨b,c,el,fr,h1,h2,h3,h4⟩:=hr;refine⟨b,c,el,fr,h1,h2,h3,fun i hi=>?_⟩;obtain⟨u,g1,g2,g3,g4⟩:=h4 i hi;exact⟨u,g1,by rw[(hv _).1];exact g2,by rw[(hv _).2];exact g3,fun k1 k2=>hAt (fun _ _ _ _ _ _ h=>h) (g4 (by rw[←(hv _).1];exact k1) fun hx=>by rw[←(hv _).2];exact k2 hx)⟩
 |pte r0 n j =>
  obtain⟨h1,h2⟩:=hr;refine⟨by rw[(hv _).1];exact h1,fun k1=>?_⟩;obtain⟨l,b,g1,g2,g3,g4⟩:=h2 (by rw[←(hv _).1];exact k1);refine⟨l,b,?_,g2,g3,g4⟩;have hne:r≠r0:=by rintro rfl;rw[g1] at hs;cases hs
  rw[a0j,if_neg hne];exact g1
 |_=>trivial
end Go.Rb

namespace Go.Rb
variable {A:Amb} {P:Program} {Z Z':Nat→Prop} {h h':Array Obj} {R:Type} {C:Ctx} {B:Base} {e:En} {a:Act} {w w':World} {F:Nat→List Nat} {X:List Nat} {r:Nat→Ent}
theorem c8w:∀{t:Ty},t.le t.imm=true→TE t t.imm:=by
 intro t
 induction t with
 |sl m e t ih =>
  intro hl;simp only[Ty.imm,Ty.le,Af] at hl;refine⟨rfl,(c1d t).symm,?_⟩;cases m with
  |imm=>exact .inl ⟨rfl,by simp⟩
  |own=>exact .inr ⟨rfl,by simp⟩
  |hole=>simp[Md.le] at hl
 |slh e t _=>intro hl;simp[Ty.imm,Ty.le] at hl
 |st t ih=>intro hl;exact ih (by simpa[Ty.imm,Ty.le] using hl)
 |arr n t ih=>intro hl;simp only[Ty.imm,Ty.le,Af] at hl;exact⟨rfl,ih hl.2⟩
 |pair a b iha ihb=>intro hl;simp only[Ty.imm,Ty.le,Af] at hl;exact⟨iha hl.1,ihb hl.2⟩
 |_=>intro _;exact TE.refl _
theorem a8m{p:Pl}{v c:Nat}{k:(t:Ty)→t.den→Option R}{res:R}(hk:c2s r p v c k=some res) :
  ∃t x,RootIs (r p.root).s t x∧(r p.root).v=v∧(r p.root).c=c∧k t x=some res:=by
 unfold c2s at hk;split at hk
 ·rename_i hb;simp only[Af] at hb;split at hk
  ·rename_i t x hs;rw[hs];exact⟨t,x,.val t x,a1p hb.1,a1p hb.2,hk⟩
  ·rename_i t x hs;rw[hs];exact⟨t,x,.box t x,a1p hb.1,a1p hb.2,hk⟩
  ·simp at hk
 ·simp at hk
def VO(A:Amb)(P:Program)(e:En)(a:Act)(h:Array Obj)(Z:Nat→Prop)(F:Nat→List Nat)(r:Nat→Ent)(o:Operand)(t:Ty)(x:t.den):Org→Prop
 |.none=>∃cs,VC t (a.eval o) cs∧Rep A P t Z h cs x []
 |.root i=>o=.tmp i∧(e.get i).s=.val t x∧r i=e.get i
 |.place p=>∃i v c t0 x0,o=.tmp i∧(e.get i).s=.ali p v c∧(e.get p.root).v=v∧(e.get p.root).c=c∧r p.root=e.get p.root∧RootIs (e.get p.root).s t0 x0 ∧
   ∀{R:Type} (k:(t':Ty)→t'.den→Option R),a3m p t0 x0 k=k t x
theorem a5s{i:Nat}:a.eval (.tmp i)=a.tm i:=rfl
theorem a1c{t:Ty}(ht:t.agg=false){v:Value}{cs:List Value}(hc:cs=[v])(hv:∀a,v≠.agg a):VC t v cs:=by
 unfold VC;simp[ht,hc,hv]
theorem d7g{v:Value}{k:(t:Ty)→t.den→Option R}{res:R}(hk:lit v k=some res):∃t x,k t x=some res∧t.pure=true∧∃cs,VC t v cs∧Rep A P t Z h cs x []:=by
 unfold lit at hk;split at hk
 ·split at hk
  ·rename_i kd n _ hd;exact⟨_,_,hk,rfl,[.int kd n],a1c rfl rfl (by simp),rfl,rfl,of_decide_eq_true hd⟩
  ·simp at hk
 ·rename_i b;exact⟨_,_,hk,rfl,[.bool b],a1c rfl rfl (by simp),rfl,rfl⟩
 ·split at hk
  ·rename_i s _ hd;exact⟨_,_,hk,rfl,[.string s],a1c rfl rfl (by simp),rfl,s,rfl,rfl,of_decide_eq_true hd⟩
  ·simp at hk
 ·exact⟨_,_,hk,rfl,[.nilIface],a1c rfl rfl (by simp),rfl,rfl,_,rfl,by simp,rfl⟩
 ·simp at hk
theorem a3r{i:Nat}(hs:Sub r e){s:SV}(hi:(r i).s=s)(hn:s≠.none):r i=e.get i:=hs i (by rw[hi];exact hn)
theorem a5u{s:SV}{t:Ty}{x:t.den}(hs:RootIs s t x):s≠.none:=by cases hs <;> simp
theorem a0v(hrel:Rel A P C B e a w Z F X)(hs:Sub r e){o:Operand}{k:(t:Ty)→t.den→Org→Option R}{res:R}(hk:view r o k=some res) :
  ∃t x org,k t x org=some res∧VO A P e a w.heap Z F r o t x org:=by
 unfold view at hk;split at hk
 ·rename_i c;obtain⟨t,x,h1,_,cs,h2,h3⟩:=d7g (A:=A) (P:=P) (Z:=Z) (h:=w.heap) hk;exact⟨t,x,.none,h1,cs,h2,h3⟩
 ·rename_i i;split at hk
  ·rename_i t x hi;have:=a3r hs hi (by simp);exact⟨t,x,.root i,hk,rfl,by rw[←this];exact hi,this⟩
  ·rename_i p v c hi;have hie:=a3r hs hi (by simp);obtain⟨t0,x0,h1,h2,h3,h4⟩:=a8m hk;have hre:=hs p.root (a5u h1);have hal:(e.get i).s=.ali p v c:=by rw[←hie];exact hi
   have href:=hrel.ref i;rw[hal] at href;rw[hre] at h1 h2 h3;have hat:=href.2.2 h2 h3;obtain⟨cs,base,fp',t1,cs0,ad,x1,fs,fr,g1,g2,g3,g4,g5,g6,g7,g8⟩:=b7n (hrel.own p.root) h1 hat h4;rw[g6] at h4;exact⟨t1,x1,.place p,h4,i,v,c,t0,x0,rfl,hal,h2,h3,hre,h1,fun k=>g6 k⟩
  ·rename_i t x hi;have:=a3r hs hi (by simp);have ho:=hrel.own i;rw[←this,hi] at ho;obtain⟨_,ad,cs,h1,h2,h3,h4⟩:=ho;exact⟨.ptr t,x,.none,hk,[.pointer (some ad)],a1c rfl (by rw[a5s,h1]) (by rw[a5s,h1];simp),rfl,ad,cs,rfl,h2,h3,h4⟩
  ·rename_i b hi;have:=a3r hs hi (by simp);have ho:=hrel.own i;rw[←this,hi] at ho;exact⟨.bool,b,.none,hk,[.bool b],by rw[a5s,ho.2];exact a1c rfl rfl (by simp),rfl,rfl⟩
  ·simp at hk
 ·simp at hk
theorem b9w(hrel:Rel A P C B e a w Z F X){o:Operand}{t:Ty}{x:t.den}{p:Pl}(hv:VO A P e a w.heap Z F r o t x (.place p)) :
  ∃t0 x0 cs base fp' cs0 ad fs fr,RootIs (e.get p.root).s t0 x0∧b0q w.heap (e.get p.root).s (a.tm p.root) cs base∧Rep A P t0 Z w.heap cs x0 fp'∧((base=none∧F p.root=fp')∨∃b,base=some b∧F p.root=b::fp') ∧
   Loc w.heap p t0 cs base t cs0 ad∧(∀{R:Type} (k:(t':Ty)→t'.den→Option R),a3m p t0 x0 k=k t x)∧fp'.Perm (fr++fs)∧Rep A P t Z w.heap cs0 x fs∧VC t (a.eval o) cs0∧r p.root=e.get p.root ∧
   (p.ix.isSome=true→t.pure=false):=by
 obtain⟨i,v,c,t0,x0,rfl,h2,h3,h4,h5,h6,h7⟩:=hv;have href:=hrel.ref i;rw[h2] at href;have hat:=href.2.2 h3 h4;obtain⟨cs,base,fp',t1,cs0,ad,x1,fs,fr,g1,g2,g3,g4,g5,g6,g7,g8⟩:=b7n (k:=fun t x=>some (⟨t,x⟩:Dyn)) (r:=⟨t,x⟩) (hrel.own p.root) h6 hat (h7 _);have:(⟨t1,x1⟩:Dyn)=⟨t,x⟩:=by
  have:=(g6 fun t x=>some (⟨t,x⟩:Dyn)).symm.trans (h7 _);exact Ag this
 cases this;exact⟨t0,x0,cs,base,fp',cs0,ad,fs,fr,h6,g1,g2,g3,g4,fun k=>h7 k,g7,g8,g5.1,h5,g5.2⟩
theorem a6d(hrel:Rel A P C B e a w Z F X){o:Operand}{t:Ty}{x:t.den}{org:Org}(hv:VO A P e a w.heap Z F r o t x org) :
  ∃cs fp,VC t (a.eval o) cs∧Rep A P t Z w.heap cs x fp:=by
 cases org with
 |none=>obtain⟨cs,h1,h2⟩:=hv;exact⟨cs,[],h1,h2⟩
 |root i =>
  obtain⟨rfl,h2,_⟩:=hv;have:=hrel.own i;rw[h2] at this;obtain⟨cs,h3,h4⟩:=this;exact⟨cs,F i,h3,h4⟩
 |place p =>
  obtain⟨t0,x0,cs,base,fp',cs0,ad,fs,fr,_,_,_,_,_,_,_,h8,h9,_⟩:=b9w hrel hv;exact⟨cs0,fs,h9,h8⟩
def addB(base:Option Nat)(fp:List Nat):List Nat :=
 match base with
 |none=>fp
 |some b=>b::fp
def c0f(h':Array Obj)(base:Option Nat)(cs cs1:List Value):Prop :=
 match base with
 |none=>cs1=cs
 |some b=>∃c1,Blk h' b c1∧cs1=c1.toList
theorem f4n{s:SV}{t t1:Ty}{x:t.den}{x1:t1.den}(hs:RootIs s t x){v:Value}{cs cs1:List Value}{base:Option Nat}{fp1:List Nat}
  (hc:b0q h s v cs base) (hi:t1.imm=t.imm) (hcs:c0f h' base cs cs1) (hr:Rep A P t1 Z' h' cs1 x1 fp1) :
  Own A P Z' h' (s.with t1 x1) v (addB base fp1):=by
 cases hs with
 |val =>
  obtain⟨h1,rfl⟩:=hc;obtain rfl:cs1=cs:=hcs;exact⟨cs1,b0c hi.symm h1,hr⟩
 |box =>
  obtain⟨b,c,h1,h2,h3,rfl⟩:=hc;obtain⟨c1,g1,rfl⟩:=hcs;exact⟨b,c1,fp1,h1,g1,rfl,hr⟩
theorem d2w{s:SV}{t t1:Ty}{x:t.den}{x1:t1.den}(hs:RootIs s t x){tm:Nat→Value}{v:Value}:Ref e tm h (s.with t1 x1) v:=by
 cases hs <;> trivial
theorem d3m{p:Pl}{t0:Ty}{x0:t0.den}(hs:RootIs (r p.root).s t0 x0){bp:Bump}{t:Ty}{x:t.den}{k:List Up→Option R} :
  putK r p bp t x k=c0p t x p t0 x0 fun t' x'=>k [⟨p.root,bp,(r p.root).s.with t' x'⟩]:=by
 unfold putK;generalize (r p.root).s=s at hs;cases hs <;> rfl
theorem c2m{base:Option Nat}{fp:List Nat}{b:Nat}:b∈addB base fp↔base=some b∨b∈fp:=by
 unfold addB;cases base with
 |none=>simp
 |some b'=>simp[eq_comm]
theorem b9a(hrel:Rel A P C B e a w Z F X){i0:Nat}{t0:Ty}{x0:t0.den}{cs:List Value}{base:Option Nat}{fp':List Nat}
  (hs:RootIs (e.get i0).s t0 x0) (hc:b0q w.heap (e.get i0).s (a.tm i0) cs base) (hF:(base=none∧F i0=fp')∨∃b,base=some b∧F i0=b::fp')
  {bp:Bump} {t1:Ty} {x1:t1.den} {cs1:List Value} {fp1 X':List Nat} (hi:t1.imm=t0.imm) (hcb:c0f w'.heap base cs cs1) (hr1:Rep A P t1 Z' w'.heap cs1 x1 fp1)
  (hnd:(fp1++X').Nodup) (hsub:∀b,b∈fp1++X'→b∈fp'∨b∈X) (hz:∀b,Z b→Z' b) (hz':∀b,Z' b→Z b∨b∈fp'∨b∈X) (hfz:∀b,b∈fp1++X'→¬Z' b)
  (hsz:w'.heap.size=w.heap.size) (hos:w'.os=w.os) (hout:w'.output=w.output) (htape:w'.tape=w.tape)
  (hh:∀b,b<w.heap.size→b∉F i0→w'.heap[b]?=w.heap[b]?)
  (hrefs:∀i,i≠i0→Ref (e.app [⟨i0,bp,(e.get i0).s.with t1 x1⟩]) a.tm w'.heap (e.get i).s (a.tm i)) :
  Rel A P C B (e.app [⟨i0,bp,(e.get i0).s.with t1 x1⟩]) a w' Z' (setF F i0 (addB base fp1)) X':=by
 have hFm:∀b,b∈F i0↔base=some b∨b∈fp':=by
  intro b;rcases hF with⟨rfl,h1⟩|⟨b',rfl,h1⟩ <;> rw[h1]
  ·simp
  ·simp[eq_comm]
 have hbase:∀b,base=some b→b∉fp'∧b∉X∧¬Z b:=by
  intro b hb;rcases hF with⟨rfl,h1⟩|⟨b',rfl,h1⟩
  ·simp at hb
  ·obtain rfl:=Ag hb;have h2:=hrel.nodup i0;rw[h1] at h2;have hm:b'∈F i0:=by rw[h1];simp
   exact⟨(AO.1 h2).1,hrel.xdisj i0 b' hm,hrel.notZ i0 b' hm⟩
 refine hrel.root (w':=w') (X':=X') hsz hos hout htape hh hz (fun b hb=>(hz' b hb).imp id fun h=>h.imp (fun h=>(hFm b).2 (.inr h)) id) (f4n hs hc hi hcb hr1) ?_ ?_ ?_ (d2w hs) hrefs
 ·refine Ak.2 ⟨?_,(Ak.1 hnd).2.1,fun b hb b' hb' hbb=>?_⟩
  ·cases base with
   |none=>exact(Ak.1 hnd).1
   |some b0 =>
    refine AO.2 ⟨fun hb=>?_,(Ak.1 hnd).1⟩;obtain⟨g1,g2,_⟩:=hbase b0 rfl;exact(hsub b0 (Am _ hb)).elim g1 g2
  ·subst hbb;rcases c2m.1 hb with hb|hb
   ·obtain⟨g1,g2,_⟩:=hbase b hb;exact(hsub b (Al _ hb')).elim g1 g2
   ·exact(Ak.1 hnd).2.2 b hb b hb' rfl
 ·intro b hb;rcases Aq.1 hb with hb|hb
  ·rcases c2m.1 hb with hb|hb
   ·exact .inl ((hFm b).2 (.inl hb))
   ·exact(hsub b (Am _ hb)).imp (fun h=>(hFm b).2 (.inr h)) id
  ·exact(hsub b (Al _ hb)).imp (fun h=>(hFm b).2 (.inr h)) id
 ·intro b hb hzz;rcases Aq.1 hb with hb|hb
  ·rcases c2m.1 hb with hb|hb
   ·obtain⟨g1,g2,g3⟩:=hbase b hb;rcases hz' b hzz with h|h|h
    ·exact g3 h
    ·exact g1 h
    ·exact g2 h
   ·exact hfz b (Am _ hb) hzz
  ·exact hfz b (Al _ hb) hzz
theorem c9j{h:Array Obj}{s:SV}{v:Value}{cs:List Value}{base:Option Nat}(hc:b0q h s v cs base):c0f h base cs cs:=by
 cases s with
 |val t x=>obtain⟨_,rfl⟩:=hc;rfl
 |box t x=>obtain⟨b,c,h1,h2,h3,rfl⟩:=hc;exact⟨c,h2,h3⟩
 |_=>exact hc.elim
theorem d8w(hrel:Rel A P C B e a w Z F X){i0:Nat}{base:Option Nat}{fp':List Nat}(hF:(base=none∧F i0=fp')∨∃b,base=some b∧F i0=b::fp') :
  fp'.Nodup∧(∀b,b∈fp'→b∈F i0)∧(∀b,b∈fp'→¬Z b)∧(∀b,b∈fp'→b∉X):=by
 have h1:∀b,b∈fp'→b∈F i0:=by
  intro b hb;rcases hF with⟨_,h1⟩|⟨b',_,h1⟩ <;> rw[h1]
  ·exact hb
  ·exact AE _ hb
 refine⟨?_,h1,fun b hb=>hrel.notZ i0 b (h1 b hb),fun b hb=>hrel.xdisj i0 b (h1 b hb)⟩;have:=hrel.nodup i0;rcases hF with⟨_,h1⟩|⟨b',_,h1⟩ <;> rw[h1] at this
 ·exact this
 ·exact(AO.1 this).2
theorem f3q(hrel:Rel A P C B e a w Z F X){p:Pl}{t0:Ty}{x0:t0.den}{cs:List Value}{base:Option Nat}{fp':List Nat}{t:Ty}{x:t.den}{cs0:List Value}{ad:Option Addr}
  (hs:RootIs (e.get p.root).s t0 x0) (hc:b0q w.heap (e.get p.root).s (a.tm p.root) cs base) (hr:Rep A P t0 Z w.heap cs x0 fp')
  (hF:(base=none∧F p.root=fp')∨∃b,base=some b∧F p.root=b::fp') (hl:Loc w.heap p t0 cs base t cs0 ad)
  (hg:∀{R:Type} (k:(t':Ty)→t'.den→Option R),a3m p t0 x0 k=k t x)
  {t2:Ty} {y:t2.den} (hte:TE t t2)
  (hy:∀fs,Rep A P t Z w.heap cs0 x fs→Rep A P t2 (fun b=>Z b∨b∈fs) w.heap cs0 y [])
  {k:(t':Ty)→t'.den→Option R} {res:R} (hk:c0p t2 y p t0 x0 k=some res) :
  ∃t1 x1 fs,k t1 x1=some res∧Rep A P t Z w.heap cs0 x fs∧fs.Nodup∧∃F',
   Rel A P C B (e.app [⟨p.root,.no,(e.get p.root).s.with t1 x1⟩]) a w (fun b=>Z b∨b∈fs) F' X:=by
 obtain⟨hnd,hsub,hnz,hnx⟩:=d8w hrel hF;have key:∃t1 x1 fs fr fp1,k t1 x1=some res∧fp'.Perm (fr++fs)∧Rep A P t Z w.heap cs0 x fs∧t1.imm=t0.imm∧fp1.Perm fr∧Rep A P t1 (fun b=>Z b∨b∈fs) w.heap cs x1 fp1∧TE t0 t1:=by
  have hl0:=hl;unfold Loc at hl;split at hl
  ·rename_i hix;obtain⟨o,h1,h2,h3⟩:=hl;obtain⟨x0',fs,fr,g1,g2,g3,g4,g5⟩:=e3b hr hix h1 hk;have hxx:(⟨t,x0'⟩:Dyn)=⟨t,x⟩:=Ag ((g1 fun t x=>some (⟨t,x⟩:Dyn)).symm.trans (hg _));cases hxx;subst h2;obtain⟨t1,x1,fp1,q1,q2,q3,q4,q5,q6⟩:=g5 (fun b=>Z b∨b∈fs) w.heap _ [] (hy fs g3) (fun b=>.inl) (fun _ _=>rfl);rw[a5b (d3v h1 hr)] at q4;exact⟨t1,x1,fs,fr,fp1,q1,g2,g3,q2,by simpa using q3,q4,q6 hte⟩
  ·rename_i j q hix;obtain⟨o1,tsl,e',te,n,cap,b,c,o2,h1,h2,hs',hb,hj0,hjn,hnc,hcs,ho2,hle,hc0,had⟩:=hl;have htsl:tsl=.sl .own e' te:=by
    have:=hg (fun t x=>some (⟨t,x⟩:Dyn));obtain⟨xl,fs,fr,e1,_⟩:=a7f (x:=x0) h1 hr;unfold a3m at this;rw[e1] at this;simp only[hix] at this;split at this
    ·simp only[a6p,Ad,Aj] at h2;obtain⟨rfl,rfl⟩:=h2;rfl
    ·simp at this
   subst htsl;obtain⟨x0',fs,fr,g1,g2,g3,g4,g5⟩:=f1r hr hix h1 hs' hb hj0 (by omega) ho2 hnd hnz hk;have hxx:(⟨t,x0'⟩:Dyn)=⟨t,x⟩:=Ag ((g1 fun t x=>some (⟨t,x⟩:Dyn)).symm.trans (hg _));cases hxx;rw[←hc0] at g3 g5;obtain⟨t1,x1,fp1,q1,q2,q3,q4,q5⟩:=g5 (fun b=>Z b∨b∈fs) w.heap cs0 [] (hy fs g3) (fun b=>.inl) (.inl ⟨rfl,rfl⟩);exact⟨t1,x1,fs,fr,fp1,q1,g2,g3,q2,by simpa using q3,q4,by rw[q5];exact TE.refl _⟩
 obtain⟨t1,x1,fs,fr,fp1,q1,q2,q3,q4,q5,q6,q7⟩:=key;have hnd2:(fr++fs).Nodup:=q2.nodup_iff.1 hnd;have hfp1:fp1.Nodup:=q5.nodup_iff.2 (Ak.1 hnd2).1;have hm1:∀b,b∈fp1→b∈fp'∧b∉fs:=fun b hb=>⟨q2.mem_iff.2 (Am _ (q5.mem_iff.1 hb)),fun hf=>(Ak.1 hnd2).2.2 b (q5.mem_iff.1 hb) b hf rfl⟩
 have hm2:∀b,b∈fs→b∈fp':=fun b hb=>q2.mem_iff.2 (Al _ hb)
 refine⟨t1,x1,fs,q1,q3,(Ak.1 hnd2).2.1,_,b9a hrel hs hc hF q4 (c9j hc) q6 (X':=X) ?_ ?_ (fun b=>.inl) (fun b hb=>hb.imp id fun h=>.inl (hm2 b h)) ?_ rfl rfl rfl rfl (fun _ _ _=>rfl) fun i hi=>e3e hrel.own hs q7 (hrel.ref i)⟩
 ·exact Ak.2 ⟨hfp1,hrel.xnodup,fun b hb b' hb' hbb=>by subst hbb;exact hnx b (hm1 b hb).1 hb'⟩
 ·intro b hb;exact(Aq.1 hb).imp (fun h=>(hm1 b h).1) id
 ·intro b hb hzz;rcases Aq.1 hb with hb|hb
  ·exact hzz.elim (hnz b (hm1 b hb).1) (hm1 b hb).2
  ·exact hzz.elim (hrel.xnotZ b hb) fun h=>hnx b (hm2 b h) hb
theorem d7a(hrel:Rel A P C B e a w Z F X){p:Pl}{t0:Ty}{x0:t0.den}{cs:List Value}{base:Option Nat}{fp':List Nat}{t:Ty}{x:t.den}{cs0:List Value}{ad:Option Addr}
  (hs:RootIs (e.get p.root).s t0 x0) (hc:b0q w.heap (e.get p.root).s (a.tm p.root) cs base) (hr:Rep A P t0 Z w.heap cs x0 fp')
  (hF:(base=none∧F p.root=fp')∨∃b,base=some b∧F p.root=b::fp') (hl:Loc w.heap p t0 cs base t cs0 ad)
  (hg:∀{R:Type} (k:(t':Ty)→t'.den→Option R),a3m p t0 x0 k=k t x)
  {k:(t':Ty)→t'.den→Option R} {res:R} (hk:b6p p t0 x0 k=some res) :
  ∃t1 x1 fs,k t1 x1=some res∧Rep A P t Z w.heap cs0 x fs∧∃F',
   Rel A P C B (e.app [⟨p.root,.no,(e.get p.root).s.with t1 x1⟩]) a w Z F' (fs++X):=by
 obtain⟨hnd,hsub,hnz,hnx⟩:=d8w hrel hF;have key:∃t1 x1 fs fr fp1,k t1 x1=some res∧fp'.Perm (fr++fs)∧Rep A P t Z w.heap cs0 x fs∧t1.imm=t0.imm∧fp1.Perm fr∧Rep A P t1 Z w.heap cs x1 fp1∧TE t0 t1:=by
  unfold Loc at hl;split at hl
  ·rename_i hix;obtain⟨o,h1,h2,h3⟩:=hl;obtain⟨x0',fs,fr,g1,g2,g3,t1,x1,fp1,q1,q2,q3,q4,q5⟩:=f9r hr hix h1 hk;have hxx:(⟨t,x0'⟩:Dyn)=⟨t,x⟩:=Ag ((g1 fun t x=>some (⟨t,x⟩:Dyn)).symm.trans (hg _));cases hxx;subst h2;exact⟨t1,x1,fs,fr,fp1,q1,g2,g3,q2,q3,q4,q5⟩
  ·rename_i j q hix;obtain⟨o1,tsl,e',te,n,cap,b,c,o2,h1,h2,hs',hb,hj0,hjn,hnc,hcs,ho2,hle,hc0,had⟩:=hl;obtain⟨e'',te',x0',fs,fr,rfl,rfl,g1,g2,g3,t1,x1,fp1,q1,q2,q3,q4,q5⟩:=f8x hr hix h1 hs' hb hj0 (by omega) hk;simp only[a1w,Ad,Aj] at ho2;obtain⟨rfl,rfl⟩:=ho2;simp only[a6p,Ad,Aj] at h2;obtain⟨rfl,rfl⟩:=h2;have hxx:(⟨te',x0'⟩:Dyn)=⟨te',x⟩:=Ag ((g1 fun t x=>some (⟨t,x⟩:Dyn)).symm.trans (hg _));cases hxx;rw[Ee] at hc0;exact⟨t1,x1,fs,fr,fp1,q1,g2,hc0 ▸ g3,q2,q3,q4,q5⟩
 obtain⟨t1,x1,fs,fr,fp1,q1,q2,q3,q4,q5,q6,q7⟩:=key;have hnd2:(fr++fs).Nodup:=q2.nodup_iff.1 hnd;have hfp1:fp1.Nodup:=q5.nodup_iff.2 (Ak.1 hnd2).1;have hm1:∀b,b∈fp1→b∈fp'∧b∉fs:=fun b hb=>⟨q2.mem_iff.2 (Am _ (q5.mem_iff.1 hb)),fun hf=>(Ak.1 hnd2).2.2 b (q5.mem_iff.1 hb) b hf rfl⟩
 have hm2:∀b,b∈fs→b∈fp':=fun b hb=>q2.mem_iff.2 (Al _ hb)
 refine⟨t1,x1,fs,q1,q3,_,b9a hrel hs hc hF q4 (c9j hc) q6 (X':=fs++X) ?_ ?_ (fun b=>id) (fun b=>.inl) ?_ rfl rfl rfl rfl (fun _ _ _=>rfl) fun i hi=>e3e hrel.own hs q7 (hrel.ref i)⟩
 ·refine Ak.2 ⟨hfp1,Ak.2 ⟨(Ak.1 hnd2).2.1,hrel.xnodup,fun b hb b' hb' hbb=>by subst hbb;exact hnx b (hm2 b hb) hb'⟩,fun b hb b' hb' hbb=>?_⟩;subst hbb;rcases Aq.1 hb' with hb'|hb'
  ·exact(hm1 b hb).2 hb'
  ·exact hnx b (hm1 b hb).1 hb'
 ·intro b hb;rcases Aq.1 hb with hb|hb
  ·exact .inl (hm1 b hb).1
  ·exact(Aq.1 hb).imp (hm2 b) id
 ·intro b hb hzz;rcases Aq.1 hb with hb|hb
  ·exact hnz b (hm1 b hb).1 hzz
  ·rcases Aq.1 hb with hb|hb
   ·exact hnz b (hm2 b hb) hzz
   ·exact hrel.xnotZ b hb hzz
end Go.Rb

namespace Go.Rb
variable {A:Amb} {P:Program} {Z Z':Nat→Prop} {h h':Array Obj} {R:Type} {C:Ctx} {B:Base} {e:En} {a:Act} {w w':World} {F:Nat→List Nat} {X:List Nat} {r:Nat→Ent}
def a7t(A:Amb)(P:Program)(Z:Nat→Prop)(h:Array Obj):(ps:List PS)→List Value→a3a ps→List Nat→Prop
 |[],vs,_,fp=>vs=[]∧fp=[]
 |.val t::ps,vs,x,fp=>∃v vs' cs f1 f2,vs=v::vs'∧VC t v cs∧Rep A P t Z h cs x.1 f1∧a7t A P Z h ps vs' x.2 f2∧fp=f1++f2
 |.io t::ps,vs,x,fp=>∃v vs' b c f1 f2,vs=v::vs'∧v=.pointer (some ⟨b,0,none⟩)∧Blk h b c∧Rep A P t Z h c.toList x.1 f1∧a7t A P Z h ps vs' x.2 f2∧fp=b::f1++f2
 |.sio t::ps,vs,x,fp=>∃v vs' cs f1 f2,vs=v::vs'∧VC t v cs∧Rep A P t Z h cs x.1 f1∧a7t A P Z h ps vs' x.2 f2∧fp=f1++f2
def b0u(A:Amb)(P:Program)(Z:Nat→Prop)(h:Array Obj):(ps:List PS)→List Value→b3g ps→List Nat→Prop
 |[],_,_,fp=>fp=[]
 |.val _::ps,vs,y,fp=>b0u A P Z h ps vs.tail y fp
 |.io t::ps,vs,y,fp=>∃b c f1 f2,vs.head?=some (.pointer (some ⟨b,0,none⟩))∧Blk h b c∧Rep A P t Z h c.toList y.1 f1∧b0u A P Z h ps vs.tail y.2 f2∧fp=b::f1++f2
 |.sio t::ps,vs,y,fp=>∃v cs f1 f2,vs.head?=some v∧VC t v cs∧Rep A P t Z h cs y.1 f1∧b0u A P Z h ps vs.tail y.2 f2∧fp=f1++f2
def g3z(A:Amb)(P:Program)(Z:Nat→Prop)(h:Array Obj):(p:RS)→Value→p.den→List Nat→Prop
 |.val t,v,x,fp=>∃cs,VC t v cs∧Rep A P t Z h cs x fp
 |.box t,v,x,fp=>∃b c f1,v=.pointer (some ⟨b,0,none⟩)∧Blk h b c∧Rep A P t Z h c.toList x f1∧fp=b::f1
def d5h(A:Amb)(P:Program)(Z:Nat→Prop)(h:Array Obj):(rs:List RS)→List Value→b7i rs→List Nat→Prop
 |[],vs,_,fp=>vs=[]∧fp=[]
 |p::rs,vs,y,fp=>∃v vs' f1 f2,vs=v::vs'∧g3z A P Z h p v y.1 f1∧d5h A P Z h rs vs' y.2 f2∧fp=f1++f2
def c7r(A:Amb)(P:Program)(Z:Nat→Prop)(h:Array Obj)(rs:List RS)(v:Value)(y:b7i rs)(fp:List Nat):Prop :=
 ∃vs:List Value,d5h A P Z h rs vs y fp∧v=(if hv:vs.toArray.size=1 then vs.toArray[0] else .tuple vs.toArray)
def a6z(A:Amb)(P:Program)(C:Ctx)(f:FuncId)(sg:Sig)(G:sg.arg→Option sg.res):Prop :=
 ∀x y,G x=some y→∀(Z:Nat→Prop) (w:World) (vs:Array Value) (fp:List Nat),GlobOK A P C Z w.heap→(∀b,Z b→b<w.heap.size)→a7t A P Z w.heap sg.ps vs.toList x fp→fp.Nodup →
  (∀b,b∈fp→¬Z b)→Calls P f vs w fun en w'=>∃v Z' fr fi,en=.returned v∧c7r A P Z' w'.heap sg.rs v y.1 fr∧b0u A P Z' w'.heap sg.ps vs.toList y.2 fi∧Step Z w fp Z' w' (fr++fi)
def FtOK(A:Amb)(P:Program)(C:Ctx):Prop:=∀f sg G,C.ft f=some ⟨sg,G⟩→a2o P f∧a6z A P C f sg G
theorem b5i{t:Ty}{v:Value}{y:b7i [.val t]}{fp:List Nat}(hr:c7r A P Z h [.val t] v y fp):∃cs,VC t v cs∧Rep A P t Z h cs y.1 fp:=by
 obtain⟨vs,h1,h2⟩:=hr;obtain⟨v',vs',f1,f2,rfl,⟨cs,h3,h4⟩,⟨rfl,rfl⟩,rfl⟩:=h1;have:v=v':=by rw[h2];simp
 subst this;exact⟨cs,h3,by rw[A9];exact h4⟩
theorem d9v(hft:FtOK A P C)(hg:GlobOK A P C Z h){f:Nat}{t:Ty}{k:t.den→Option R}{res:R}(hk:e6m C f t k=some res) :
  ∃y,k y=some res∧VC t (.func (.func f) #[] #[]) [.func (.func f) #[] #[]]∧Rep A P t Z h [.func (.func f) #[] #[]] y []:=by
 unfold e6m at hk;split at hk
 ·rename_i ta tb g hf;split at hk
  ·rename_i hp;obtain⟨hl,y,hy,hk⟩:=a1x hk;have:=f1n hl trivial;subst this;cases hy;refine⟨_,hk,a1c rfl rfl (by simp),rfl,f,#[],#[],rfl,(hft f _ g hf).1,fun Z' w' v cv x r hx hzb hv hr hgx=>?_⟩;dsimp only at hgx;cases hgx':g (x,()) with
   |none=>rw[hgx'] at hgx;simp at hgx
   |some y =>
    rw[hgx'] at hgx;simp only[Ab,Ad] at hgx;refine((hft f _ g hf).2 (x,()) y hgx' Z' w' #[v] [] (hg.mono hx.1 hx.2) hzb ⟨v,[],cv,[],[],rfl,hv,hr,⟨rfl,rfl⟩,rfl⟩ Ax (by simp)).mono ?_;rintro en w'' ⟨v',Z'',fr,fi,rfl,h1,h2,h3⟩;obtain⟨cs,h4,h5⟩:=b5i h1;obtain rfl:=a1y h5 hp;obtain rfl:fi=[]:=h2;exact⟨v',cs,Z'',rfl,h4,h3,hgx ▸ h5⟩
  ·simp at hk
 ·rename_i ta tb tc g hf;split at hk
  ·rename_i hp;obtain⟨hl,y,hy,hk⟩:=a1x hk;have:=f1n hl trivial;subst this;cases hy;refine⟨_,hk,a1c rfl rfl (by simp),rfl,f,#[],#[],rfl,(hft f _ g hf).1,fun Z' w' v cv x v2 cv2 x2 r hx hzb hv hr hv2 hr2 hgx=>?_⟩;dsimp only at hgx;cases hgx':g (x,x2,()) with
   |none=>rw[hgx'] at hgx;simp at hgx
   |some y =>
    rw[hgx'] at hgx;simp only[Ab,Ad] at hgx;refine((hft f _ g hf).2 (x,x2,()) y hgx' Z' w' #[v,v2] [] (hg.mono hx.1 hx.2) hzb ⟨v,[v2],cv,[],[],rfl,hv,hr,⟨v2,[],cv2,[],[],rfl,hv2,hr2,⟨rfl,rfl⟩,rfl⟩,rfl⟩ Ax (by simp)).mono ?_;rintro en w'' ⟨v',Z'',fr,fi,rfl,h1,h2,h3⟩;obtain⟨cs,h4,h5⟩:=b5i h1;obtain rfl:=a1y h5 hp;obtain rfl:fi=[]:=h2;exact⟨v',cs,Z'',rfl,h4,h3,hgx ▸ h5⟩
  ·simp at hk
 ·simp at hk
structure Got (A:Amb) (P:Program) (C:Ctx) (B:Base) (e:En) (a:Act) (w:World) (Z:Nat→Prop) (X:List Nat) (r:Nat→Ent) (us:List Up) (v:Value) (t:Ty) (y:t.den):Prop where
 ex:∃Z' F' fs cs,Rel A P C B (e.app us) a w Z' F' (fs++X)∧(∀b,Z b→Z' b)∧VC t v cs∧Rep A P t Z' w.heap cs y fs
 sub:Sub (upd r us) (e.app us)
theorem b9b(t:Ty):t.imm.pure=true:=by
 induction t <;> simp_all [Ty.imm,Ty.pure]
theorem a6c{t t':Ty}(hl:t.le t'=true)(hp:t'.pure=true){x:t.den}{y:t'.den}(hy:HEq x y){cs:List Value}{fs:List Nat}(hr:Rep A P t Z h cs x fs) :
  Rep A P t' (fun b=>Z b∨b∈fs) h cs y []:=by
 obtain⟨fp',fz,q1,q2⟩:=b7k hl hy hr;have:=q2 (fun b=>Z b∨b∈fs) (fun b=>.inl) fun b hb=>.inr (q1.mem_iff.2 (Al _ hb))
 obtain rfl:=a1y this hp;exact this
theorem b1e(hs:Sub r e){i:Nat}(hi:r i=e.get i){b:Bump}{s:SV}:Sub (upd r [⟨i,b,s⟩]) (e.app [⟨i,b,s⟩]):=by
 refine hs.app fun u hu=>?_
 obtain rfl:u=⟨i,b,s⟩:=by simpa using hu
 exact hi
theorem e6u(hrel:Rel A P C B e a w Z F X)(hs:Sub r e){o:Operand}{t:Ty}{x:t.den}{org:Org}(hv:VO A P e a w.heap Z F r o t x org)
  {k:List Up→Option R} {res:R} (hk:frzK r t x org k=some res) {t':Ty} (hl:t.le t'=true) {y:t'.den} (hy:HEq x y) (hp:t'.pure=true) :
  ∃us,k us=some res∧Got A P C B e a w Z X r us (a.eval o) t' y:=by
 unfold frzK at hk;split at hk
 ·rename_i htp;obtain⟨cs,fp,h1,h2⟩:=a6d hrel hv;obtain rfl:=a1y h2 htp;obtain⟨fp',fz,q1,q2⟩:=b7k hl hy h2;obtain⟨rfl,rfl⟩:fp'=[]∧fz=[]:=by simpa using BP q1
  exact⟨[],hk,⟨Z,F,[],cs,hrel,fun b=>id,b0c (c0c hl) h1,q2 Z (fun b=>id) (by simp)⟩,hs⟩
 ·obtain⟨hli,y1,hy1,hk⟩:=a1x hk;split at hk
  ·rename_i i _;obtain⟨rfl,h2,h3⟩:=hv;have ho:=hrel.own i;rw[h2] at ho;obtain⟨cs,g1,g2⟩:=ho;refine⟨_,hk,?_,b1e hs h3⟩;have hR:RootIs (e.get i).s t x:=by rw[h2];exact .val t x
   have hw:(e.get i).s.with t.imm y1=.val t.imm y1:=by rw[h2];rfl
   refine⟨fun b=>Z b∨b∈F i,setF F i (addB none []),[],cs,?_,fun b=>.inl,b0c (c0c hl) g1,a6c hl hp hy g2⟩;rw[←hw];refine b9a (cs1:=cs) (fp':=F i) hrel hR (by rw[h2];exact⟨g1,rfl⟩) (.inl ⟨rfl,rfl⟩) (c1d t) rfl (a6c hli (b9b t) hy1 g2) (by simpa using hrel.xnodup) (fun b hb=>.inr (by simpa using hb)) (fun b=>.inl)
    (fun b hb=>hb.imp id .inl) ?_ rfl rfl rfl rfl (fun _ _ _=>rfl) fun j hj=>e3e hrel.own hR (c8w hli) (hrel.ref j)
   intro b hb hzz;have hb':b∈X:=by simpa using hb
   exact hzz.elim (hrel.xnotZ b hb') fun h=>hrel.xdisj i b h hb'
  ·rename_i p _;obtain⟨t0,x0,cs,base,fp',cs0,ad,fs,fr,k1,k2,k3,k4,k5,k6,k7,k8,k9,k10,_⟩:=b9w hrel hv;rw[d3m (by rw[k10];exact k1)] at hk;obtain⟨t1,x1,fs',q1,q2,q3,F',q4⟩:=f3q hrel k1 k2 k3 k4 k5 k6 (c8w hli) (fun fs hfs=>a6c hli (b9b t) hy1 hfs) hk;rw[k10] at q1;exact⟨_,q1,⟨_,F',[],cs0,q4,fun b=>.inl,b0c (c0c hl) k9,a6c hl hp hy q2⟩,b1e hs k10⟩
  ·simp at hk
theorem Rel.frzX(hrel:Rel A P C B e a w Z F X){X' fz:List Nat}(hX:X.Perm (X'++fz)):Rel A P C B e a w (fun b=>Z b∨b∈fz) F X':=by
 have hm:∀b,b∈X↔b∈X'∨b∈fz:=fun b=>by rw[hX.mem_iff,Aq]
 have hn:(X'++fz).Nodup:=hX.nodup_iff.1 hrel.xnodup;exact { hrel with
  own:=fun i=>b4g (hrel.own i) (fun b=>.inl) fun _ _=>rfl
  notZ:=fun i b hb hz=>hz.elim (hrel.notZ i b hb) fun h=>hrel.xdisj i b hb ((hm b).2 (.inr h))
  xnodup:=(Ak.1 hn).1
  xdisj:=fun i b hb hx=>hrel.xdisj i b hb ((hm b).2 (.inl hx))
  xnotZ:=fun b hb hz=>hz.elim (hrel.xnotZ b ((hm b).2 (.inl hb))) fun h=>(Ak.1 hn).2.2 b hb b h rfl
  xb:=fun b hb=>hrel.xb b ((hm b).2 (.inl hb))
  xnew:=fun b hb=>hrel.xnew b ((hm b).2 (.inl hb))
  zb:=fun b hb=>hb.elim (hrel.zb b) fun h=>hrel.xb b ((hm b).2 (.inr h))
  z:=fun b hb=>.inl (hrel.z b hb)
  znew:=fun b hb=>hb.elim (hrel.znew b) fun h=>.inr (hrel.xnew b ((hm b).2 (.inr h)))
  glob:=hrel.glob.mono (fun b=>.inl) fun _ _=>rfl }
theorem c0k(hrel:Rel A P C B e a w Z F X)(hs:Sub r e){o:Operand}{t:Ty}{x:t.den}{org:Org}(hv:VO A P e a w.heap Z F r o t x org)
  {k:List Up→Option R} {res:R} (hk:c4o r org k=some res) :
  ∃us F' fs cs,k us=some res∧Rel A P C B (e.app us) a w Z F' (fs++X)∧VC t (a.eval o) cs∧Rep A P t Z w.heap cs x fs∧Sub (upd r us) (e.app us):=by
 unfold c4o at hk;split at hk
 ·rename_i i;obtain⟨rfl,h2,h3⟩:=hv;have ho:=hrel.own i;rw[h2] at ho;obtain⟨cs,g1,g2⟩:=ho;refine⟨_,setF F i [],F i,cs,hk,?_,g1,g2,b1e hs h3⟩;refine hrel.root (w':=w) rfl rfl rfl rfl (fun _ _ _=>rfl) (fun b=>id) (fun b=>.inl) rfl ?_ ?_ ?_ trivial ?_
  ·exact Ak.2 ⟨Ax,Ak.2 ⟨hrel.nodup i,hrel.xnodup,fun b hb b' hb' hbb=>by subst hbb;exact hrel.xdisj i b hb hb'⟩,by simp⟩
  ·intro b hb;simpa using hb
  ·intro b hb;rcases Aq.1 (by simpa using hb:b∈F i++X) with hb|hb
   ·exact hrel.notZ i b hb
   ·exact hrel.xnotZ b hb
  ·intro j hj;refine a9o (F:=F) hrel.own (hrel.ref j) (fun _ _ _ _ _ _=>rfl) fun q=>?_
   rw[a0j];by_cases hq:i=q
   ·subst hq;right;simp[Ent.bump]
   ·left;rw[if_neg hq];exact⟨rfl,rfl,fun _ _=>rfl⟩
 ·rename_i p;obtain⟨t0,x0,cs,base,fp',cs0,ad,fs,fr,k1,k2,k3,k4,k5,k6,k7,k8,k9,k10,_⟩:=b9w hrel hv;have hk':b6p p t0 x0 (fun t' x'=>k [⟨p.root,.no,(r p.root).s.with t' x'⟩])=some res:=by
   rw[k10];rw[k10] at hk;have k1':=k1;generalize (e.get p.root).s=s at k1' hk ⊢;cases k1' <;> exact hk
  obtain⟨t1,x1,fs',q1,q2,F',q3⟩:=d7a hrel k1 k2 k3 k4 k5 k6 hk';rw[k10] at q1;exact⟨_,F',fs',cs0,q1,q3,k9,q2,b1e hs k10⟩
 ·simp at hk
theorem c4f{a b:Ty}{x:a.den}{k:b.den→Option R}{r:R}(hk:d6r a b x k=some r):b0f a b x k=some r∨((a=.lf .hnd∨a=.lf .nlb)∧b=.sl .imm 1 (.int .u8)∧∃y:b.den,HEq x y∧k y=some r):=by
 unfold d6r at hk;split at hk
 ·exact .inr ⟨.inl rfl,rfl,_,Dg,hk⟩
 ·exact .inr ⟨.inr rfl,rfl,_,Dg,hk⟩
 ·exact .inl hk
theorem e0j{cs:List Value}{l:List Int}{fp:List Nat}(hr:Rep A P (.lf .hnd) Z h cs l fp):Rep A P (.sl .imm 1 (.int .u8)) Z h cs l []:=by
 obtain⟨rfl,b,c,el,fr,rfl,hz,hb,hl,_,hro⟩:=hr;refine⟨_,_,_,rfl,rfl,rfl,Nat.le_add_right _ _,by omega,by omega,.inr ⟨⟨b,0,none⟩,l.map fun x=>.int .u8 x,rfl,hz,⟨rfl,by simp[Ty.size],c,el,fr,hb,fun j hj=>?_⟩,fun i hi=>?_⟩⟩
 ·have hj':j<l.length:=by simpa[Ty.size] using hj
  rw[Nat.zero_add,(hl j hj').1];simp[hj']
 ·have h2:=(hl i hi).2;refine⟨rfl,?_,?_,?_⟩
  ·simp only[seg,Ty.size,Dq];rw[CN (by simpa using hi)];simp
  ·show(A6).min≤l[i];have:(A6).min=0:=rfl;omega
  ·show l[i]≤(A6).max;have:(A6).max=255:=rfl;omega
theorem d9w{cs:List Value}{l:List Int}{fp:List Nat}(hr:Rep A P (.lf .nlb) Z h cs l fp):Rep A P (.sl .imm 1 (.int .u8)) Z h cs l []:=by
 obtain⟨rfl,hr⟩:=hr;rcases hr with⟨rfl,rfl⟩|⟨_,ad,cap,c,el,fr,rfl,h1,h2,h3,hz,hb,hl⟩
 ·exact⟨none,0,0,rfl,rfl,rfl,Ar _,by simp[room],by simp[room],.inl rfl⟩
 ·refine⟨_,_,_,rfl,rfl,rfl,h1,by omega,h2,.inr ⟨ad,l.map fun x=>.int .u8 x,rfl,hz,⟨h3,by simp[Ty.size],c,el,fr,hb,fun j hj=>?_⟩,fun i hi=>?_⟩⟩
  ·have hj':j<l.length:=by simpa[Ty.size] using hj
   rw[(hl j hj').1];simp[hj']
  ·have h2:=(hl i hi).2;refine⟨rfl,?_,?_,?_⟩
   ·simp only[seg,Ty.size,Dq];rw[CN (by simpa using hi)];simp
   ·show(A6).min≤l[i];have:(A6).min=0:=rfl;omega
   ·show l[i]≤(A6).max;have:(A6).max=255:=rfl;omega
theorem f8f{cs:List Value}{l:List Int}{fp:List Nat}(hr:Rep A P (.sl .imm 1 (.int .u8)) Z h cs l fp)(hl:l≠[]):Rep A P (.lf .nlb) Z h cs l []:=by
 obtain⟨a,n,cap,rfl,rfl,rfl,h1,h2,h3,h4⟩:=hr;rcases h4 with h4|⟨ad,cells,rfl,hz,⟨g1,g2,c,el,fr,g3,g4⟩,g5⟩
 ·exact absurd h4 hl
 ·refine⟨rfl,.inr ⟨hl,ad,cap,c,el,fr,rfl,h1,h3,g1,hz,g3,fun i hi=>?_⟩⟩;have hc:i<cells.length:=by rw[g2];simpa[Ty.size] using hi
  obtain⟨_,h6,h7,h8⟩:=g5 i hi;have e:cells[i]=.int .u8 l[i]:=by
   have h6':seg cells (i*1) 1=[Cv .u8 l[i]]:=h6;have h9:=congrArg (fun q:List Value=>q[0]?) h6';rw[seg,Dq] at h9;simp only[AV,Bg] at h9;simp at h9;rw[Bb hc] at h9;exact Ag h9
  have h7':(A6).min≤l[i]:=h7;have h8':l[i]≤(A6).max:=h8;have m0:(A6).min=0:=rfl;have m1:(A6).max=255:=rfl;exact⟨by rw[g4 i (by rw[←g2];exact hc),Bb hc,e],by omega,by omega⟩
theorem d8o(hft:FtOK A P C)(hg:GlobOK A P C Z h){f:Nat}{t:Ty}{k:t.den→Option R}{res:R}(hk:fnT C f t k=some res) :
  ∃y,k y=some res∧VC t (.func (.func f) #[] #[]) [.func (.func f) #[] #[]]∧Rep A P t Z h [.func (.func f) #[] #[]] y []:=by
 unfold fnT at hk;split at hk
 ·split at hk
  ·rename_i hb;obtain rfl:=AF hb;exact⟨(),hk,a1c rfl rfl (by simp),rfl,rfl⟩
  ·simp at hk
 ·exact d9v hft hg hk
theorem c2z(hrel:Rel A P C B e a w Z F X)(hs:Sub r e){o:Operand}{t:Ty}{k:t.den→List Up→Option R}{res:R}(hk:asT0.go r o t k=some res) :
  ∃y us,k y us=some res∧Got A P C B e a w Z X r us (a.eval o) t y:=by
 unfold asT0.go at hk;obtain⟨t',x,org,hk,hv⟩:=a0v hrel hs hk;rcases c4f hk with hk|⟨rfl|rfl,rfl,y,hy,hk⟩
 rotate_left
 ·obtain rfl:=eq_of_heq hy;obtain⟨cs,fp,h1,h2⟩:=a6d hrel hv;exact⟨x,[],hk,⟨Z,F,[],cs,hrel,fun b=>id,h1,e0j h2⟩,hs⟩
 ·obtain rfl:=eq_of_heq hy;obtain⟨cs,fp,h1,h2⟩:=a6d hrel hv;exact⟨x,[],hk,⟨Z,F,[],cs,hrel,fun b=>id,h1,d9w h2⟩,hs⟩
 obtain⟨hl,y,hy,hk⟩:=a1x hk;split at hk
 ·obtain⟨us,F',fs,cs,q1,q2,q3,q4,q5⟩:=c0k hrel hs hv hk;obtain⟨fp',fz,g1,g2⟩:=b7k hl hy q4;refine⟨y,us,q1,⟨_,F',fp',cs,q2.frzX (X':=fp'++X) (fz:=fz) ?_,fun b=>.inl,b0c (c0c hl) q3,g2 _ (fun b=>.inl) fun b=>.inr⟩,q5⟩;refine(Az X g1).trans ?_;rw[Ae,Ae];exact Ay fp' Aw
 ·rename_i hp;obtain⟨us,q1,q2⟩:=e6u hrel hs hv hk hl hy hp;exact⟨y,us,q1,q2⟩
theorem b5z(hrel:Rel A P C B e a w Z F X)(hs:Sub r e){v:Value}{t:Ty}{y:t.den}{cs:List Value}(h1:VC t v cs)(h2:Rep A P t Z w.heap cs y []):Got A P C B e a w Z X r [] v t y :=
 ⟨⟨Z,F,[],cs,hrel,fun b=>id,h1,h2⟩,hs⟩
theorem d8k{m:Md}{n:Nat}{t:Ty}:VC (.sl m n t) (.slice none 0 0) [.slice none 0 0]:=a1c rfl rfl (by simp)
theorem c1q{m:Md}{n:Nat}{t:Ty}:Rep A P (.sl m n t) Z h [.slice none 0 0] ([]:List t.den) []:=by
 refine⟨none,0,0,rfl,?_⟩;cases m with
 |imm=>exact⟨rfl,rfl,Ar _,by simp[room],by simp[room],.inl rfl⟩
 |own=>exact⟨rfl,Ar _,by simp[room],by simp[room],.inl ⟨rfl,rfl,rfl,rfl⟩⟩
 |hole=>rfl
theorem e7x{e0:Nat}{t:Ty}{l:List t.den}{a0:Option Addr}{n cap:Nat}{fs:List Nat}(hr:Rep A P (.sl .own e0 t) Z h [.slice a0 n cap] l fs)(hnd:fs.Nodup){k:Nat}(hk:k≤l.length) :
  ∃fs',Rep A P (.sl .own e0 t) Z h [.slice a0 k cap] (l.take k) fs'∧(∀b,b∈fs'→b∈fs)∧fs'.Nodup:=by
 obtain⟨a1,n1,cap1,hcs,h1,h2,h3,h4,h5⟩:=hr;simp only[AG,AR,and_true] at hcs;obtain⟨rfl,rfl,rfl⟩:=hcs;have hlen:k=(l.take k).length:=by rw[A7];omega
 have hke:k*e0≤room:=AM (Ai _ (by omega)) h3;rcases h5 with⟨rfl,rfl,rfl,rfl⟩|⟨b,c,fps,rfl,g1,g2,rfl,g4,g5⟩
 ·simp at hk;subst hk;exact⟨[],⟨none,0,0,rfl,rfl,Ar _,by simp[room],by simp[room],.inl ⟨rfl,rfl,rfl,rfl⟩⟩,by simp,Ax⟩
 ·have hsub:∀b',b'∈(fps.take k).flatten→b'∈fps.flatten:=by
   intro b' hb;obtain⟨x,hx,hb⟩:=B6.1 hb;exact B6.2 ⟨x,List.mem_of_mem_take hx,hb⟩
  refine⟨b::(fps.take k).flatten,⟨_,k,cap,rfl,hlen,by omega,hke,by omega,.inr ⟨b,c,fps.take k,rfl,g1,g2,rfl,by simp;omega,fun i hi=>?_⟩⟩,?_,?_⟩
  ·have hi':i<k:=by rw[A7] at hi;omega
   have:=g5 i (by omega);rw[List.getElem_take];have e1:(fps.take k).getD i []=fps.getD i []:=by simp[BC,AV,hi']
   rw[e1];exact this
  ·intro b' hb;rcases A3.1 hb with rfl|hb
   ·simp
   ·exact AE _ (hsub b' hb)
  ·refine AO.2 ⟨fun hb=>(AO.1 hnd).1 (hsub _ hb),?_⟩;have:=(AO.1 hnd).2;rw[←Bw k fps,List.flatten_append] at this;exact(Ak.1 this).1
theorem d1h(hrel:Rel A P C B e a w Z F X)(hs:Sub r e){p:Pl}{t0:Ty}{x0:t0.den}{cs:List Value}{base:Option Nat}{fp':List Nat}{t:Ty}{x:t.den}{cs0:List Value}{ad:Option Addr}
  (k1:RootIs (e.get p.root).s t0 x0) (k2:b0q w.heap (e.get p.root).s (a.tm p.root) cs base) (k3:Rep A P t0 Z w.heap cs x0 fp')
  (k4:(base=none∧F p.root=fp')∨∃b,base=some b∧F p.root=b::fp') (k5:Loc w.heap p t0 cs base t cs0 ad)
  (k6:∀{R:Type} (k:(t':Ty)→t'.den→Option R),a3m p t0 x0 k=k t x) (k10:r p.root=e.get p.root) {k:List Up→Option R} {res:R} (hk:c4o r (.place p) k=some res) :
  ∃us F' fs,k us=some res∧Rel A P C B (e.app us) a w Z F' (fs++X)∧Rep A P t Z w.heap cs0 x fs∧Sub (upd r us) (e.app us):=by
 have hk':b6p p t0 x0 (fun t' x'=>k [⟨p.root,.no,(r p.root).s.with t' x'⟩])=some res:=by
  unfold c4o at hk;simp only at hk;rw[k10];rw[k10] at hk;have k1':=k1;generalize (e.get p.root).s=s at k1' hk ⊢;cases k1' <;> exact hk
 obtain⟨t1,x1,fs',q1,q2,F',q3⟩:=d7a hrel k1 k2 k3 k4 k5 k6 hk';rw[k10] at q1;exact⟨_,F',fs',q1,q3,q2,b1e hs k10⟩
theorem Rel.subX(hrel:Rel A P C B e a w Z F X){X':List Nat}(hs:∀b,b∈X'→b∈X)(hn:X'.Nodup):Rel A P C B e a w Z F X' :=
 { hrel with
  xnodup:=hn
  xdisj:=fun i b hb hx=>hrel.xdisj i b hb (hs b hx)
  xnotZ:=fun b hb=>hrel.xnotZ b (hs b hb)
  xb:=fun b hb=>hrel.xb b (hs b hb)
  xnew:=fun b hb=>hrel.xnew b (hs b hb) }
theorem e5z(hrel:Rel A P C B e a w Z F X)(hs:Sub r e){i:Nat}{p:Pl}{v c:Nat}{lo hi:Int}(hri:(r i).s=.sub p v c lo hi){t:Ty}{k:t.den→List Up→Option R}{res:R}(hk:subT r p v c lo hi t k=some res) :
  ∃y us,k y us=some res∧Got A P C B e a w Z X r us (a.eval (.tmp i)) t y:=by
 unfold subT at hk;have hie:=a3r hs hri (by simp);have hi2:(e.get i).s=.sub p v c lo hi:=by rw[←hie];exact hri
 split at hk
 ·obtain⟨t0,x0,h1,h2',h3,hk1⟩:=a8m hk;have hre:=hs p.root (a5u h1);have href:=hrel.ref i;rw[hi2] at href;rw[hre] at h1 h2' h3;obtain⟨hix,hat⟩:=href.2.2 h2' h3;obtain⟨cs,base,fp',t1,cs0,ad,x1,fs,fr,g1,g2,g3,g4,g5,g6,g7,g8⟩:=b7n (hrel.own p.root) h1 hat hk1;rw[g6] at hk1;cases t1 with
  |sl m1 e1 te =>
   cases m1 with
   |own =>
    obtain⟨us,F',fs',q1,q2,q3,q4⟩:=d1h hrel hs h1 g1 g2 g3 g4 (fun k=>g6 k) hre hk1;obtain⟨e2,te2,a0,n,cap,s1,s2,s3,s4,s5,s6,s7⟩:=g5;subst s2;have hn:n=List.length x1:=by
     obtain⟨a1,n1,cap1,hh,h1',_⟩:=q3;simp only[AG,AR,and_true] at hh;rw[hh.2.1];exact h1'
    have hfsn:fs'.Nodup:=(Ak.1 q2.xnodup).1;obtain⟨f2,v1,v2,v3⟩:=e7x (k:=hi.toNat) q3 hfsn (by omega);have hval:a.eval (.tmp i)=.slice a0 hi.toNat cap:=by
     have hz:a0.map (fun x=>x.add 0)=a0:=by
      cases a0 with
      |none=>rfl
      |some ad=>simp[CO]
     have hlo0:(Int.ofNat 0).toNat=0:=rfl;rw[a5s,s7];simp only[hlo0,HU,Nat.sub_zero,hz,if_true,ite_self]
    obtain⟨hl,y,hy,hk2⟩:=a1x q1;obtain⟨fp1,fz,w1,w2⟩:=b7k hl hy v1;have q2':Rel A P C B (e.app us) a w Z F' (f2++X):=q2.subX (fun b hb=>by
     rcases Aq.1 hb with hb|hb
     ·exact Am _ (v2 b hb)
     ·exact Al _ hb) (Ak.2 ⟨v3,(Ak.1 q2.xnodup).2.1,fun b hb b' hb'=>(Ak.1 q2.xnodup).2.2 b (v2 b hb) b' hb'⟩)
    refine⟨y,us,hk2,⟨_,F',fp1,[.slice a0 hi.toNat cap],q2'.frzX (X':=fp1++X) (fz:=fz) ?_,fun b=>.inl,?_,w2 _ (fun b=>.inl) fun b=>.inr⟩,q4⟩
    ·refine(Az X w1).trans ?_;rw[Ae,Ae];exact Ay fp1 Aw
    ·rw[hval];exact b0c (c0c hl) (a1c rfl rfl (by simp))
   |_=>simp at hk1
  |_=>simp at hk1
 ·simp at hk
theorem b8r(hft:FtOK A P C)(hrel:Rel A P C B e a w Z F X)(hs:Sub r e){o:Operand}{t:Ty}{k:t.den→List Up→Option R}{res:R}(hk:asT0 C r o t k=some res) :
  ∃y us,k y us=some res∧Got A P C B e a w Z X r us (a.eval o) t y:=by
 unfold asT0 at hk;split at hk
 ·rename_i f;obtain⟨y,h1,h2,h3⟩:=d8o hft hrel.glob hk;exact⟨y,[],h1,b5z hrel hs h2 h3⟩
 ·split at hk
  ·exact⟨_,[],hk,b5z hrel hs d8k c1q⟩
  ·simp at hk
 ·rename_i i;split at hk
  ·rename_i hi;have hie:=a3r hs hi (by simp);have ho:=hrel.own i;rw[←hie,hi] at ho;split at hk
   ·exact⟨_,[],hk,b5z hrel hs (by rw[a5s,ho.2];exact d8k) c1q⟩
   ·simp at hk
  ·rename_i f hi;have hie:=a3r hs hi (by simp);have ho:=hrel.own i;rw[←hie,hi] at ho;obtain⟨y,h1,h2,h3⟩:=d8o hft hrel.glob hk;exact⟨y,[],h1,b5z hrel hs (by rw[a5s,ho.2];exact h2) h3⟩
  ·exact e5z hrel hs ‹_› hk
  ·exact c2z hrel hs hk
 ·exact c2z hrel hs hk
theorem c9c(hrel:Rel A P C B e a w Z F X)(hs:Sub r e){o:Operand}(hn:e2w r o=true):a.eval o=.slice none 0 0:=by
 unfold e2w at hn;split at hn
 ·rfl
 ·split at hn
  ·rename_i hi;have hie:=a3r hs hi (by simp);have ho:=hrel.own ‹_›;rw[←hie,hi] at ho;rw[a5s];exact ho.2
  ·cases hn
 ·cases hn
theorem a9b(hft:FtOK A P C)(hrel:Rel A P C B e a w Z F X)(hs:Sub r e){o:Operand}{t:Ty}{k:t.den→List Up→Option R}{res:R}(hk:asT C r o t k=some res) :
  ∃y us,k y us=some res∧Got A P C B e a w Z X r us (a.eval o) t y:=by
 unfold asT at hk;split at hk
 ·split at hk
  ·rename_i hn;exact⟨_,[],hk,b5z hrel hs (cs:=[.slice none 0 0]) (by rw[c9c hrel hs hn];exact a1c rfl rfl (by simp)) ⟨rfl,rfl⟩⟩
  ·exact b8r hft hrel hs hk
 ·split at hk
  ·rename_i hn;exact⟨_,[],hk,b5z hrel hs (cs:=[.slice none 0 0]) (by rw[c9c hrel hs hn];exact a1c rfl rfl (by simp)) ⟨rfl,.inl ⟨rfl,rfl⟩⟩⟩
  ·exact b8r hft hrel hs hk
  ·obtain⟨y,us,hk,⟨Z1,F1,fs,cs,g1,g2,g3,g4⟩,gs⟩:=b8r hft hrel hs hk;split at hk
   ·cases hk
   ·rename_i q0 l0 _;have g5:=g4;obtain⟨_,_,_,_,h5,_⟩:=g4;subst h5;exact⟨_,us,hk,⟨Z1,F1,[],cs,g1,g2,g3,f8f g5 (by simp)⟩,gs⟩
 ·exact b8r hft hrel hs hk
theorem b8u(hrel:Rel A P C B e a w Z F X)(hs:Sub r e){o:Operand}{want:Option Ty}{k:(t:Ty)→t.den→List Up→Option R}{res:R}(hk:anyT C r o want k=some res) :
  ∃t y us,k t y us=some res∧Got A P C B e a w Z X r us (a.eval o) t y:=by
 have hgo:∀{res:R},anyT.go r o k=some res→∃t y us,k t y us=some res∧Got A P C B e a w Z X r us (a.eval o) t y:=by
  intro res hk;unfold anyT.go at hk;obtain⟨t,x,org,hk,hv⟩:=a0v hrel hs hk;split at hk
  ·rename_i hp;obtain⟨cs,fp,h1,h2⟩:=a6d hrel hv;obtain rfl:=a1y h2 hp;exact⟨t,x,[],hk,b5z hrel hs h1 h2⟩
  ·obtain⟨us,F',fs,cs,q1,q2,q3,q4,q5⟩:=c0k hrel hs hv hk;exact⟨t,x,us,q1,⟨Z,F',fs,cs,q2,fun b=>id,q3,q4⟩,q5⟩
 unfold anyT at hk;split at hk
 ·split at hk
  ·exact⟨_,_,[],hk,b5z hrel hs d8k c1q⟩
  ·simp at hk
 ·rename_i i;split at hk
  ·rename_i hi;have hie:=a3r hs hi (by simp);have ho:=hrel.own i;rw[←hie,hi] at ho;split at hk
   ·exact⟨_,_,[],hk,b5z hrel hs (by rw[a5s,ho.2];exact d8k) c1q⟩
   ·simp at hk
  ·exact hgo hk
 ·exact hgo hk
end Go.Rb

namespace Go.Rb
variable {A:Amb} {P:Program} {Z Z':Nat→Prop} {h h':Array Obj} {R:Type} {C:Ctx} {w w':World}
def a8r(C:Ctx):List Field→Ty→Nat→Prop
 |[],.unit,_=>True
 |f::fs,.pair a b,o=>f.offset=o∧C.ty f.type=some a∧1≤a.size∧a8r C fs b (o+a.size)
 |_,_,_=>False
def a7i(P:Program)(C:Ctx):TypeDesc→Ty→Prop
 |.int k,.int k'=>k=k'
 |.bool,.bool=>True
 |.string,.str=>True
 |.slice el,.sl m e te=>m=.imm∧C.ty el=some te∧P.bytesOf el=e∧1≤e∧te.pure=true∧1≤te.size
 |.struct fs,.st p=>a8r C fs.toList p 0
 |.array n el,.arr m te=>n=m∧C.ty el=some te∧te.pure=true∧1≤te.size
 |.interface _,.err=>True
 |.func _ _ _,.fn _ _=>True
 |.func _ _ _,.fn2 _ _ _=>True
 |.func _ _ _,.lf (.cfs _)=>True
 |.map k el,.lf (.fmap l)=>P.underlying k=some (.int .i64)∧C.ty el=some (b6z l)
 |.pointer _,.ptr _=>True
 |_,_=>False
structure TyFact (P:Program) (C:Ctx) (t:TypeId) (ty:Ty):Prop where
 ex:∃i d,P.info? t=some i∧P.underlying t=some d∧i.size=ty.size∧a7i P C d ty∧∀z,zeroCells ty=some z→∃v,i.zero=some v∧VC ty v z
 eq : ty.eqOK = true → ∀ fs, P.underlying t = some (.struct fs) → P.stoodInHeld t = false ∧ P.eqGuardType P.depth t = false ∧ ∀ f, f ∈ fs.toList → f.name ≠ "_"
 pz:∀te,ty=.ptr te→∃i,P.info? t=some i∧i.zero=some (.pointer none)
def a3c(P:Program)(C:Ctx):Prop:=∀t ty,C.ty t=some ty→TyFact P C t ty
theorem a7i.agg{d:TypeDesc}{ty:Ty}(hk:a7i P C d ty):(match d with|.struct _|.array _ _=>true|_=>false)=ty.agg:=by
 cases d <;> cases ty <;> first|rfl|exact hk.elim
theorem TyFact.isAgg{t:TypeId}{ty:Ty}(ht:TyFact P C t ty)(w:World):(isAgg t).run P w=.ok ty.agg w:=by
 obtain⟨i,d,h1,h2,h3,h4,_⟩:=ht.ex;have:=h4.agg;unfold Go.isAgg;simp only[AK,run_underlying h2,AI];cases d <;> simp only[] at this <;> rw[←this] <;> rfl
theorem TyFact.sizeOf{t:TypeId}{ty:Ty}(ht:TyFact P C t ty)(w:World):(Go.sizeOf t).run P w=.ok ty.size w:=by
 obtain⟨i,d,h1,h2,h3,h4,_⟩:=ht.ex;simp[Go.sizeOf,typeInfo,h1,h3]
theorem Row.cell{ad:Addr}{n:Nat}{cs:List Value}(hr:Row w.heap ad n cs):∀j v,cs[j]?=some v→w.cell? (ad.add j)=some v:=by
 intro j v hj;obtain⟨h1,h2,c,el,fr,h3,h4⟩:=hr;have hjl:j<n:=by
  rcases BQ j n with h|h
  ·exact h
  ·rw[BW (by omega)] at hj;simp at hj
 unfold CO;split
 ·rename_i h0;subst h0;have:=h4 0 hjl;simp only[Ee] at this;simp[C5,h3,h1,this,hj]
 ·simp[C5,h3,h4 j hjl,hj]
theorem a7v{t:TypeId}{ty:Ty}(ht:TyFact P C t ty){ad:Addr}{cs:List Value}(hr:Row w.heap ad ty.size cs){v:Value}(hv:VC ty v cs) :
  (loadVar t ad).run P w=.ok v w:=by
 unfold loadVar;simp only[AK,ht.isAgg,AI];unfold VC at hv;split at hv
 ·rename_i ha;subst hv;have hl:cs.length=ty.size:=hr.2.1;have:=run_loadCells_list (P:=P) w ad cs (fun j v hj=>Row.cell hr j v hj);rw[hl] at this;simp[ha,ht.sizeOf,this]
 ·rename_i ha;have ha':ty.agg=false:=by simpa using ha
  obtain⟨rfl,_⟩:=hv;have:=Row.cell hr 0 v rfl;simp only[CO,if_true] at this;simp[ha',this]
theorem c3h{A:Amb}:∀{u:UV} {cs:List Value},RepC A u cs→∀v,v∈cs→v.oneCell'=true
 |.nil,_,hr,v,hv=>by obtain rfl:=hr;simp at hv;subst hv;rfl
 |.sent _,_,hr,v,hv=>by obtain⟨_,_,rfl,_⟩:=hr;simp at hv;subst hv;rfl
 |.int _ _,_,hr,v,hv=>by obtain rfl:=hr;simp at hv;subst hv;rfl
 |.str _,_,hr,v,hv=>by obtain⟨_,rfl,_⟩:=hr;simp at hv;subst hv;rfl
 |.bool _,_,hr,v,hv=>by obtain rfl:=hr;simp at hv;subst hv;rfl
 |.unit,_,hr,v,hv=>by obtain rfl:=hr;simp at hv
 |.pair p q,_,hr,v,hv=>by
  obtain⟨c1,c2,rfl,h1,h2⟩:=hr;rcases Aq.1 hv with hv|hv
  ·exact c3h h1 v hv
  ·exact c3h h2 v hv
 |.node _ _,_,hr,v,hv=>by obtain⟨_,rfl,_⟩:=hr;simp at hv;subst hv;rfl
theorem c1h{cs:List Value}{v:Value}{n sz:Nat}(hl:cs.length=n*sz)(hv:v∈cs):∃i,i<n∧v∈seg cs (i*sz) sz:=by
 obtain⟨j,hj,rfl⟩:=Bf hv;have hsz:0<sz:=by
  rcases Nat.eq_zero_or_pos sz with h|h
  ·subst h;rw[Nat.mul_zero] at hl;omega
  ·exact h
 refine⟨j / sz,(Nat.div_lt_iff_lt_mul hsz).2 (by omega),?_⟩;unfold seg;have h1:j / sz*sz≤j:=Nat.div_mul_le_self j sz;have h2:j - j / sz*sz<sz:=by
  have:=Nat.mod_lt j hsz;have:=Nat.div_add_mod j sz;rw[Nat.mul_comm] at this;omega
 refine List.mem_iff_getElem?.2 ⟨j - j / sz*sz,?_⟩;rw[List.getElem?_take_of_lt h2,Bg];rw[show j / sz*sz+(j - j / sz*sz)=j by omega];simp[hj]
theorem a5q:∀{t:Ty} {cs:List Value} {x:t.den} {fp:List Nat},Rep A P t Z h cs x fp→∀v,v∈cs→v.oneCell'=true
 |.int _,_,_,_,hr,v,hv=>by obtain⟨_,rfl,_⟩:=hr;simp at hv;subst hv;rfl
 |.bool,_,_,_,hr,v,hv=>by obtain⟨_,rfl⟩:=hr;simp at hv;subst hv;rfl
 |.str,_,_,_,hr,v,hv=>by obtain⟨_,s,rfl,_⟩:=hr;simp at hv;subst hv;rfl
 |.err,_,_,_,hr,v,hv=>c3h hr.2.1 v hv
 |.sl _ _ _,_,_,_,hr,v,hv=>by obtain⟨_,_,_,rfl,_⟩:=hr;simp at hv;subst hv;rfl
 |.slh _ _,_,_,_,hr,v,hv=>by obtain⟨_,_,_,_,_,rfl,_⟩:=hr;simp at hv;subst hv;rfl
 |.fn _ _,_,_,_,hr,v,hv=>by obtain⟨_,_,_,_,rfl,_⟩:=hr;simp at hv;subst hv;rfl
 |.fn2 _ _ _,_,_,_,hr,v,hv=>by obtain⟨_,_,_,_,rfl,_⟩:=hr;simp at hv;subst hv;rfl
 |.lf _,_,_,_,hr,v,hv=>by
  obtain⟨_,hr⟩:=hr;obtain⟨u,rfl,_,⟨f,rfl⟩|⟨a,n,m,rfl⟩|rfl|⟨r,rfl⟩⟩:=d9c hr <;> simp at hv <;> subst hv <;> rfl
 |.ptr _,_,_,_,hr,v,hv=>by obtain⟨_,_,_,rfl,_⟩:=hr;simp at hv;subst hv;rfl
 |.st t,_,_,_,hr,v,hv=>a5q (t:=t) hr v hv
 |.pair a b,_,_,_,hr,v,hv=>by
  obtain⟨c1,c2,f1,f2,rfl,_,h1,h2⟩:=hr;rcases Aq.1 hv with hv|hv
  ·exact a5q h1 v hv
  ·exact a5q h2 v hv
 |.unit,_,_,_,hr,v,hv=>by obtain⟨rfl,_⟩:=hr;simp at hv
 |.arr _ _,_,_,_,hr,v,hv=>by
  obtain⟨_,_,h1,h2,h3⟩:=hr;obtain⟨i,hi,hv⟩:=c1h h2 hv;exact a5q (h3 i (by omega)) v hv
theorem a6t{t:Ty}{v:Value}{cs:List Value}(hv:VC t v cs):v.cells.toList=cs:=by
 unfold VC at hv;split at hv
 ·subst hv;rfl
 ·obtain⟨rfl,hv⟩:=hv;cases v <;> first|rfl|exact absurd rfl (hv _)
theorem a2h:∀(ys:List Value) (i:Nat) (w:World) (ad:Addr) (c:Array Value),ad.spot=none→Blk w.heap ad.block c→ad.off+i+ys.length≤c.size→(∀v,v∈ys→v.oneCell'=true) →
  ∃w',(storeCells ad ys i).run P w=.ok () w'∧w'.os=w.os∧w'.output=w.output∧w'.tape=w.tape∧w'.drawn=w.drawn∧Wr w.heap w'.heap ⟨ad.block,ad.off+i,none⟩ ys
 |[],i,w,ad,c,hs,hb,hl,_=>by
  obtain⟨el,fr,h1,hle,h2⟩:=hb;exact⟨w,rfl,rfl,rfl,rfl,rfl,c,c,el,fr,rfl,h1,h1,by simp[a1d],by simpa using hl,fun _ _=>rfl,rfl⟩
 |v::ys,i,w,ad,c,hs,hb,hl,hv=>by
  have hb0:=hb;obtain⟨el,fr,h1,hle,h2⟩:=hb;simp only[Bd] at hl;have hadd:ad.add i=⟨ad.block,ad.off+i,none⟩:=by
   unfold CO;split
   ·rename_i h0;subst h0;cases ad;simp_all
   ·rfl
  have hc:w.cell? (ad.add i)=some (c[ad.off+i]'(by omega)):=by
   rw[hadd];simp[C5,h1]
  have hf:w.frozen? (ad.add i)=false:=by
   rw[hadd];simp only[World.frozen?,h1];have:=h2 (ad.off+i) (by omega);cases fr;simp at this ⊢;intro h;exact Nat.le_of_not_lt fun h'=>by have:=this h;omega
  have hb1:Blk (w.setCell (ad.add i) v).heap ad.block (c.setIfInBounds (ad.off+i) v):=by
   refine⟨el,fr,?_,hle,fun k hk=>h2 k (by simpa using hk)⟩;rw[hadd];simp only[Do,BT,h1];cases fr;simp
  obtain⟨w',r1,r2,r3,r4,r5,r6⟩:=a2h ys (i+1) (w.setCell (ad.add i) v) ad _ hs hb1 (by simp;omega) (fun v' hv'=>hv v' (AE _ hv'));refine⟨w',?_,r2,r3,r4,r5,?_⟩
  ·unfold storeCells;simp only[AK,run_store P w (ad.add i) v .plain (hv v (by simp)),hc,hf,Bool.false_eq_true,if_false,AI];exact r1
  ·obtain⟨c0,c',el',fr',g0,g1,g2,g3,g4,g5,g6⟩:=r6;obtain⟨el1,fr1,k1,_⟩:=hb1;simp only at g1;rw[k1] at g1;simp only[Ad,CM] at g1;obtain⟨rfl,rfl,rfl⟩:=g1;have hel:el1=el∧fr1=fr:=by
    rw[hadd] at k1;simp only[Do,BT,h1] at k1;cases fr;simp at k1;exact⟨k1.1.symm,k1.2.symm⟩
   obtain⟨rfl,rfl⟩:=hel;refine⟨c,c',el1,fr1,rfl,h1,g2,?_,by simp;omega,fun b hb=>?_,?_⟩
   ·rw[g3];simp only[Array.toList_setIfInBounds];unfold a1d;apply Dv;intro k;simp only[Dh,AV,Bg,A7,Ac,Bd,Bx,List.getElem?_set,AN,List.getElem?_cons]
    repeat' split
    all_goals first|omega|rfl|(congr 1;omega)|simp_all
   ·rw[g5 b hb,hadd];simp only[Do,BT];rw[if_neg (BM hb)]
   ·rw[g6,hadd];simp[Do]
theorem c7o{t:TypeId}{ty:Ty}(ht:TyFact P C t ty){ad:Addr}{c:Array Value}(hs:ad.spot=none)(hb:Blk w.heap ad.block c){v:Value}{ys:List Value}(hv:VC ty v ys)(hy:ys.length=ty.size)
  (hl:ad.off+ys.length≤c.size) (h1:∀v,v∈ys→v.oneCell'=true) :
  ∃w',(storeVar t ad v).run P w=.ok () w'∧w'.os=w.os∧w'.output=w.output∧w'.tape=w.tape∧w'.drawn=w.drawn∧Wr w.heap w'.heap ad ys:=by
 obtain⟨w',r1,r2,r3,r4,r5,r6⟩:=a2h ys 0 w ad c hs hb (by omega) h1;refine⟨w',?_,r2,r3,r4,r5,?_⟩
 ·unfold storeVar;have:=a6t hv;have hn:v.cells.size=ty.size:=by rw[←AN,this,hy]
  simp only[AK,ht.sizeOf,AI,hn,ne_eq,not_true,if_false,Sem.run_pure,this];exact r1
 ·cases ad;simp at hs;subst hs;exact r6
theorem a4m(el:TypeId)(cells:Array Value) :
  ∃w',(newRow el cells).run P w=.ok ⟨w.heap.size,0,none⟩ w'∧w'.os=w.os∧w'.output=w.output∧w'.tape=w.tape∧w'.heap.size=w.heap.size+1 ∧
   (∀b,b<w.heap.size→w'.heap[b]?=w.heap[b]?)∧BlkE 0 w'.heap w.heap.size cells:=by
 refine⟨{ w with heap:=w.heap.push (.cells cells el) },by simp[newRow],rfl,rfl,rfl,by simp,fun b hb=>?_,⟨el,(0,0),by simp,by simp⟩,fun _ c' el' fr' h=>?_⟩
 ·simp only[Array.getElem?_push];rw[if_neg (by omega)]
 ·simp at h;obtain⟨rfl,rfl,rfl⟩:=h;simp
theorem e3m{t:TypeId}{ty:Ty}(ht:TyFact P C t ty){z:List Value}(hz:zeroCells ty=some z):∃v,VC ty v z∧∀w,(zeroValue t).run P w=.ok v w:=by
 obtain⟨i,d,h1,_,_,_,h5⟩:=ht.ex;obtain⟨v,g1,g2⟩:=h5 z hz;exact⟨v,g2,fun w=>by simp[zeroValue,typeInfo,h1,g1]⟩
theorem a3t{x:List Value}{n i:Nat}(hi:i<n):seg (As n x).flatten (i*x.length) x.length=x:=by
 induction n generalizing i with
 |zero=>omega
 |succ n ih =>
  rw[List.replicate_succ,Bt];cases i with
  |zero=>rw[HU,a7q (by omega)];exact b1n rfl
  |succ i =>
   rw[AC,Nat.add_comm,a9j];exact ih (by omega)
theorem a6f:∀{t:Ty} {z:List Value},zeroCells t=some z→Rep A P t Z h z t.dflt []
 |.int k,z,hz=>by
  simp only[zeroCells,Ad] at hz;subst hz;exact⟨rfl,rfl,by cases k <;> decide,by cases k <;> decide⟩
 |.bool,z,hz=>by simp only[zeroCells,Ad] at hz;subst hz;exact⟨rfl,rfl⟩
 |.str,z,hz=>by simp only[zeroCells,Ad] at hz;subst hz;exact⟨rfl,⟨#[]⟩,rfl,rfl,by simp[ByteArray.size,room]⟩
 |.err,z,hz=>by simp only[zeroCells,Ad] at hz;subst hz;exact⟨rfl,rfl,_,rfl,by simp,rfl⟩
 |.sl _ _ _,z,hz=>by simp only[zeroCells,Ad] at hz;subst hz;exact c1q
 |.st t,z,hz=>a6f (t:=t) hz
 |.unit,z,hz=>by simp only[zeroCells,Ad] at hz;subst hz;exact⟨rfl,rfl⟩
 |.pair a b,z,hz=>by
  simp only[zeroCells] at hz;split at hz
  ·rename_i x y hx hy;simp only[Ad] at hz;subst hz;exact⟨x,y,[],[],rfl,rfl,a6f hx,a6f hy⟩
  ·simp at hz
 |.arr n t,z,hz=>by
  simp only[zeroCells] at hz;split at hz
  ·rename_i x hp hx;simp only[Ad] at hz;subst hz;have hr:Rep A P t Z h x t.dflt []:=a6f hx;have hl:=a1j hr;refine⟨rfl,hp,by simp[Ty.dflt],by simp[hl],fun i hi=>?_⟩;have hi':i<n:=by simpa[Ty.dflt] using hi
   rw[←hl,a3t hi'];simp only[Ty.dflt,List.getElem_replicate];exact hr
  ·simp at hz
 |.slh _ _,_,hz|.fn _ _,_,hz|.fn2 _ _ _,_,hz|.ptr _,_,hz=>by simp[zeroCells] at hz
 |.lf (.cfn _),_,hz|.lf .hnd,_,hz|.lf .nil0,_,hz|.lf .nlb,_,hz|.lf (.fmap _),_,hz=>by simp[zeroCells] at hz
 |.lf (.cfs l),z,hz=>by
  simp only[zeroCells] at hz;split at hz
  ·cases hz
  ·rename_i hn;cases hz;refine⟨rfl,?_⟩;show[Value.nilFunc]=[cfsV l 0];rw[d5n hn]
theorem a7e:∀{t:Ty} {z:List Value},zeroCells t=some z→zeroCells t.zero=some z
 |.sl _ _ _,z,hz=>hz
 |.st t,z,hz=>a7e (t:=t) hz
 |.pair a b,z,hz=>by
  simp only[zeroCells] at hz;split at hz
  ·rename_i x y hx hy;simp only[Ty.zero,zeroCells,a7e hx,a7e hy];exact hz
  ·simp at hz
 |.int _,_,hz|.bool,_,hz|.str,_,hz|.err,_,hz|.unit,_,hz|.arr _ _,_,hz|.lf _,_,hz=>hz
 |.slh _ _,_,hz|.fn _ _,_,hz|.fn2 _ _ _,_,hz|.ptr _,_,hz=>by simp[zeroCells] at hz
end Go.Rb
