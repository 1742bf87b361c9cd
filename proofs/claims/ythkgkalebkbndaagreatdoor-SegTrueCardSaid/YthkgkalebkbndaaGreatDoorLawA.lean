/- Kinds, names, tables of a seat. Printed by a program of our own. -/
import Derived.Test.YthkgkalebkbndaaGreatDoorRbE
import Derived.Test.YthkgkalebkbndaaGreatDoorRbI
import Derived.Test.YthkgkalebkbndaaGreatDoorChecked
import Derived.KernelRfl
import Derived.Eval
import Derived.WalkKit
import Derived.LaidEql
import Derived.Stop.Asserts
import Derived.RowKitTokens
import Derived.LoopN
import Derived.Laws.Externs
import Derived.Deep.Draws
import Derived.Deep.LoopGhost
import Derived.Lib.Bytealg
import Derived.Lib.Walk
import Derived.Shelf.RegionOpenPlain
import Derived.Shelf.SlLaysF0
import Derived.Shelf.SlSortCmp.NoneTotal
import Derived.Test.YthkgkalebkbndaaGreatDoorRbG
set_option autoImplicit false
set_option maxHeartbeats 4000000
set_option linter.unusedVariables false
set_option linter.unusedSimpArgs false
open Array renaming getElem?_eq_none->Bc,toArray_toList->Bx
open Go renaming rounds_succ->C4,run_callFunc_extern->A9,run_eql_iface_ptr_other->Gb,run_eql_iface_ptr_same->Gk,run_eql_iface_types->GF,wpList_nil->Fq,wp_loop_rounds->CD,wp_region_lit->DQ
open Go.Act renaming put->D3
open Go.Builtin renaming append_->B8
open Go.Ending renaming returned->C3
open Go.Extern.BytealgCompare renaming compare->FQ
open Go.Extern.ReflectliteType renaming abiMethod->FG,elem->FI,method->FH,typeOf->AR
open Go.Extern.ReflectliteValue renaming elem->F8,flagAddr->Db,isNil->Fz,method->Fx,mk->Fy,parts->Bp,set->Bw,unpack->Bg
open Go.Extern.Rtype renaming directlyAssignable->D8,elem?->Jp,implements->Jq,kind->EZ
open Go.IntKind renaming i64->Aa
open Go.Lib renaming compareBytes->Ce,run_eql_slice_nil->CL
open Go.Proofs.AnyQ renaming slices_SortFunc_eq->IQ
open Go.Proofs.SlLaysF0 renaming n6->Gz
open Go.Proofs.Tryz renaming f100->Ei,f112->Ek,f113->Ey,f158->Er,f162->Eo,f178->GQ,f179->GR,f180->GS,f181->Ej,f212->Es,f213->Ep,f214->Eu,f215->Et,f237->GX,f238->GY,f265->Ev,f266->Em,f267->Ew,f275->Ha,f276->Ex,f3->GP,f312->GZ,f316->Hc,f330->Hf,f331->Hh,f332->Hj,f333->Hl,f334->Hn,f335->Hp,f336->Hr,f337->Ht,f348->Hx,f349->H1,f350->H5,f355->H7,f372->GT,f377->Ez,f379->El,f384->GW,f385->IU,f386->GU,f387->GV,f395->E0,f397->E1,f399->E2,f401->E3,f403->E4,f405->E5,f407->E6,f409->E7,f411->E8,f48->EH,f93->EG,f96->EF,func197->He,func261->Hv,func262->Hw,func275->Hb,func307->Hz,func308->H0,func316->Hd,func330->Hg,func331->Hi,func332->Hk,func333->Hm,func334->Ho,func335->Hq,func336->Hs,func337->Hu,func348->Hy,func349->H4,func350->H6,func355->H8,isAgg0->HB,isAgg140->Iy,isAgg150->I6,isAgg225->Ii,isAgg227->Im,isAgg297->IE,isAgg3->HJ,isAgg322->Iq,isAgg323->Iu,isAgg329->I2,isAgg33->IS,isAgg354->IA,isAgg382->II,isAgg383->IM,isAgg4->HN,isAgg5->HT,isAgg61->Ie,isAgg9->HZ,prog->DI,sizeOf0->HD,sizeOf140->Iz,sizeOf150->I7,sizeOf225->Ij,sizeOf227->In,sizeOf297->IF,sizeOf3->HK,sizeOf322->Ir,sizeOf323->Iv,sizeOf329->I3,sizeOf33->IT,sizeOf354->IB,sizeOf382->IJ,sizeOf383->IN,sizeOf4->HO,sizeOf5->HU,sizeOf61->If,sizeOf9->Ia,underlying0->H9,underlying140->Ix,underlying150->I5,underlying225->Ih,underlying227->Il,underlying297->ID,underlying3->HI,underlying322->Ip,underlying323->It,underlying329->I1,underlying354->I9,underlying382->IH,underlying383->IL,underlying4->HM,underlying5->HQ,underlying61->Ic,underlying9->HY,zeroValue0->HH,zeroValue140->I0,zeroValue150->I8,zeroValue225->Ik,zeroValue227->Io,zeroValue297->IG,zeroValue3->HL,zeroValue322->Is,zeroValue323->Iw,zeroValue329->I4,zeroValue354->IC,zeroValue382->IK,zeroValue383->IP,zeroValue4->HP,zeroValue5->HW,zeroValue61->Ig,zeroValue9->Ib
open Go.Result renaming andThen->BV
open Go.RowKit.Below renaming refl->BA
open Go.Sem renaming run->Dy,run_bind->AG
open Go.Value renaming cells->Ch
open Go.World renaming cell?->By,cell?_alloc_lt->Bv,cell?_setCell_other->BP,frozen?_alloc_old->BW,frozen?_setCell->Cl
open Int renaming sub_zero->Jk
open List renaming length_append->Ap,setIfInBounds_toArray->Be,set_cons_succ->B4,set_cons_zero->B5
open List.cons renaming injEq->AB
open Nat renaming add_zero->CC,le_refl->Av,lt_or_ge->AY,ne_of_lt->DC
open Option renaming map_eq_some_iff->AX
namespace Go.Rb.R5
open Go.Rb
abbrev V4:Type:=Int×Int×List Int×Unit
abbrev tI:Ty:=.int .i64
abbrev tB:Ty:=.int .u8
abbrev tU:Ty:=.int .u64
abbrev kq0:Ty:=.st (.pair tI (.pair tI (.pair .str .unit)))
abbrev kq17:Ty:=.sl .imm 8 tI
abbrev kq8:Ty:=.st (.pair tI (.pair kq0 (.pair kq0 .unit)))
abbrev kq5:Ty:=.sl .imm 32 kq0
abbrev kq14:Ty:=.sl .imm 24 kq5
abbrev kq1:Ty:=.st (.pair tI (.pair tI (.pair tI (.pair kq17 (.pair kq17 (.pair (.sl .imm 72 kq8) (.pair kq14 .unit)))))))
abbrev kq16:Ty:=.st (.pair tI (.pair .str (.pair tI .unit)))
abbrev kq7:Ty:=.st (.pair (.sl .imm 32 kq16) (.pair tI .unit))
abbrev kq15:Ty:=.st (.pair tI (.pair tI (.pair tI (.pair kq17 .unit))))
abbrev kq23:Ty:=.st (.pair tI (.pair tI .unit))
abbrev kq6:Ty:=.sl .imm 40 (.st (.pair kq23 (.pair tI (.pair tI (.pair tI .unit)))))
abbrev kq12:Ty:=.st (.pair tI (.pair tI (.pair .str (.pair tI (.pair kq0 (.pair tB (.pair tI .unit)))))))
abbrev kq2:Ty:=.st (.pair tI (.pair kq7 (.pair kq15 (.pair kq14 (.pair kq6 (.pair .bool (.pair kq12 (.pair kq7 (.pair kq15 (.pair kq6 (.pair tI (.pair tI .unit))))))))))))
abbrev kq3:Ty:=.st (.pair tI (.pair tI (.pair tI (.pair (.sl .own 8 tI) (.pair (.sl .own 8 tI) (.pair (.sl .own 72 kq8) (.pair (.sl .own 24 kq5) .unit)))))))
abbrev kq4:Ty:=.sl .imm 1 tB
abbrev kq9:Ty:=.sl .own 1 tB
abbrev kq10:Ty:=.st (.pair kq4 (.pair tI .unit))
abbrev kq11:Ty:=.sl .own 32 kq0
abbrev kq13:Ty:=.st (.pair .str (.pair .err .unit))
abbrev kq18:Ty:=.sl .imm 1 .bool
abbrev kq19:Ty:=.st (.pair tI (.pair .bool .unit))
abbrev kq20:Ty:=.st (.pair tI (.pair kq2 (.pair kq14 (.pair tI (.pair kq6 (.pair kq6 (.pair kq12 .unit)))))))
abbrev kq21:Ty:=.st (.pair (.sl .own 32 kq16) (.pair tI .unit))
abbrev kq22:Ty:=.sl .own 8 tU
abbrev Dq0:Type:=Int×Int×List Int×Unit
abbrev Dq7:Type:=Int×Dq0×Dq0×Unit
abbrev Dq1:Type:=Int×Int×Int×List Int×List Int×List Dq7×List (List Dq0)×Unit
abbrev Dq2:Type:=Bool×Unit
abbrev Dq3:Type:=List Int×Unit
abbrev Dq4:Type:=List Int×Bool×Unit
abbrev Dq5:Type:=Int×Unit
abbrev Dq6:Type:=List Int×Int×Unit
abbrev Dq8:Type:=(List Dq0)×Unit
abbrev Dq9:Type:=(List Dq0)×Bool×Unit
abbrev Dq18:Type:=Int×List Int×Int×Unit
abbrev Dq10:Type:=List Dq18×Int×Unit
abbrev Dq11:Type:=Int×Int×Bool×Unit
abbrev Dq12:Type:=Int×Bool×Unit
abbrev Dq13:Type:=(List Dq0)×UV×Unit
abbrev Dq14:Type:=(List (List Dq0))×Unit
abbrev Dq15:Type:=(Dq1×Bool×Unit)×(Unit)
abbrev Dq16:Type:=(Dq0×Int×UV×Unit)×(Unit)
abbrev Dq17:Type:=(List Dq0)×Int×Bool×Unit
abbrev Dq19:Type:=List Int×UV×Unit
abbrev a1z:Nat:=7
abbrev a1y:Nat:=8
abbrev a1e:Nat:=9
abbrev a3d:Nat:=10
abbrev a3y:Nat:=11
abbrev b2k:Nat:=12
abbrev a4p:Nat:=13
abbrev a3o:Nat:=15
abbrev a2t:Nat:=16
abbrev a5c:Nat:=158
abbrev f4u:Nat:=173
abbrev c0u:Nat:=244
abbrev e0w:Nat:=319
abbrev a4c:Nat:=362
abbrev a4h:Nat:=366
abbrev a2w:Nat:=370
abbrev a7a:Nat:=372
abbrev a8g:Nat:=374
abbrev a8p:Nat:=386
abbrev a6v:Nat:=398
abbrev c0z:Nat:=408
def tys:List (Nat×Ty):=[(2,tI),(3,tI),(4,.bool),(5,tB),(9,.str),(20,.err),(22,kq4),(24,(.sl .imm 32 kq16)),(26,kq7),(27,kq17),(29,kq15),(30,kq14),(31,kq6),(33,kq0),(35,kq12),(37,kq2),(45,kq20),(46,kq20),(49,(.sl .imm 16 kq23)),(53,kq23),(55,(.int .u16)),(57,(.sl .imm 24 kq4)),(61,kq5),(62,kq5),(64,(.st (.pair kq23 (.pair tI (.pair tI (.pair tI .unit)))))),(66,(.sl .imm 72 kq8)),(67,kq14),(69,kq1),(73,(.sl .imm 120 kq1)),(83,(.arr 4 (.int .u16))),(84,(.arr 4 tB)),(86,(.arr 3 (.int .u16))),(87,(.arr 3 tB)),(90,kq8),(101,.err),(123,(.st (.pair kq4 .unit))),(134,kq19),(135,(.sl .imm 16 kq19)),(137,kq16),(150,tU),(158,(.st (.pair tI .unit))),(167,kq10),(173,kq13),(183,(.sl .imm 24 kq6)),(206,(.st (.pair kq4 (.pair .bool .unit)))),(227,tU),(228,kq18),(230,(.lf (.cfs [(1,217),(2,219),(3,221),(4,223),(5,225)]))),(231,(.lf (.cfs [(1,218),(2,220),(3,222),(4,224),(5,226)]))),(233,(.st (.pair (.lf (.cfs [(1,217),(2,219),(3,221),(4,223),(5,225)])) (.pair (.lf (.cfs [(1,218),(2,220),(3,222),(4,224),(5,226)])) .unit)))),(234,(.lf (.fmap [(1,217,218),(2,219,220),(3,221,222),(4,223,224),(5,225,226)]))),(244,(.st (.pair tI (.pair .err .unit)))),(263,kq17),(264,(.sl .imm 16 .str)),(268,(.st (.pair kq7 (.pair kq15 (.pair kq12 (.pair tI .unit)))))),(297,(.ptr tI)),(298,(.sl .imm 8 (.ptr tI))),(306,(.sl .imm 8 tU)),(319,kq13),(329,(.int .u32)),(339,(.ptr kq0)),(340,(.sl .imm 8 (.ptr kq0))),(354,tU),(362,kq13),(366,kq13),(370,kq13),(372,kq13),(374,kq13),(386,kq13),(396,(.int .i16)),(398,kq13),(408,kq13),(413,(.ptr (.st (.pair .str .unit)))),(432,(.st (.pair .str .unit)))]
def gls:Nat→Option ((t:Ty)×t.den):=find? [(7,⟨.err,(UV.sent a1z)⟩),(8,⟨.err,(UV.sent a1y)⟩),(9,⟨.err,(UV.sent a1e)⟩),(10,⟨.err,(UV.sent a3d)⟩),(11,⟨.err,(UV.sent a3y)⟩),(12,⟨.err,(UV.sent b2k)⟩),(13,⟨.err,(UV.sent a4p)⟩),(15,⟨.err,(UV.sent a3o)⟩),(16,⟨.err,(UV.sent a2t)⟩)]
noncomputable abbrev P:Program:=DI
set_option maxRecDepth 100000
theorem mixed:P.follows .mixedOrders=true:=Go.Proofs.Tryz.checked.mixed
theorem tab{C:Ctx}(h:C.ty=find? tys):a3q P C:=g7z (by kernel_rfl) h
def cH:Ctx:=⟨0,find? tys,fun _=>none,gls,[],[],[]⟩
abbrev tyV(t:Nat):Value:=.pointer (some ⟨17,t,none⟩)
abbrev HA(A:Amb):Prop:=(∀g T a,A.sent g=some (T,a)→T=413)∧A.raw=[(1,.iface 272 (.agg #[tyV 101]))]
abbrev TL:=Nat→List (Nat×FEnt)
def en(f:Nat)(s:Sig)(G:Nat→s.arg→Option s.res)(l:TL):TL:=fun n=>(f,⟨s,G n⟩)::l n
noncomputable def fnOf(f:Nat):Func:=(P.funcs[f]?).getD GP
theorem g8g{A:Amb}:∀{l' l:List (Nat×FEnt)},c0d A P cH l'→c0d A P cH l→c0d A P cH (l'++l)
 |[],_,_,h=>h
 |_::_,_,h',h=>⟨h'.1,g8g h'.2 h⟩
theorem mkV{A:Amb}{f:Nat}{s:Sig}{G:Nat→s.arg→Option s.res}{l:TL}(n:Nat)(l':List (Nat×FEnt))(h':c0d A P cH l')(hc:f3d P f=true)
  (fz el:List Nat) (hs:Hints) (he:d2t ⟨(fnOf f).ntmps,find? tys,find? (l'++l n),gls,[],fz,el⟩ hs n (fnOf f) s=G n) (h:c0d A P cH (l n)):c3v A P cH (f,⟨s,G n⟩):=by
 have hl:c0d A P cH (l'++l n):=g8g h' h;have hf:P.funcs[f]?=some (fnOf f):=by
  obtain⟨fn,h1,_⟩:=a3a hc;rw[fnOf,h1];rfl
 exact⟨a3a hc,(e1y (C:=⟨(fnOf f).ntmps,find? tys,find? (l'++l n),gls,[],fz,el⟩) mixed (tab rfl) (g8q rfl (c0d.of (C:=cH) (C':=⟨(fnOf f).ntmps,find? tys,find? (l'++l n),gls,[],fz,el⟩) rfl hl)) hf fun x y hx=>(congrFun he x).trans hx).of rfl⟩
structure AH where
 a:Amb
 h:HA a
abbrev Ft(A:AH)(n:Nat)(l:TL):Prop:=c0d A.a P cH (l n)
theorem mkH{A:AH}{f:Nat}{s:Sig}{G:Nat→s.arg→Option s.res}{l:TL}(n:Nat)(hc:f3d P f=true)(fz el:List Nat)(hs:Hints)
  (he:d2t ⟨(fnOf f).ntmps,find? tys,find? (l n),gls,[],fz,el⟩ hs n (fnOf f) s=G n) (h:Ft A n l):Ft A n (en f s G l):=⟨mkV n [] trivial hc fz el hs he h,h⟩
theorem mkF{A:AH}{f:Nat}{s:Sig}{G:Nat→s.arg→Option s.res}{l:TL}(n:Nat)(hc:f3d P f=true)(fz:List Nat)
  (he:d2t ⟨(fnOf f).ntmps,find? tys,find? (l n),gls,[],fz,[]⟩ ⟨[],[],[],[]⟩ n (fnOf f) s=G n) (h:Ft A n l):Ft A n (en f s G l):=mkH n hc fz [] _ he h
theorem mkG{A:AH}{f:Nat}{s:Sig}{G:Nat→s.arg→Option s.res}{l:TL}(n:Nat)(hc:f3d P f=true)
  (he:d2t ⟨(fnOf f).ntmps,find? tys,find? (l n),gls,[],[],[]⟩ ⟨[],[],[],[]⟩ n (fnOf f) s=G n) (h:Ft A n l):Ft A n (en f s G l):=mkH n hc [] [] _ he h
end Go.Rb.R5

namespace Go.Rb.R5
open Go.Rb
open Go.RowKit Go.Extern.Stop Go.Stop
set_option maxRecDepth 100000
theorem g3q:P.funcs[100]?=some Ei:=by kernel_rfl
theorem g3t:Ei.ntmps=42:=by kernel_rfl
theorem g3v:P.funcs[181]?=some Ej:=by kernel_rfl
theorem g4g:Ej.ntmps=62:=by kernel_rfl
theorem f9z:P.funcs[178]?=some GQ:=by kernel_rfl
theorem g9t:P.funcs[179]?=some GR:=by kernel_rfl
theorem g9j:P.funcs[180]?=some GS:=by kernel_rfl
theorem g7w:P.funcs[372]?=some GT:=by kernel_rfl
theorem g9s:P.funcs[386]?=some GU:=by kernel_rfl
theorem h0a:P.funcs[387]?=some GV:=by kernel_rfl
theorem g3o:P.funcs[112]?=some Ek:=by kernel_rfl
theorem g3u:P.funcs[384]?=some GW:=by kernel_rfl
theorem g4k:P.funcs[237]?=some GX:=by kernel_rfl
theorem g3p:P.funcs[238]?=some GY:=by kernel_rfl
abbrev VP(a:Addr):Value:=.agg #[tyV 160,.pointer (some a),.int .u64 150]
abbrev VF(a:Addr):Value:=.agg #[tyV 158,.pointer (some a),.int .u64 153]
abbrev VG(a:Addr):Value:=.agg #[tyV 158,.pointer (some a),.int .u64 409]
def g7c:Array Value→Sem Value:=FG fun t=>do pure (.int .u8 (←EZ t))
def g8i:Array Value→Sem Value:=FH FI
def g9p : Array Value → Sem Value := Extern.ReflectliteType.relation "Implements" Extern.ReflectliteType.implements_
def g1o : Array Value → Sem Value := Extern.ReflectliteType.relation "AssignableTo" Extern.ReflectliteType.assignableTo
def g8x : Array Value → Sem Value := Extern.ReflectliteValue.methodAny (Extern.ReflectliteValue.valueError "reflectlite.Value.Type" 0) (fun t _ _ _ => Extern.ReflectliteType.toType t)
theorem h1e(t:Addr)(w:World):(Bg (.iface 160 (.pointer (some t)))).run P w=.ok (VP ⟨w.heap.size,0,none⟩) (w.alloc (.cells #[.pointer (some t)] 160)):=by kernel_rfl
theorem g7d(a:Addr)(w:World):(g8x #[VP a]).run P w=.ok (.iface 272 (.agg #[tyV 160])) w:=by kernel_rfl
theorem g6f (h : Value) (w : World) : (Go.method 543 272 (.agg #[h]) "Kind").run P w = .ok (372, h) w := by kernel_rfl
theorem g4z (h : Value) (w : World) : (Go.method 543 272 (.agg #[h]) "Elem").run P w = .ok (386, .agg #[h]) w := by kernel_rfl
theorem g5q (h : Value) (w : World) : (Go.method 543 272 (.agg #[h]) "Implements").run P w = .ok (387, .agg #[h]) w := by kernel_rfl
theorem g4h (h : Value) (w : World) : (Go.method 543 272 (.agg #[h]) "AssignableTo").run P w = .ok (384, .agg #[h]) w := by kernel_rfl
theorem g6q(w:World):(g7c #[tyV 160]).run P w=.ok (.int .u8 22) w:=by kernel_rfl
theorem g5j(w:World):(g7c #[tyV 158]).run P w=.ok (.int .u8 25) w:=by kernel_rfl
theorem g7s(w:World):(g8i #[.agg #[tyV 160]]).run P w=.ok (.iface 272 (.agg #[tyV 158])) w:=by kernel_rfl
theorem g6x(w:World):(g9p #[.agg #[tyV 158],.iface 272 (.agg #[tyV 101])]).run P w=.ok (.bool true) w:=by kernel_rfl
theorem e3x(v:Value)(w:World):(AR #[.iface 158 v]).run P w=.ok (.iface 272 (.agg #[tyV 158])) w:=by kernel_rfl
theorem g3w(w:World):(g1o #[.agg #[tyV 158],.iface 272 (.agg #[tyV 158])]).run P w=.ok (.bool true) w:=by kernel_rfl
theorem g8y(x:Value)(w:World):(Bg (.iface 158 x)).run P w=.ok (VF ⟨w.heap.size,0,none⟩) (w.alloc (.cells x.cells 158)):=by kernel_rfl
theorem f1i(z:Sem Value)(f:TypeId→Addr→Nat→Nat→Sem Value)(v:Value) :
  Fx z f #[v]=(do match ←Bp v with|none=>z|some (t,a,fl)=>f t a fl (fl % 32)):=rfl
theorem f2b(a:Addr)(w:World):(Bp (VP a)).run P w=.ok (some (160,a,150)) w:=by kernel_rfl
theorem g0t(a:Addr)(w:World):(Bp (VF a)).run P w=.ok (some (158,a,153)) w:=by kernel_rfl
theorem g1w(a:Addr)(w:World):(Bp (VG a)).run P w=.ok (some (158,a,409)) w:=by kernel_rfl
theorem g4p(w:World):(isAgg 160).run P w=.ok false w:=by kernel_rfl
theorem g4n(w:World):(isAgg 158).run P w=.ok true w:=by kernel_rfl
theorem f5z(w:World):(sizeOf 158).run P w=.ok 1 w:=by kernel_rfl
theorem g3x:P.underlying 160=some (.pointer 158):=by kernel_rfl
theorem g0s(w:World):(Jp 160).run P w=.ok (some 158) w:=by kernel_rfl
theorem asMk(p:Addr)(w:World):(Fy 158 p Db).run P w=.ok (VG p) w:=by kernel_rfl
theorem g1n(w:World):(D8 158 158).run P w=.ok true w:=by kernel_rfl
def g4w : Array Value → Sem Value := Extern.ReflectliteValue.method (Extern.ReflectliteValue.valueError "reflectlite.Value.IsNil" 0) Extern.ReflectliteValue.isNil
def f9r : Array Value → Sem Value := Extern.ReflectliteValue.method (Extern.ReflectliteValue.valueError "reflectlite.Value.Elem" 0) Extern.ReflectliteValue.elem
theorem h2a(a p:Addr)(W:World)(ha:W.cell? a=some (.pointer (some p))):(g4w #[VP a]).run P W=.ok (.bool false) W:=by
 rw[g4w,f1i];simp only[AG,f2b,BV];simp[Fz,loadVar,g4p,underlying,g3x,ha,BV]
theorem f9b(a p:Addr)(W:World)(ha:W.cell? a=some (.pointer (some p))):(f9r #[VP a]).run P W=.ok (VG p) W:=by
 rw[f9r,f1i];simp only[AG,f2b,BV];simp[F8,loadVar,g4p,underlying,g3x,ha,BV,g0s,asMk]
theorem g9b(v x:Value):Bw #[v,x]=(do
  let(some (dst,a,fl),some (src,b,_)):=(←Bp v,←Bp x)
   | unsupported (.noEntry "extern/(internal/reflectlite.Value).Set.zeroValue")
  if fl / Extern.ReflectliteValue.flagAddr % 2 == 0 then unsupported (.noEntry "extern/(internal/reflectlite.Value).Set.unaddressable")
  let val ←loadVar src b
  if ←D8 dst src then storeVar dst a val
  else if ←Jq dst src then
   if(←EZ src)==20 then
    match val with
    | .nilIface => unsupported (.noEntry "extern/reflectlite: a nil value of one interface type handed on as a value of another")
    |_=>storeVar dst a val
   else storeVar dst a (.iface src val)
  else panicString ("reflectlite.Set: value of type " ++ (← Extern.Rtype.spelt src) ++ " is not assignable to type " ++ (← Extern.Rtype.spelt dst))
  pure (.tuple #[])):=rfl
theorem h2t(ta b:Addr)(n:Int)(old:Value)(W:World)(hb:W.cell? b=some (.int .i64 n))(ht:W.cell? ta=some old)(hf:W.frozen? ta=false) :
  (Bw #[VG ta,VF b]).run P W=.ok (.tuple #[]) (W.setCell ta (.int .i64 n)):=by
 rw[g9b];simp only[AG,g1w,g0t,BV];have hl:(loadVar 158 b).run P W=.ok (.agg #[.int .i64 n]) W:=by
  simp[loadVar,g4n,f5z,loadCells,loadCellsFrom,hb,Addr.add,BV]
 simp[Db,hl,BV,g1n,storeVar,g4n,f5z,Ch,storeCells,Addr.add];rw[run_store P W ta _ _ (by rfl)];simp[ht,hf]
theorem g7u(t:Value)(w:World):Calls P 100 #[.nilIface,t] w fun e w'=>e=.returned (.bool false)∧w'=w:=by
 go_enter g3q,g3t
 go_wp2
 go_ret
 exact⟨rfl,rfl⟩
theorem g9i:P.funcs[379]?=some El:=by kernel_rfl
theorem h0c:El.ntmps=5:=by kernel_rfl
theorem g8a (v : Value) (w : World) : (Go.method 543 244 v "Unwrap").run P w = .ok (379, v) w := by kernel_rfl
theorem f7u(v:Value)(w:World):(AR #[.iface 244 v]).run P w=.ok (.iface 272 (.agg #[tyV 244])) w:=by kernel_rfl
theorem g7x(w:World):(g1o #[.agg #[tyV 244],.iface 272 (.agg #[tyV 158])]).run P w=.ok (.bool false) w:=by kernel_rfl
theorem g5p:d3f P 244 312=true:=by kernel_rfl
theorem h0i:hasB P 244 277=true:=by kernel_rfl
theorem h0e(c:Value)(v:Value)(w:World)(hc:c.oneCell'=true)(hv:v.oneCell'=true):Calls P 379 #[.agg #[c,v]] w fun e w'=>e=.returned v∧Below w.heap.size w w':=by
 go_enter g9i,h0c
 go_wp2
 go_ret
 exact⟨rfl,(BA _ w).alloc (Av _) _⟩
theorem g4i{k:Nat}{w W:World}{t a b:Addr}{n:Int}{old:Value}(hB:Below k w W)(hk:k≤W.heap.size)(hkt:k≤t.block)(hb:b=⟨W.heap.size,0,none⟩)(ht:W.cell? t=some old)(hf:W.frozen? t=false) :
  ∃W1,W1=W.alloc (.cells #[.int .i64 n] 158)∧(Bw #[VG t,VF b]).run P W1=.ok (.tuple #[]) (W1.setCell t (.int .i64 n))∧Below k w (W1.setCell t (.int .i64 n)):=by
 have htl:t.block<W.heap.size:=by
  rcases AY t.block W.heap.size with h|h
  ·exact h
  ·simp[By,Bc h] at ht
 refine⟨_,rfl,h2t t b n old _ (by rw[hb];simp) (by rw[Bv _ _ t htl];exact ht) (by rw[BW _ _ t (DC htl)];exact hf),(hB.alloc hk _).setCell hkt _⟩
theorem g7h(k:Nat)(t a:Addr)(n:Int)(x:Value)(hx0:x.cells=#[.int .i64 n])(old:Value)(w:World)(hk:k≤w.heap.size)(hkt:k≤t.block)(ha:w.cell? a=some (.pointer (some t)))(ht:w.cell? t=some old)(hf:w.frozen? t=false) :
  Calls P 181 #[.iface 158 x,.iface 160 (.pointer (some t)),VP a,.iface 272 (.agg #[tyV 158])] w fun e w'=>e=.returned (.bool true)∧Below k w w':=by
 have h10:=@A9 P 112 _ AR g3o (by kernel_rfl) (by kernel_rfl) (by kernel_rfl) (by kernel_rfl);have h35:=@A9 P 384 _ g1o g3u (by kernel_rfl) (by kernel_rfl) (by kernel_rfl) (by kernel_rfl);have h11:=@A9 P 237 _ f9r g4k (by kernel_rfl) (by kernel_rfl) (by kernel_rfl) (by kernel_rfl);have h6:=@A9 P 178 _ (fun args=>Bg (args.getD 0 (.tuple #[]))) f9z (by kernel_rfl) (by kernel_rfl) (by kernel_rfl) (by kernel_rfl);have h12:=@A9 P 238 _ Bw g3p (by kernel_rfl) (by kernel_rfl) (by kernel_rfl) (by kernel_rfl);have tO:=e3x;have mA:=g4h;have aF:=g3w;have vF:∀w:World,(Bg (.iface 158 x)).run P w=.ok (VF ⟨w.heap.size,0,none⟩) (w.alloc (.cells #[.int .i64 n] 158)):=fun w=>by rw[g8y,hx0]
 have hal:a.block<w.heap.size:=by
  rcases AY a.block w.heap.size with h|h
  ·exact h
  ·simp[By,Bc h] at ha
 have htl:t.block<w.heap.size:=by
  rcases AY t.block w.heap.size with h|h
  ·exact h
  ·simp[By,Bc h] at ht
 obtain⟨Wx,rfl,st,hB⟩:=g4i (w:=w) (W:=w.alloc (.cells #[tyV 160,.pointer (some a),.int .u64 150] 248)) (t:=t) (a:=a) (b:=⟨w.heap.size+1,0,none⟩) (n:=n) (old:=old) ((BA k w).alloc hk _) (by simp;omega) hkt (by simp) (by rw[Bv _ _ t htl];exact ht) (by rw[BW _ _ t (DC htl)];exact hf);have el:=f9b a t (w.alloc (.cells #[tyV 160,.pointer (some a),.int .u64 150] 248)) (by rw[Bv _ _ a hal];exact ha)
 go_enter g3v,g4g
 go_wp2
 refine CD 1 ?_;rw[C4]
 go_wp2
 go_ret
 exact⟨rfl,hB⟩
theorem g8f(k:Nat)(t a:Addr)(c:Value)(n:Int)(x:Value)(hx0:x.cells=#[.int .i64 n])(old:Value)(w:World)(hc:c.oneCell'=true)(hk:k≤w.heap.size)(hkt:k≤t.block)(ha:w.cell? a=some (.pointer (some t)))(ht:w.cell? t=some old)(hf:w.frozen? t=false) :
  Calls P 181 #[.iface 244 (.agg #[c,.iface 158 x]),.iface 160 (.pointer (some t)),VP a,.iface 272 (.agg #[tyV 158])] w fun e w'=>e=.returned (.bool true)∧Below k w w':=by
 have h10:=@A9 P 112 _ AR g3o (by kernel_rfl) (by kernel_rfl) (by kernel_rfl) (by kernel_rfl);have h35:=@A9 P 384 _ g1o g3u (by kernel_rfl) (by kernel_rfl) (by kernel_rfl) (by kernel_rfl);have h11:=@A9 P 237 _ f9r g4k (by kernel_rfl) (by kernel_rfl) (by kernel_rfl) (by kernel_rfl);have h6:=@A9 P 178 _ (fun args=>Bg (args.getD 0 (.tuple #[]))) f9z (by kernel_rfl) (by kernel_rfl) (by kernel_rfl) (by kernel_rfl);have h12:=@A9 P 238 _ Bw g3p (by kernel_rfl) (by kernel_rfl) (by kernel_rfl) (by kernel_rfl);have tO:=e3x;have tI:=f7u;have mA:=g4h;have aF:=g3w;have aI:=g7x;have vF:∀w:World,(Bg (.iface 158 x)).run P w=.ok (VF ⟨w.heap.size,0,none⟩) (w.alloc (.cells #[.int .i64 n] 158)):=fun w=>by rw[g8y,hx0]
 have nL:=a3m g5p;have nH:=c8e h0i;have mU:=g8a;have hal:a.block<w.heap.size:=by
  rcases AY a.block w.heap.size with h|h
  ·exact h
  ·simp[By,Bc h] at ha
 have htl:t.block<w.heap.size:=by
  rcases AY t.block w.heap.size with h|h
  ·exact h
  ·simp[By,Bc h] at ht
 have fin:∀W':World,Below (w.heap.size+1) (w.alloc (.cells #[tyV 160,.pointer (some a),.int .u64 150] 248)) W' →
   (f9r #[VP a]).run P W'=.ok (VG t) W'∧(Bw #[VG t,VF ⟨W'.heap.size,0,none⟩]).run P (W'.alloc (.cells #[.int .i64 n] 158))=.ok (.tuple #[]) ((W'.alloc (.cells #[.int .i64 n] 158)).setCell t (.int .i64 n)) ∧
   Below k w ((W'.alloc (.cells #[.int .i64 n] 158)).setCell t (.int .i64 n))∧W'.cell? ⟨w.heap.size,0,none⟩=some (tyV 160)∧W'.cell? ⟨w.heap.size,1,none⟩=some (.pointer (some a))∧W'.cell? ⟨w.heap.size,2,none⟩=some (.int .u64 150):=by
  intro W' hB';have hs:=hB'.size;simp at hs;obtain⟨Wx,rfl,st,hB⟩:=g4i (k:=k) (w:=w) (W:=W') (t:=t) (a:=a) (b:=⟨W'.heap.size,0,none⟩) (n:=n) (old:=old) (((BA k w).alloc hk _).trans (hB'.mono (by omega))) (by omega) hkt rfl (by rw[hB'.cell (by omega),Bv _ _ t htl];exact ht) (by rw[hB'.frozen (by omega),BW _ _ t (DC htl)];exact hf);exact⟨f9b a t W' (by rw[hB'.cell (by omega),Bv _ _ a hal];exact ha),st,hB,by rw[hB'.cell (by simp)];simp,by rw[hB'.cell (by simp)];simp,by rw[hB'.cell (by simp)];simp⟩
 have hu:=h0e c (.iface 158 x) (w.alloc (.cells #[tyV 160,.pointer (some a),.int .u64 150] 248)) hc rfl
 go_enter g3v,g4g
 go_wp2
 refine CD 2 ?_;rw[C4]
 go_wp2_with (go_at_call 379;refine hu.mono ?_;rintro e w' ⟨rfl,hx⟩;obtain⟨el,st,hB,c0,c1,c2⟩:=fin w' (by simpa using hx))
 rw[C4]
 go_wp2
 go_ret
 exact⟨rfl,by assumption⟩
theorem g4c(v:Value)(t:Addr)(old:Value)(w:World)(k:Nat)(hv:v≠.nilIface)(hI:∃T x,v=.iface T x)(hg:w.cell? ⟨1,0,none⟩=some (.iface 272 (.agg #[tyV 101])))(hk:k≤w.heap.size)(hkt:k≤t.block)(ht:w.cell? t=some old)(hf:w.frozen? t=false)
  (hz:∀(a:Addr) (W:World),k≤W.heap.size→W.cell? a=some (.pointer (some t))→W.cell? t=some old→W.frozen? t=false→Calls P 181 #[v,.iface 160 (.pointer (some t)),VP a,.iface 272 (.agg #[tyV 158])] W fun e w'=>e=.returned (.bool true)∧Below k W w') :
  Calls P 100 #[v,.iface 160 (.pointer (some t))] w fun e w'=>e=.returned (.bool true)∧Below k w w':=by
 obtain⟨T,x,rfl⟩:=hI;have h6:=@A9 P 178 _ (fun args=>Bg (args.getD 0 (.tuple #[]))) f9z (by kernel_rfl) (by kernel_rfl) (by kernel_rfl) (by kernel_rfl);have h7:=@A9 P 179 _ g8x g9t (by kernel_rfl) (by kernel_rfl) (by kernel_rfl) (by kernel_rfl);have h8:=@A9 P 180 _ g4w g9j (by kernel_rfl) (by kernel_rfl) (by kernel_rfl) (by kernel_rfl);have h27:=@A9 P 372 _ g7c g7w (by kernel_rfl) (by kernel_rfl) (by kernel_rfl) (by kernel_rfl);have h37:=@A9 P 386 _ g8i g9s (by kernel_rfl) (by kernel_rfl) (by kernel_rfl) (by kernel_rfl);have h38:=@A9 P 387 _ g9p h0a (by kernel_rfl) (by kernel_rfl) (by kernel_rfl) (by kernel_rfl);have f6:=h1e;have f7:=g7d;have mK:=g6f;have mE:=g4z;have mI:=g5q;have kP:=g6q;have kF:=g5j;have eP:=g7s;have iF:=g6x;have htl:t.block<w.heap.size:=by
  rcases AY t.block w.heap.size with h|h
  ·exact h
  ·simp[By,Bc h] at ht
 have hlt:1<w.heap.size:=by
  rcases AY 1 w.heap.size with h|h
  ·exact h
  ·simp[By,Bc h] at hg
 have n8:=h2a ⟨w.heap.size,0,none⟩ t ((w.alloc (.cells #[.pointer (some t)] 160)).alloc (.cells #[tyV 160,.pointer (some ⟨w.heap.size,0,none⟩),.int .u64 150] 248)) (by simp);have hg2:((w.alloc (.cells #[.pointer (some t)] 160)).alloc (.cells #[tyV 160,.pointer (some ⟨w.heap.size,0,none⟩),.int .u64 150] 248)).cell? ⟨1,0,none⟩=some (.iface 272 (.agg #[tyV 101])):=by
  rw[Bv _ _ ⟨1,0,none⟩ (by simp;omega),Bv _ _ ⟨1,0,none⟩ hlt];exact hg
 have hz2:=hz ⟨w.heap.size,0,none⟩ ((w.alloc (.cells #[.pointer (some t)] 160)).alloc (.cells #[tyV 160,.pointer (some ⟨w.heap.size,0,none⟩),.int .u64 150] 248)) (by simp;omega) (by simp)
  (by rw[Bv _ _ t (by simp;omega),Bv _ _ t htl];exact ht) (by rw[BW _ _ t (by simp;omega),BW _ _ t (DC htl)];exact hf)
 have hB0:Below k w ((w.alloc (.cells #[.pointer (some t)] 160)).alloc (.cells #[tyV 160,.pointer (some ⟨w.heap.size,0,none⟩),.int .u64 150] 248)):=((BA k w).alloc hk _).alloc (by simp;omega) _
 go_enter g3q,g3t
 go_wp2_with (go_at_call 181;refine hz2.mono ?_;rintro e w' ⟨rfl,hx⟩)
 go_ret
 exact⟨rfl,hB0.trans hx⟩
def asU:UV→Option Bool
 |.nil=>some false
 |.node T (.pair (.int .i64 _) .unit)=>if T=158 then some true else none
 |.node T (.pair (.int .i64 _) (.pair (.node T' (.pair (.int .i64 _) .unit)) .unit))=>if T=244∧T'=158 then some true else none
 |_=>none
theorem f8q{x:Value}{l:List Value}(h:x.cells.toList=l)(hl:l.length≠1):x=.agg l.toArray:=by
 cases x with
 |agg ar=>simp only[Ch] at h;rw[←h]
 |_=>simp only[Ch] at h;subst h;simp at hl
theorem g9r{A:Amb}{u:UV}{ev:Value}{b:Bool}(hu:RepC A u [ev])(hb:asU u=some b){t:Addr}{old:Value}{w:World}{k:Nat}(hg:w.cell? ⟨1,0,none⟩=some (.iface 272 (.agg #[tyV 101])))
  (hk:k≤w.heap.size) (hkt:k≤t.block) (ht:w.cell? t=some old) (hf:w.frozen? t=false):Calls P 100 #[ev,.iface 160 (.pointer (some t))] w fun e w'=>e=.returned (.bool b)∧Below k w w':=by
 unfold asU at hb;split at hb
 ·cases hb;simp only[RepC,AB,and_true] at hu;subst hu;exact(g7u _ w).mono fun e w' ⟨h1,h2⟩=>⟨h1,h2 ▸ BA _ _⟩
 ·rename_i T n;split at hb
  ·rename_i hT;subst hT;cases hb;obtain⟨x,h1,c1,c2,h2,rfl,rfl⟩:=hu;simp only[AB,and_true] at h1;subst h1;have hx0:x.cells=#[.int .i64 n]:=by rw[←Bx (xs:=x.cells),h2];rfl
   exact g4c _ t old w k (by simp) ⟨_,_,rfl⟩ hg hk hkt ht hf fun a W q1 q2 q3 q4=>g7h k t a n x hx0 old W q1 hkt q2 q3 q4
  ·cases hb
 ·rename_i T c T' n;split at hb
  ·rename_i hT;obtain⟨rfl,rfl⟩:=hT;cases hb;obtain⟨x,h1,c1,c2,h2,rfl,c3,c4,rfl,⟨y,rfl,c5,c6,h3,rfl,rfl⟩,rfl⟩:=hu;simp only[AB,and_true] at h1;subst h1;have hy0:y.cells=#[.int .i64 n]:=by rw[←Bx (xs:=y.cells),h3];rfl
   have hx0:=f8q h2 (by simp);subst hx0;exact g4c _ t old w k (by simp) ⟨_,_,rfl⟩ hg hk hkt ht hf fun a W q1 q2 q3 q4=>g8f k t a (.int .i64 c) n y hy0 old W rfl q1 hkt q2 q3 q4
  ·cases hb
 ·cases hb
end Go.Rb.R5

namespace Go.Rb.R5
open Go.Rb
open Go.RowKit
set_option maxRecDepth 100000
def s96:Sig:=⟨[.val kq5],[.val kq11]⟩
def a0e(_n:Nat)(x:(List Dq0)×Unit):Option (Dq8×(Unit)):=some ((x.1,()),())
theorem nt96:EF.ntmps=8:=by kernel_rfl
theorem fn96:P.funcs[96]?=some EF:=by kernel_rfl
theorem g8u:a4q P 96:=a3a (by kernel_rfl)
theorem uT96:P.underlying 61=some (.slice 33):=by kernel_rfl
set_option maxRecDepth 1000000 in
theorem e8j(w:World)(n cap:Nat):Calls P 96 #[.slice none n cap] w fun e w'=>e=.returned (.slice none 0 0)∧w'=w:=by
 go_enter fn96,nt96
 go_wp2
 rw[CL _ _ _ _ _ _ _ _ uT96]
 go_wp2
 go_ret
 exact⟨rfl,rfl⟩
set_option maxRecDepth 1000000 in
theorem e2g(w:World)(ad:Addr)(n cap:Nat)(v':Value)(w':World)(happ:(B8 #[61,61] 61 #[.slice (some ⟨w.heap.size,0,none⟩) 0 0,.slice (some ad) n cap]).run P (w.alloc (.cells #[] 33))=.ok v' w') :
  Calls P 96 #[.slice (some ad) n cap] w fun e w''=>e=.returned v'∧w''=w':=by
 go_enter fn96,nt96
 go_upto_region 3 with fail
 rw[CL _ _ _ _ _ _ _ _ uT96]
 go_upto_region 3 with fail
 refine DQ ?_;refine wl rfl (.slice (some ⟨w.heap.size,0,none⟩) 0 0) (w1:=w.alloc (.cells #[] 33)) (by go_simp) ?_;refine wl rfl (.slice (some ad) n cap) (w1:=w.alloc (.cells #[] 33)) rfl ?_;refine d3k rfl (.tmp 5) (.tmp 6) 61 61 rfl rfl rfl v' happ ?_;refine wl rfl v' (w1:=w') rfl (Fq ?_)
 go_wp2
 go_ret
 exact⟨rfl,rfl⟩
theorem S96(A:Amb)(n:Nat):a7s A P cH 96 s96 (a0e n) :=
 d4m (T:=61) (tab rfl) rfl (z:=(zeroCells kq0).getD []) rfl e8j fun w w' el ad n cap v' h1 h2=>by
  rw[uT96] at h1;cases h1;exact e2g w ad n cap v' w' h2
theorem T96(A:Amb)(n:Nat):c3v A P cH (96,⟨s96,a0e n⟩):=⟨g8u,S96 A n⟩
def s266:Sig:=⟨[.val .str,.val .str],[.val tI]⟩
def a2n(_n:Nat)(x:List Int×List Int×Unit):Option (Dq5×(Unit)):=csF x
theorem h0j:Em.ntmps=8:=by kernel_rfl
theorem h0y:P.funcs[266]?=some Em:=by kernel_rfl
theorem g4s:a4q P 266:=a3a (by kernel_rfl)
theorem h1f:P.funcs[312]?=some GZ:=by kernel_rfl
set_option maxRecDepth 1000000 in
theorem d4w(a b:ByteArray)(w:World):Calls P 266 #[.string a,.string b] w fun e w'=>e=.returned (.int .i64 (Ce a.data.toList b.data.toList))∧w'=w:=by
 go_enter h0y,h0j
 go_wp2
 rw[A9 h1f (by kernel_rfl) (by kernel_rfl) (by kernel_rfl) (e:=FQ) (by kernel_rfl),Lib.run_compareString];simp only[BV];rw[Oper.upon_value]
 go_wp2
 go_ret
 exact⟨rfl,rfl⟩
theorem S266(A:Amb)(n:Nat):a7s A P cH 266 s266 (a2n n):=c4q d4w
theorem T266(A:Amb)(n:Nat):c3v A P cH (266,⟨s266,a2n n⟩):=⟨g4s,S266 A n⟩
def s162:Sig:=⟨[.val (.lf .nil0),.val tI],[.val kq9]⟩
def a2z(_n:Nat)(x:Unit×Int×Unit):Option (Dq3×(Unit)):=g3f 1 tB x
theorem g9f:Eo.ntmps=27:=by kernel_rfl
theorem g8n:P.funcs[162]?=some Eo:=by kernel_rfl
theorem g5v:a4q P 162:=a3a (by kernel_rfl)
theorem h1m:P.underlying 22=some (.slice 5):=by kernel_rfl
set_option maxRecDepth 1000000 in
theorem g3j(w:World):Calls P 162 #[.slice none 0 0,.int .i64 0] w fun en w'=>en=.returned (.slice none 0 0)∧w'=w:=by
 go_enter g8n,g9f
 go_wp2
 go_ret
 exact⟨rfl,rfl⟩
set_option maxRecDepth 1000000 in
theorem g2b(w w1:World)(n cap b:Nat)(hn:0<n)(hr:n≤140737488355328)(hc:n≤cap)(happ:(B8 #[22,3] 22 #[.slice none 0 0,.int .i64 (n:Int)]).run P w=.ok (.slice (some ⟨b,0,none⟩) n cap) w1) :
  Calls P 162 #[.slice none 0 0,.int .i64 (n:Int)] w fun en w'=>en=.returned (.slice (some ⟨b,0,none⟩) 0 cap)∧w'=w1:=by
 have hw0:Aa.wrap ((0:Int) - 0)=0:=by decide
 have hw1:Aa.wrap ((n:Int) - 0)=n:=by
  simp only[IntKind.wrap,IntKind.bits,IntKind.signed,if_true];simp;split <;> omega
 have hw2:Aa.wrap (n:Int)=n:=by have:=hw1;rw[Jk] at this;exact this
 have hlt:¬((n:Int)<0):=by omega
 have hgt:(0:Int)<n:=by omega
 obtain⟨I,hI⟩:∃I,P.info? 5=some I:=Option.isSome_iff_exists.1 (by kernel_rfl)
 go_enter g8n,g9f
 go_upto_region 5 with(simp only[hw0,hw1,hw2,hlt,hgt,Jk])
 refine DQ ?_;refine wl rfl (.slice none 0 0) (w1:=w) rfl ?_;refine wl rfl (.slice none 0 0) (w1:=w) rfl ?_;simp only[D3,Be,B4,B5];refine wl rfl (.int .i64 0) (w1:=w) (by go_simp) ?_;simp only[D3,Be,B4,B5];refine wl rfl (.slice none 0 0) (w1:=w) (by go_simp) ?_;simp only[D3,Be,B4,B5];refine wl rfl (.int .i64 (n:Int)) (w1:=w) (by simp[execOp,Act.eval,hw1,hw2]) ?_;simp only[D3,Be,B4,B5];refine d3k rfl (.tmp 20) (.tmp 21) 22 3 rfl rfl rfl _ happ ?_;simp only[D3,Be,B4,B5];refine wl rfl (.slice none 0 0) (w1:=w1) rfl ?_;simp only[D3,Be,B4,B5];refine wl rfl (.int .i64 0) (w1:=w1) (by go_simp) ?_;simp only[D3,Be,B4,B5];refine g2i h1m hI rfl (.tmp 22) none (some (.tmp 24)) rfl (b:=b) (off:=0) (n:=n) (cap:=cap) (l:=0) (h:=0) rfl (.inl ⟨rfl,rfl⟩) (.inr rfl) (Av _) (Nat.zero_le _) (.inr rfl) (off':=0) (n':=0) ⟨by simp,rfl⟩ ?_;simp only[D3,Be,B4,B5];refine wl rfl (.slice (some ⟨b,0,none⟩) 0 cap) (w1:=w1) rfl (Fq ?_);simp only[D3,Be,B4,B5]
 go_wp2
 go_ret
 exact⟨rfl,rfl⟩
theorem S162(A:Amb)(n:Nat):a7s A P cH 162 s162 (a2z n) :=
 f5g (T:=22) (tab rfl) rfl (by kernel_rfl) (z:=(zeroCells tB).getD []) rfl g3j g2b
theorem T162(A:Amb)(n:Nat):c3v A P cH (162,⟨s162,a2z n⟩):=⟨g5v,S162 A n⟩
theorem h2c:P.funcs[213]?=some Ep:=by kernel_rfl
theorem h1i:P.funcs[158]?=some Er:=by kernel_rfl
theorem g6j:a4q P 158:=a3a (by kernel_rfl)
theorem h2s:P.funcs[212]?=some Es:=by kernel_rfl
theorem h0o:P.funcs[215]?=some Et:=by kernel_rfl
theorem h1j:P.funcs[214]?=some Eu:=by kernel_rfl
theorem h1d:P.funcs[265]?=some Ev:=by kernel_rfl
theorem h0f:P.funcs[267]?=some Ew:=by kernel_rfl
def s275:Sig:=⟨[.sio kq11,.val (.lf (.cfn 158))],[]⟩
def a0y(_n:Nat)(x:(List Dq0)×Unit×Unit):Option ((Unit)×Dq8):=g6d tV cfV x
theorem g7b:a4q P 275:=a3a (by kernel_rfl)
theorem h2r:Er.ntmps=32:=by kernel_rfl
theorem h1z:Es.ntmps=20:=by kernel_rfl
theorem h1p:Ep.ntmps=9:=by kernel_rfl
theorem h1c:Eu.ntmps=8:=by kernel_rfl
theorem h1h:Et.ntmps=20:=by kernel_rfl
theorem h0g:Ev.ntmps=6:=by kernel_rfl
theorem h1k:Ew.ntmps=6:=by kernel_rfl
theorem g2j(t i:Int)(s:ByteArray)(W:World):Calls P 213 #[.agg #[.int .i64 t,.int .i64 i,.string s]] W fun e w'=>e=.returned (.int .i64 (b0e t))∧w'=W.alloc (.cells #[.int .i64 t,.int .i64 i,.string s] 33):=by
 go_enter h2c,h1p
 go_wp2
 all_goals (go_ret;refine⟨?_,rfl⟩;unfold b0e;simp_all)
theorem g7j(x:Int)(W:World):Calls P 265 #[.int .i64 x] W fun e w'=>e=.returned (.bool false)∧w'=W:=by
 go_enter h1d,h0g
 go_wp2
 go_ret
 exact⟨rfl,rfl⟩
theorem f6e(x:Int)(W:World):Calls P 267 #[.int .i64 x] W fun e w'=>e=.returned (.bool false)∧w'=W:=by
 go_enter h0f,h1k
 go_wp2
 go_ret
 exact⟨rfl,rfl⟩
theorem f4o(x y:Int)(W:World):Calls P 212 #[.int .i64 x,.int .i64 y] W fun e w'=>e=.returned (.int .i64 (cmpZ x y))∧w'=W:=by
 go_enter h2s,h1z
 go_wp2_with (go_at_call 265;refine(g7j _ _).mono ?_;rintro e w' ⟨rfl,rfl⟩)
 all_goals (go_ret;refine⟨?_,rfl⟩;unfold cmpZ;(repeat' split) <;> first|rfl|(exfalso;omega))
theorem e3a(x y:Int)(W:World):Calls P 215 #[.int .i64 x,.int .i64 y] W fun e w'=>e=.returned (.int .i64 (cmpZ x y))∧w'=W:=by
 go_enter h0o,h1h
 go_wp2_with (go_at_call 267;refine(f6e _ _).mono ?_;rintro e w' ⟨rfl,rfl⟩)
 all_goals (go_ret;refine⟨?_,rfl⟩;unfold cmpZ;(repeat' split) <;> first|rfl|(exfalso;omega))
theorem f3y(a b:ByteArray)(w:World):Calls P 214 #[.string a,.string b] w fun e w'=>e=.returned (.int .i64 (Ce a.data.toList b.data.toList))∧w'=w:=by
 go_enter h1j,h1c
 go_wp2_with (go_at_call 266;refine(d4w _ _ _).mono ?_;rintro e w' ⟨rfl,rfl⟩)
 go_ret
 exact⟨rfl,rfl⟩
theorem e8d(t i:Int)(s:ByteArray)(t' i':Int)(s':ByteArray)(W:World):Calls P 158 #[.agg #[.int .i64 t,.int .i64 i,.string s],.agg #[.int .i64 t',.int .i64 i',.string s']] W fun e w'=>e=.returned (.int .i64 (cmpV t i s t' i' s'))∧∃q os,w'=Sort.grow (W.drewN q) os:=by
 have mixed:=mixed
 go_enter h1i,h2r
 go_wp2_with fail
 go_region_with_o (first|(go_at_call 213;refine(g2j _ _ _ _).mono ?_;rintro e w' ⟨rfl,rfl⟩)|(go_at_call 212;refine(f4o _ _ _).mono ?_;rintro e w' ⟨rfl,rfl⟩))
 all_goals
  obtain⟨c,hcc⟩:∃c,cmpZ (b0e t) (b0e t')=c:=⟨_,rfl⟩
  rw[hcc];by_cases hc:c=0
  ·subst hc;by_cases ht:t=0
   ·have HV:Away _:=⟨show cmpV t i s t' i' s'=0 by unfold cmpV;rw[if_pos (.inr ht),hcc]⟩
    clear hcc
    go_wp2_with fail
    go_ret
    exact⟨congrArg (fun x=>C3 (.int .i64 x)) HV.out.symm,1,_,four W _ _ _ _⟩
   ·by_cases h4:t=4
    ·have HV:Away _:=⟨show cmpV t i s t' i' s'=Ce s.data.toList s'.data.toList by unfold cmpV;rw[if_neg (by simp[hcc,ht]),if_pos h4]⟩
     clear hcc
     go_wp2_with (go_at_call 214;refine(f3y _ _ _).mono ?_;rintro e w' ⟨rfl,rfl⟩)
     go_ret
     exact⟨congrArg (fun x=>C3 (.int .i64 x)) HV.out.symm,1,_,four W _ _ _ _⟩
    ·have HV:Away _:=⟨show cmpV t i s t' i' s'=cmpZ i i' by unfold cmpV;rw[if_neg (by simp[hcc,ht]),if_neg h4]⟩
     clear hcc
     go_wp2_with (go_at_call 215;refine(e3a _ _ _).mono ?_;rintro e w' ⟨rfl,rfl⟩)
     go_ret
     exact⟨congrArg (fun x=>C3 (.int .i64 x)) HV.out.symm,1,_,four W _ _ _ _⟩
  ·have HV:Away _:=⟨show cmpV t i s t' i' s'=c by unfold cmpV;rw[hcc,if_pos (.inl hc)]⟩
   clear hcc
   go_wp2_with fail
   go_ret
   exact⟨congrArg (fun x=>C3 (.int .i64 x)) HV.out.symm,1,_,four W _ _ _ _⟩
def f4t:Go.Shelf.Ren:=⟨fun|6=>275|15=>197|14=>316|28=>261|29=>262|20=>330|21=>331|22=>332|23=>333|24=>334|25=>335|26=>336|27=>337|46=>348|47=>307|48=>308|49=>349|50=>350|57=>355|n=>n,fun|22=>61|24=>33|25=>225|3=>3|39=>227|0=>0|53=>329|55=>150|4=>4|46=>323|45=>322|50=>140|5=>5|9=>9|66=>354|70=>297|76=>382|77=>383|n=>n,fun|n=>n⟩
theorem g4j:Gz DI f4t:={ mixed:=by kernel_rfl,f6:=⟨Ha.name,by decide,Hb.trans (congrArg some (by kernel_rfl))⟩,f14:=⟨Hc.name,by decide,Hd.trans (congrArg some (by kernel_rfl))⟩,f15:=He.trans (congrArg some (by kernel_rfl)),f20:=⟨Hf.name,by decide,Hg.trans (congrArg some (by kernel_rfl))⟩,f21:=⟨Hh.name,by decide,Hi.trans (congrArg some (by kernel_rfl))⟩,f22:=⟨Hj.name,by decide,Hk.trans (congrArg some (by kernel_rfl))⟩,f23:=⟨Hl.name,by decide,Hm.trans (congrArg some (by kernel_rfl))⟩,f24:=⟨Hn.name,by decide,Ho.trans (congrArg some (by kernel_rfl))⟩,f25:=⟨Hp.name,by decide,Hq.trans (congrArg some (by kernel_rfl))⟩,f26:=⟨Hr.name,by decide,Hs.trans (congrArg some (by kernel_rfl))⟩,f27:=⟨Ht.name,by decide,Hu.trans (congrArg some (by kernel_rfl))⟩,f28:=Hv.trans (congrArg some (by kernel_rfl)),f29:=Hw.trans (congrArg some (by kernel_rfl)),f46:=⟨Hx.name,by decide,Hy.trans (congrArg some (by kernel_rfl))⟩,f47:=Hz.trans (congrArg some (by kernel_rfl)),f48:=H0.trans (congrArg some (by kernel_rfl)),f49:=⟨H1.name,by decide,H4.trans (congrArg some (by kernel_rfl))⟩,f50:=⟨H5.name,by decide,H6.trans (congrArg some (by kernel_rfl))⟩,f57:=⟨H7.name,by decide,H8.trans (congrArg some (by kernel_rfl))⟩,t0:=H9,a0:=HB,z0:=HD,v0:=HH,t3:=HI,a3:=HJ,z3:=HK,v3:=HL,t4:=HM,a4:=HN,z4:=HO,v4:=HP,t5:=HQ,a5:=HT,z5:=HU,v5:=HW,t9:=HY,a9:=HZ,z9:=Ia,v9:=Ib,t22:=Ic,a22:=Ie,z22:=If,v22:=Ig,t25:=Ih,a25:=Ii,z25:=Ij,v25:=Ik,t39:=Il,a39:=Im,z39:=In,v39:=Io,t45:=Ip,a45:=Iq,z45:=Ir,v45:=Is,t46:=It,a46:=Iu,z46:=Iv,v46:=Iw,t50:=Ix,a50:=Iy,z50:=Iz,v50:=I0,t53:=I1,a53:=I2,z53:=I3,v53:=I4,t55:=I5,a55:=I6,z55:=I7,v55:=I8,t66:=I9,a66:=IA,z66:=IB,v66:=IC,t70:=ID,a70:=IE,z70:=IF,v70:=IG,t76:=IH,a76:=II,z76:=IJ,v76:=IK,t77:=IL,a77:=IM,z77:=IN,v77:=IP }
theorem e9j(w:World):Calls P 275 #[.slice none 0 0,.func (.func 158) #[] #[]] w fun e w'=>e=.returned (.tuple #[])∧w'=w :=
 Go.Proofs.AnyF.slices_SortFunc_none g4j none 0 (.func (.func 158) #[] #[]) w
theorem e7i(blk cap:Nat)(d:Array tV.den)(w:World)(hH:Sort.HoldsK tV.enc tV.size w blk 0 d)(hb:blk<w.heap.size)(hs:d.size<4611686018427387904) :
  Calls P 275 #[.slice (some ⟨blk,0,none⟩) d.size cap,.func (.func 158) #[] #[]] w fun e w'=>e=.returned (.tuple #[])∧∃n os,w'=Go.Proofs.sortWorldK tV.enc tV.size w blk 0 n (Sort.pdq (Go.Proofs.ltOf cfV) d 0 d.size (Lib.bitLen d.size) true true) os :=
 IQ g4j 3 (fun w=>IS w) (fun w=>IT w) tV.enc (fun x=>Ty.enc_length (t:=tV) x rfl) (fun x v hv=>Ty.enc_one (t:=tV) x v hv) cfV swoV 158 #[] blk 0 cap d w (fun args w=>a6t g6j args w)
  (fun m os dk _ x y=>e8d x.1 x.2.1 (toBA x.2.2.1) y.1 y.2.1 (toBA y.2.2.1) _) hH hb hs
theorem S275(A:Amb)(n:Nat):a7s A P cH 275 s275 (a0y n):=d6f (t0:=.pair tI (.pair tI (.pair .str .unit))) rfl swoV e9j e7i
theorem T275(A:Amb)(n:Nat):c3v A P cH (275,⟨s275,a0y n⟩):=⟨g7b,S275 A n⟩
def s276:Sig:=⟨[.val kq11],[.val kq11]⟩
def a1a(_n:Nat)(x:(List Dq0)×Unit):Option (Dq8×(Unit)):=g7m kq0 x
theorem g5x:Ex.ntmps=61:=by kernel_rfl
theorem g6n:P.funcs[276]?=some Ex:=by kernel_rfl
theorem g7q:a4q P 276:=a3a (by kernel_rfl)
theorem c8z{W:World}{a:Addr}{v u:Value}(h1:v.oneCell'=true)(hc:W.cell? a=some u)(hf:W.frozen? a=false):Dy P (store a v) W=.ok () (W.setCell a v):=by
 rw[run_store P W a v .plain h1,hc];simp[hf]
theorem f7d{α:Type}{l:List α}(h:l.length=3):∃a b c,l=[a,b,c]:=by
 match l,h with
 |[a,b,c],_=>exact⟨a,b,c,rfl⟩
set_option maxRecDepth 1000000 in
theorem f3i(w:World)(b S n cap:Nat)(hn:n≤cap)(hroom:n≤140737488355328)(hS:n*3≤S)(E:Nat→List Value)(eqB:Nat→Nat→Bool)
 (hE:∀i,i<n→(E i).length=3∧∀v,v∈E i→v.oneCell'=true)
 (heq:∀i j,i<n→j<n→∀W,(binOp .eql 33 (.agg (E i).toArray) (.agg (E j).toArray)).run P W=.ok (.bool (eqB i j)) W)
 (hne:∀i j,i<n→j<n→∀W,(binOp .neq 33 (.agg (E i).toArray) (.agg (E j).toArray)).run P W=.ok (.bool (!eqB i j)) W)
 (hgd:∀(op:BinOp) (x y:Operand) i j,∀W,(eqGuard op 33 x y (.agg (E i).toArray) (.agg (E j).toArray)).run P W=.ok () W)
 (hcl:∀(k:Nat) X W,k<n→CW w b S 3 n X W→∃W',(Builtin.clear_ #[61] 0 #[.slice (some ⟨b,k*3,none⟩) (n - k) (cap - k)]).run P W=.ok (.tuple #[]) W'∧CW w b S 3 k X W')
 (hcw:CW w b S 3 n E w) :
  Calls P 276 #[.slice (some ⟨b,0,none⟩) n cap] w fun e w'=>e=.returned (.slice (some ⟨b,0,none⟩) (a3c eqB n).length cap)∧CW w b S 3 (a3c eqB n).length (XK E (a3c eqB n)) w':=by
 have mixed:=mixed;have fin:∀W,(∀j,j<n→c0s eqB j=true)→CW w b S 3 n E W→n=(a3c eqB n).length∧CW w b S 3 (a3c eqB n).length (XK E (a3c eqB n)) W:=fun W h hc=>by
  have hk:=d8b h;have hl:n=(a3c eqB n).length:=by rw[hk];simp
  refine⟨hl,?_⟩;rw[←hl];exact hc.congr fun i hi=>by rw[hk,f2g]
 have FIN:Away _:=⟨fin⟩
 have HCL:Away _:=⟨hcl⟩
 have HEQ:Away _:=⟨heq⟩
 have HNE:Away _:=⟨hne⟩
 have HGD:Away _:=⟨hgd⟩
 have HE:Away _:=⟨hE⟩
 clear fin hcl heq hne hgd hE;by_cases h2:n<2
 ·have HC:Away _:=⟨hcw⟩
  clear hcw
  go_enter g6n,g5x
  go_wp2
  go_ret
  obtain⟨e1,e2⟩:=FIN.out w (fun j hj=>by
   have:j=0:=by omega
   simp[c0s,this]) HC.out
  exact⟨by rw[←e1];rfl,e2⟩
 go_enter g6n,g5x
 go_wp2
 go_loopg [3] n (fun g s3 wr=>∃k:Nat,1≤k∧k≤n∧n - k≤g∧s3=.int .i64 k∧CW w b S 3 n E wr∧∀j,j<k→c0s eqB j=true)
 case atStart=>exact⟨1,Av _,by omega,by omega,rfl,hcw,fun j hj=>by
  have:j=0:=by omega
  simp[c0s,this]⟩
 case round =>
  obtain⟨k,hk1,hk,hg,rfl,hcr,hall⟩:=hrel;have A:Away _:=⟨hall⟩
  have HR:Away _:=⟨hcr⟩
  clear hall hcr hcw;by_cases hlt:k<n
  ·obtain⟨kp,rfl⟩:∃kp,k=kp+1:=⟨k - 1,by omega⟩
   have he:=HEQ.out (kp+1) kp hlt (by omega);have hg':=fun op x y=>HGD.out op x y (kp+1) kp
   obtain⟨x0,x1,x2,hx⟩:=f7d (HE.out (kp+1) hlt).1;obtain⟨y0,y1,y2,hy⟩:=f7d (HE.out kp (by omega)).1;have a0:=HR.out.cell hS hlt (j:=0) (by rw[hx];rfl);have a1:=HR.out.cell hS hlt (j:=1) (by rw[hx];rfl);have a2:=HR.out.cell hS hlt (j:=2) (by rw[hx];rfl);have b0:=HR.out.cell hS (show kp<n by omega) (j:=0) (by rw[hy];rfl);have b1:=HR.out.cell hS (show kp<n by omega) (j:=1) (by rw[hy];rfl);have b2:=HR.out.cell hS (show kp<n by omega) (j:=2) (by rw[hy];rfl);rw[CC] at a0 b0;rw[hx,hy] at he hg';clear hx hy;have z0:(0:Int)≤(kp:Int)+1:=by omega
   have z1:(kp:Int)<(n:Int):=by omega
   cases hd:eqB (kp+1) kp with
   |false =>
    rw[hd] at he
    go_wp2_with fail
    go_region_o
    go_wp2
    go_roundg (n - (kp+1+1))
    case measure=>omega
    case rel =>
     refine⟨kp+1+1,by omega,by omega,Av _,by go_num,HR.out.drew,fun j hj=>?_⟩;by_cases e:j=kp+1
     ·subst e;simp[c0s,hd]
     ·exact A.out j (by omega)
   |true =>
    rw[hd] at he
    go_wp2_with fail
    go_region_o
    clear a0 a1 a2 b0 b1 b2 he hg';have hkc:¬cap=kp+1:=by omega
    have hkn:kp+1≤cap:=by omega
    go_wp2
    go_loopg [3,5] n (fun g s3 s5 wr2=>∃k2:Nat,s3=.int .i64 ((a3c eqB (kp+1+k2)).length:Nat)∧s5=.int .i64 k2∧1≤k2∧kp+1+k2≤n∧n - (kp+1+k2)≤g∧CW w b S 3 n (XK E (a3c eqB (kp+1+k2))) wr2∧(a3c eqB (kp+1+k2)).length<kp+1+k2)
    case atStart =>
     have hkt:a3c eqB (kp+1+1)=List.range (kp+1):=by
      rw[b8s,d8b A.out];simp[c0s,hd]
     refine⟨1,by rw[hkt];simp,rfl,Av _,by omega,by omega,?_,by rw[hkt];simp⟩;exact HR.out.drew.congr fun i hi=>by rw[hkt,f2g]
    case round =>
     obtain⟨k2,rfl,rfl,h1,hle,hg2,hcw2,hL⟩:=hrel;have H2:Away _:=⟨hcw2⟩
     obtain⟨kk,hkk⟩:∃kk,(a3c eqB (kp+1+k2)).length=kk:=⟨_,rfl⟩
     have HKK:Away _:=⟨hkk⟩
     rw[hkk] at hL ⊢;clear hcw2 hkk;by_cases hm:kp+1+k2<n
     ·obtain⟨j,rfl⟩:∃j,k2=j+1:=⟨k2 - 1,by omega⟩
      have hXm:XK E (a3c eqB (kp+1+(j+1))) (kp+1+(j+1))=E (kp+1+(j+1)):=f6a (by rw[HKK.out];omega);have hXp:XK E (a3c eqB (kp+1+(j+1))) (kp+1+j)=E (kp+1+j):=f6a (by rw[HKK.out];omega);have he:=HNE.out (kp+1+(j+1)) (kp+1+j) hm (by omega);have hg':=fun op x y=>HGD.out op x y (kp+1+(j+1)) (kp+1+j)
      obtain⟨x0,x1,x2,hx⟩:=f7d (HE.out (kp+1+(j+1)) hm).1;obtain⟨y0,y1,y2,hy⟩:=f7d (HE.out (kp+1+j) (by omega)).1;have hone:=(HE.out (kp+1+(j+1)) hm).2;rw[hx] at hone;have o0:=hone x0 (by simp);have o1:=hone x1 (by simp);have o2:=hone x2 (by simp);clear hone;have a0:=H2.out.cell hS hm (j:=0) (by rw[hXm,hx];rfl);have a1:=H2.out.cell hS hm (j:=1) (by rw[hXm,hx];rfl);have a2:=H2.out.cell hS hm (j:=2) (by rw[hXm,hx];rfl);have b0:=H2.out.cell hS (show kp+1+j<n by omega) (j:=0) (by rw[hXp,hy];rfl);have b1:=H2.out.cell hS (show kp+1+j<n by omega) (j:=1) (by rw[hXp,hy];rfl);have b2:=H2.out.cell hS (show kp+1+j<n by omega) (j:=2) (by rw[hXp,hy];rfl);rw[CC] at a0 b0;have ea:(kp+1+(j+1))*3=(kp+1)*3+(j+1)*3:=by omega
      have eb:(kp+1+j)*3=(kp+1)*3+j*3:=by omega
      rw[ea] at a0 a1 a2;rw[eb] at b0 b1 b2;rw[hx,hy] at he hg';have HX:Away _:=⟨hx⟩
      clear hx hy ea eb hXm hXp;have z0:(0:Int)≤(j:Int)+1:=by omega
      have z1:(j:Int)+1<((n - (kp+1):Nat):Int):=by omega
      have z2:(j:Int)<((n - (kp+1):Nat):Int):=by omega
      cases hd2:eqB (kp+1+(j+1)) (kp+1+j) with
      |true =>
       rw[hd2] at he
       go_wp2_with fail
       go_region_o
       go_wp2
       go_roundg (n - (kp+1+(j+1+1)))
       case measure=>omega
       case rel =>
        have hkt:a3c eqB (kp+1+(j+1+1))=a3c eqB (kp+1+(j+1)):=by
         rw[show kp+1+(j+1+1)=(kp+1+(j+1))+1 by omega,b8s];simp[c0s,show kp+1+(j+1) - 1=kp+1+j by omega,hd2]
        refine⟨j+1+1,by rw[hkt,HKK.out],by go_num,by omega,by omega,Av _,by rw[hkt];exact H2.out.drew,by rw[hkt,HKK.out];omega⟩
      |false =>
       rw[hd2] at he;obtain⟨v0,v1,v2,hv⟩:∃v0 v1 v2,XK E (a3c eqB (kp+1+(j+1))) kk=[v0,v1,v2]:=f7d (by
        obtain⟨c,_,q2,q3⟩:=H2.out.blk;rw[←q3 kk (by omega)];exact a4g (by have:=a7h (sz:=3) (show kk<n by omega);simp;omega))
       have c0:=H2.out.cell hS (show kk<n by omega) (j:=0) (by rw[hv];rfl);have c1:=H2.out.cell hS (show kk<n by omega) (j:=1) (by rw[hv];rfl);have c2:=H2.out.cell hS (show kk<n by omega) (j:=2) (by rw[hv];rfl);have f0:=H2.out.frozen hS (show kk<n by omega) (j:=0) (by omega);have f1:=H2.out.frozen hS (show kk<n by omega) (j:=1) (by omega);have f2:=H2.out.frozen hS (show kk<n by omega) (j:=2) (by omega);rw[CC] at c0 f0;have g0:Dy P (store ⟨b,kk*3,none⟩ x0) wr.drew=.ok () (wr.setCell ⟨b,kk*3,none⟩ x0).drew:=c8z (W:=wr.drew) o0 c0 f0;have g1:Dy P (store ⟨b,kk*3+1,none⟩ x1) (wr.setCell ⟨b,kk*3,none⟩ x0).drew=.ok () ((wr.setCell ⟨b,kk*3,none⟩ x0).setCell ⟨b,kk*3+1,none⟩ x1).drew :=
        c8z (W:=(wr.setCell ⟨b,kk*3,none⟩ x0).drew) o1 (u:=v1) (by
         show(wr.setCell ⟨b,kk*3,none⟩ x0).cell? _=_;rw[BP _ (h:=show(⟨b,kk*3,none⟩:Addr)≠⟨b,kk*3+1,none⟩ by simp)];exact c1) (by
         show(wr.setCell ⟨b,kk*3,none⟩ x0).frozen? _=_;rw[Cl];exact f1)
       have g2:Dy P (store ⟨b,kk*3+2,none⟩ x2) ((wr.setCell ⟨b,kk*3,none⟩ x0).setCell ⟨b,kk*3+1,none⟩ x1).drew=.ok () (((wr.setCell ⟨b,kk*3,none⟩ x0).setCell ⟨b,kk*3+1,none⟩ x1).setCell ⟨b,kk*3+2,none⟩ x2).drew :=
        c8z (W:=((wr.setCell ⟨b,kk*3,none⟩ x0).setCell ⟨b,kk*3+1,none⟩ x1).drew) o2 (u:=v2) (by
         show((wr.setCell ⟨b,kk*3,none⟩ x0).setCell ⟨b,kk*3+1,none⟩ x1).cell? _=_;rw[BP _ (h:=show(⟨b,kk*3+1,none⟩:Addr)≠⟨b,kk*3+2,none⟩ by simp),BP _ (h:=show(⟨b,kk*3,none⟩:Addr)≠⟨b,kk*3+2,none⟩ by simp)];exact c2) (by
         show((wr.setCell ⟨b,kk*3,none⟩ x0).setCell ⟨b,kk*3+1,none⟩ x1).frozen? _=_;rw[Cl,Cl];exact f2)
       clear c0 c1 c2 f0 f1 f2;clear hv;have z3:(kk:Int)<(n:Int):=by omega
       go_wp2_with fail
       go_region_o
       go_wp2
       go_roundg (n - (kp+1+(j+1+1)))
       case measure=>omega
       case rel =>
        have hkt:a3c eqB (kp+1+(j+1+1))=a3c eqB (kp+1+(j+1))++[kp+1+(j+1)]:=by
         rw[show kp+1+(j+1+1)=(kp+1+(j+1))+1 by omega,b8s];simp[c0s,show kp+1+(j+1) - 1=kp+1+j by omega,hd2]
        refine⟨j+1+1,by rw[hkt];simp only[Ap,HKK.out];go_num,by go_num,by omega,by omega,Av _,?_,by rw[hkt];simp only[Ap,HKK.out,List.length_cons,List.length_nil];omega⟩;rw[hkt];refine(H2.out.drew.set3 P hS (show kk<n by omega) o0 o1 o2).congr fun i hi=>?_
        rw[←g5h,HKK.out,HX.out]
     ·have hmn:kp+1+k2=n:=by omega
      obtain⟨W',hcl,hcw3⟩:=HCL.out kk _ wr (by omega) H2.out;have H3:Away _:=⟨hcw3⟩
      clear hcw3;have hkc2:¬cap=kk:=by omega
      have hkn2:kk≤n:=by omega
      have hkn3:kk≤cap:=by omega
      go_wp2
      go_ret
      have e:=HKK.out;rw[hmn] at e;refine⟨by rw[e];rfl,?_⟩;rw[e,←hmn];exact H3.out
  ·have:k=n:=by omega
   subst this
   go_wp2
   go_ret
   obtain⟨e1,e2⟩:=FIN.out _ A.out HR.out;exact⟨by rw[←e1];rfl,e2⟩
theorem h2o:P.underlying 61=some (.slice 33):=by kernel_rfl
set_option maxRecDepth 1000000 in
theorem f4b(w:World):Calls P 276 #[.slice none 0 0] w fun e w'=>e=.returned (.slice none 0 0)∧w'=w:=by
 go_enter g6n,g5x
 go_wp2
 go_ret
 exact⟨rfl,rfl⟩
theorem S276(A:Amb)(n:Nat):a7s A P cH 276 s276 (a1a n) :=
 d9s (T:=61) (EL:=33) (tab rfl) rfl rfl h2o rfl (z:=(zeroCells kq0).getD []) rfl rfl (by decide) (fun x y=>rfl) f4b f3i
theorem T276(A:Amb)(n:Nat):c3v A P cH (276,⟨s276,a1a n⟩):=⟨g7q,S276 A n⟩
def s93:Sig:=⟨[.val kq17],[.val (.sl .own 8 tI)]⟩
def a3j(_n:Nat)(x:List Int×Unit):Option (Dq3×(Unit)):=some ((x.1,()),())
theorem nt93:EG.ntmps=8:=by kernel_rfl
theorem fn93:P.funcs[93]?=some EG:=by kernel_rfl
theorem g9x:a4q P 93:=a3a (by kernel_rfl)
theorem uT93:P.underlying 27=some (.slice 3):=by kernel_rfl
set_option maxRecDepth 1000000 in
theorem e7d(w:World)(n cap:Nat):Calls P 93 #[.slice none n cap] w fun e w'=>e=.returned (.slice none 0 0)∧w'=w:=by
 go_enter fn93,nt93
 go_wp2
 rw[CL _ _ _ _ _ _ _ _ uT93]
 go_wp2
 go_ret
 exact⟨rfl,rfl⟩
set_option maxRecDepth 1000000 in
theorem e2b(w:World)(ad:Addr)(n cap:Nat)(v':Value)(w':World)(happ:(B8 #[27,27] 27 #[.slice (some ⟨w.heap.size,0,none⟩) 0 0,.slice (some ad) n cap]).run P (w.alloc (.cells #[] 3))=.ok v' w') :
  Calls P 93 #[.slice (some ad) n cap] w fun e w''=>e=.returned v'∧w''=w':=by
 go_enter fn93,nt93
 go_upto_region 3 with fail
 rw[CL _ _ _ _ _ _ _ _ uT93]
 go_upto_region 3 with fail
 refine DQ ?_;refine wl rfl (.slice (some ⟨w.heap.size,0,none⟩) 0 0) (w1:=w.alloc (.cells #[] 3)) (by go_simp) ?_;refine wl rfl (.slice (some ad) n cap) (w1:=w.alloc (.cells #[] 3)) rfl ?_;refine d3k rfl (.tmp 5) (.tmp 6) 27 27 rfl rfl rfl v' happ ?_;refine wl rfl v' (w1:=w') rfl (Fq ?_)
 go_wp2
 go_ret
 exact⟨rfl,rfl⟩
theorem S93(A:Amb)(n:Nat):a7s A P cH 93 s93 (a3j n) :=
 d4m (T:=27) (tab rfl) rfl (z:=(zeroCells tI).getD []) rfl e7d fun w w' el ad n cap v' h1 h2=>by
  rw[uT93] at h1;cases h1;exact e2b w ad n cap v' w' h2
theorem T93(A:Amb)(n:Nat):c3v A P cH (93,⟨s93,a3j n⟩):=⟨g9x,S93 A n⟩
def s48:Sig:=⟨[.val .err,.val .err],[.val .bool]⟩
def a1x(_n:Nat)(x:UV×UV×Unit):Option (Dq2×(Unit)):=isFs [f4u,e0w,a4c,a4h,a2w,a7a,a8g,a8p,a6v,c0z] x
theorem nt48:EH.ntmps=22:=by kernel_rfl
theorem fn48:P.funcs[48]?=some EH:=by kernel_rfl
theorem g8e:a4q P 48:=a3a (by kernel_rfl)
theorem g2x:P.funcs[113]?=some Ey:=by kernel_rfl
theorem g1g:Ey.ntmps=54:=by kernel_rfl
theorem g1y:P.funcs[112]?=some Ek:=by kernel_rfl
theorem g0j:P.funcs[385]?=some IU:=by kernel_rfl
theorem d1i(v:Value)(w:World):(AR #[.iface 413 v]).run P w=.ok (.iface 272 (.agg #[.pointer (some ⟨17,413,none⟩)])) w:=by kernel_rfl
def e5o : Array Value → Sem Value := Extern.ReflectliteType.method fun t => do Extern.Rtype.noPackHeld "Comparable" t; pure (.bool (← typeInfo t).comparable)
theorem b6i(w:World):(e5o #[.agg #[.pointer (some ⟨17,413,none⟩)]]).run P w=.ok (.bool true) w:=by kernel_rfl
theorem a7z (v : Value) (w : World) : (Go.method 543 272 v "Comparable").run P w = .ok (385, v) w := by kernel_rfl
theorem f2f:(P.info? 413).map (·.comparable)=some true:=by kernel_rfl
theorem f1a:(P.info? 432).map (·.size)=some 1:=by kernel_rfl
theorem u130:P.underlying 413=some (.pointer 432):=by kernel_rfl
theorem i77:f5n P 101=true:=by kernel_rfl
theorem nE1:d3f P 413 274=true:=by kernel_rfl
theorem nE2:d3f P 413 277=true:=by kernel_rfl
theorem nE3:d3f P 413 278=true:=by kernel_rfl
theorem g7v(b:Addr)(w:World):Calls P 48 #[.nilIface,.iface 413 (.pointer (some b))] w fun e w'=>e=.returned (.bool false)∧w'=w:=by
 obtain⟨ms,h77⟩:=a9i i77;have hn:=run_eql_iface_nil_left (P:=P) w 413 (.pointer (some b)) h77
 go_enter fn48,nt48
 go_wp2
 go_ret
 exact⟨rfl,rfl⟩
theorem g7e(a:Addr)(w:World):Calls P 113 #[.iface 413 (.pointer (some a)),.iface 413 (.pointer (some a)),.bool true] w fun e w'=>e=.returned (.bool true)∧w'=w:=by
 obtain⟨ms,h77⟩:=a9i i77;obtain⟨i,hi,hcmp⟩:=AX.1 f2f;obtain⟨j,hj,hjs⟩:=AX.1 f1a;have heq:=Gk (P:=P) w a h77 u130 hi hcmp hj
 go_enter g2x,g1g
 go_wp2
 refine CD 1 ?_;rw[C4]
 go_wp2
 go_ret
 exact⟨rfl,rfl⟩
theorem g1d(a b:Addr)(ca cb:Array Value)(ta tb:TypeId)(w:World)(hne:a≠b)(ha:w.heap[a.block]?=some (.cells ca ta (0,0)))(hb:w.heap[b.block]?=some (.cells cb tb (0,0))) :
  Calls P 113 #[.iface 413 (.pointer (some a)),.iface 413 (.pointer (some b)),.bool true] w fun e w'=>e=.returned (.bool false)∧w'=w:=by
 obtain⟨ms,h77⟩:=a9i i77;obtain⟨i,hi,hcmp⟩:=AX.1 f2f;obtain⟨j,hj,hjs⟩:=AX.1 f1a;have nE:=a3m nE1;have uE:=a3m nE2;have vE:=a3m nE3;have heq:=Gb (P:=P) w h77 u130 hi hcmp hj (by rw[hjs];decide) hne ha hb
 go_enter g2x,g1g
 go_wp2
 refine CD 1 ?_;rw[C4]
 go_wp2
 go_ret
 exact⟨rfl,rfl⟩
theorem d3v{h:Array Obj}{k:Nat}{c:Array Value}{t:TypeId}{fr:Nat×Nat}(hh:h[k]?=some (.cells c t fr)):k<h.size:=by
 rcases AY k h.size with h1|h1
 ·exact h1
 ·rw[Bc h1] at hh;cases hh
theorem g6e(a:Addr)(w:World) :
  Calls P 48 #[.iface 413 (.pointer (some a)),.iface 413 (.pointer (some a))] w fun e w'=>e=.returned (.bool true)∧w'=w:=by
 obtain⟨ms,h77⟩:=a9i i77;have h8:=@A9 P 112 _ AR g1y (by kernel_rfl) (by kernel_rfl) (by kernel_rfl) (by kernel_rfl);have h32:=@A9 P 385 _ e5o g0j (by kernel_rfl) (by kernel_rfl) (by kernel_rfl) (by kernel_rfl);have tT:=d1i;have cT:=b6i;have mR:=a7z
 go_enter fn48,nt48
 go_wp2_with (go_at_call 113;refine(g7e a w).mono ?_;rintro e w' ⟨rfl,hx⟩)
 go_ret
 first|exact⟨rfl,hx⟩|exact⟨rfl,rfl⟩
theorem g1u(a b:Addr)(ca cb:Array Value)(ta tb:TypeId)(w:World)(hne:a≠b)(ha:w.heap[a.block]?=some (.cells ca ta (0,0)))(hb:w.heap[b.block]?=some (.cells cb tb (0,0))) :
  Calls P 48 #[.iface 413 (.pointer (some a)),.iface 413 (.pointer (some b))] w fun e w'=>e=.returned (.bool false)∧w'=w:=by
 obtain⟨ms,h77⟩:=a9i i77;have h8:=@A9 P 112 _ AR g1y (by kernel_rfl) (by kernel_rfl) (by kernel_rfl) (by kernel_rfl);have h32:=@A9 P 385 _ e5o g0j (by kernel_rfl) (by kernel_rfl) (by kernel_rfl) (by kernel_rfl);have tT:=d1i;have cT:=b6i;have mR:=a7z
 go_enter fn48,nt48
 go_wp2_with (go_at_call 113;refine(g1d a b ca cb ta tb w hne ha hb).mono ?_;rintro e w' ⟨rfl,hx⟩)
 go_ret
 first|exact⟨rfl,hx⟩|exact⟨rfl,rfl⟩
structure WT (T U:Nat):Prop where
 ne:T≠413
 l1:d3f P T 274=true
 h2:hasB P T 277=true
 cf:∀(args:Array Value) (w:World),(callFunc U args).run P w=.ok (.enter U args) w
 mU : ∀ (v : Value) (w : World), (Go.method 543 T v "Unwrap").run P w = .ok (U, v) w
 un:∀(s:ByteArray) (v:Value) (w:World),v.oneCell'=true→Calls P U #[.agg #[.string s,v]] w fun e w'=>e=.returned v∧Below w.heap.size w w'
theorem g8c{T U:Nat}(h:WT T U)(s:ByteArray)(b:Addr)(w:World) :
  Calls P 113 #[.iface T (.agg #[.string s,.iface 413 (.pointer (some b))]),.iface 413 (.pointer (some b)),.bool true] w fun e w'=>e=.returned (.bool true)∧Below w.heap.size w w':=by
 obtain⟨ms,h77⟩:=a9i i77;obtain⟨i,hi,hcmp⟩:=AX.1 f2f;obtain⟨j,hj,hjs⟩:=AX.1 f1a;have nE:=a3m nE1;have uE:=a3m nE2;have vE:=a3m nE3;have nW:=a3m h.l1;have uW:=c8e h.h2;have mU:=h.mU;have hce:=h.cf;have heq:=fun w=>Gk (P:=P) w b h77 u130 hi hcmp hj
 have hty:=GF (P:=P) T 413 (.agg #[.string s,.iface 413 (.pointer (some b))]) (.pointer (some b)) h77 h.ne w;have hu:=h.un s (.iface 413 (.pointer (some b))) w rfl
 go_enter g2x,g1g
 go_wp2
 refine CD 2 ?_;rw[C4]
 go_wp2_with (refine hu.mono ?_;rintro e w' ⟨rfl,hb⟩)
 rw[C4]
 go_wp2
 go_ret
 exact⟨rfl,by assumption⟩
theorem g9w{T U:Nat}(h:WT T U)(s:ByteArray)(a b:Addr)(ca cb:Array Value)(ta tb:TypeId)(w:World)(hne:a≠b)(hal:a.block<w.heap.size)(hbl:b.block<w.heap.size)(ha:w.heap[a.block]?=some (.cells ca ta (0,0)))(hb:w.heap[b.block]?=some (.cells cb tb (0,0))) :
  Calls P 113 #[.iface T (.agg #[.string s,.iface 413 (.pointer (some a))]),.iface 413 (.pointer (some b)),.bool true] w fun e w'=>e=.returned (.bool false)∧Below w.heap.size w w':=by
 obtain⟨ms,h77⟩:=a9i i77;obtain⟨i,hi,hcmp⟩:=AX.1 f2f;obtain⟨j,hj,hjs⟩:=AX.1 f1a;have nE:=a3m nE1;have uE:=a3m nE2;have vE:=a3m nE3;have nW:=a3m h.l1;have uW:=c8e h.h2;have mU:=h.mU;have hce:=h.cf;have heq:∀w':World,Below w.heap.size w w'→(binOp .eql 101 (.iface 413 (.pointer (some a))) (.iface 413 (.pointer (some b)))).run P w'=.ok (.bool false) w':=fun w' hB=>Gb (P:=P) w' h77 u130 hi hcmp hj (by rw[hjs];decide) hne ((hB.block _ hal).trans ha) ((hB.block _ hbl).trans hb)
 have hty:=GF (P:=P) T 413 (.agg #[.string s,.iface 413 (.pointer (some a))]) (.pointer (some b)) h77 h.ne w;have hu:=h.un s (.iface 413 (.pointer (some a))) w rfl
 go_enter g2x,g1g
 go_wp2
 refine CD 2 ?_;rw[C4]
 go_wp2_with (refine hu.mono ?_;rintro e w' ⟨rfl,hB⟩;have heq2:=heq w' hB)
 rw[C4]
 go_wp2
 go_ret
 exact⟨rfl,by assumption⟩
theorem h0d{T U:Nat}(h:WT T U)(s:ByteArray)(b:Addr)(w:World)(_:∃ca ta,w.heap[b.block]?=some (.cells ca ta (0,0))) :
  Calls P 48 #[.iface T (.agg #[.string s,.iface 413 (.pointer (some b))]),.iface 413 (.pointer (some b))] w fun e w'=>e=.returned (.bool true)∧Below w.heap.size w w':=by
 obtain⟨ms,h77⟩:=a9i i77;have h8:=@A9 P 112 _ AR g1y (by kernel_rfl) (by kernel_rfl) (by kernel_rfl) (by kernel_rfl);have h32:=@A9 P 385 _ e5o g0j (by kernel_rfl) (by kernel_rfl) (by kernel_rfl) (by kernel_rfl);have tT:=d1i;have cT:=b6i;have mR:=a7z
 go_enter fn48,nt48
 go_wp2_with (go_at_call 113;refine(g8c h s b w).mono ?_;rintro e w' ⟨rfl,hx⟩)
 go_ret
 first|exact⟨rfl,hx⟩|exact⟨rfl,rfl⟩
theorem g9o{T U:Nat}(h:WT T U)(s:ByteArray)(a b:Addr)(ca cb:Array Value)(ta tb:TypeId)(w:World)(hne:a≠b)(ha:w.heap[a.block]?=some (.cells ca ta (0,0)))(hb:w.heap[b.block]?=some (.cells cb tb (0,0))) :
  Calls P 48 #[.iface T (.agg #[.string s,.iface 413 (.pointer (some a))]),.iface 413 (.pointer (some b))] w fun e w'=>e=.returned (.bool false)∧Below w.heap.size w w':=by
 obtain⟨ms,h77⟩:=a9i i77;have h8:=@A9 P 112 _ AR g1y (by kernel_rfl) (by kernel_rfl) (by kernel_rfl) (by kernel_rfl);have h32:=@A9 P 385 _ e5o g0j (by kernel_rfl) (by kernel_rfl) (by kernel_rfl) (by kernel_rfl);have tT:=d1i;have cT:=b6i;have mR:=a7z
 go_enter fn48,nt48
 go_wp2_with (go_at_call 113;refine(g9w h s a b ca cb ta tb w hne (d3v ha) (d3v hb) ha hb).mono ?_;rintro e w' ⟨rfl,hx⟩)
 go_ret
 first|exact⟨rfl,hx⟩|exact⟨rfl,rfl⟩
theorem h0t:P.funcs[377]?=some Ez:=by kernel_rfl
theorem h1w:Ez.ntmps=5:=by kernel_rfl
theorem h1u:WT 173 377:=⟨by decide,by kernel_rfl,by kernel_rfl,a6t (a3a (by kernel_rfl)),fun _ _=>by kernel_rfl,fun s v w hv=>by
 go_enter h0t,h1w
 go_wp2
 go_ret
 exact⟨rfl,(BA _ w).alloc (Av _) _⟩⟩
theorem h0p:P.funcs[395]?=some E0:=by kernel_rfl
theorem h0s:E0.ntmps=5:=by kernel_rfl
theorem h0n:WT 319 395:=⟨by decide,by kernel_rfl,by kernel_rfl,a6t (a3a (by kernel_rfl)),fun _ _=>by kernel_rfl,fun s v w hv=>by
 go_enter h0p,h0s
 go_wp2
 go_ret
 exact⟨rfl,(BA _ w).alloc (Av _) _⟩⟩
theorem h2m:P.funcs[397]?=some E1:=by kernel_rfl
theorem h2q:E1.ntmps=5:=by kernel_rfl
theorem h0w:WT 362 397:=⟨by decide,by kernel_rfl,by kernel_rfl,a6t (a3a (by kernel_rfl)),fun _ _=>by kernel_rfl,fun s v w hv=>by
 go_enter h2m,h2q
 go_wp2
 go_ret
 exact⟨rfl,(BA _ w).alloc (Av _) _⟩⟩
theorem h1q:P.funcs[399]?=some E2:=by kernel_rfl
theorem h1y:E2.ntmps=5:=by kernel_rfl
theorem h2g:WT 366 399:=⟨by decide,by kernel_rfl,by kernel_rfl,a6t (a3a (by kernel_rfl)),fun _ _=>by kernel_rfl,fun s v w hv=>by
 go_enter h1q,h1y
 go_wp2
 go_ret
 exact⟨rfl,(BA _ w).alloc (Av _) _⟩⟩
theorem h2j:P.funcs[401]?=some E3:=by kernel_rfl
theorem h1a:E3.ntmps=5:=by kernel_rfl
theorem h0v:WT 370 401:=⟨by decide,by kernel_rfl,by kernel_rfl,a6t (a3a (by kernel_rfl)),fun _ _=>by kernel_rfl,fun s v w hv=>by
 go_enter h2j,h1a
 go_wp2
 go_ret
 exact⟨rfl,(BA _ w).alloc (Av _) _⟩⟩
theorem h0k:P.funcs[403]?=some E4:=by kernel_rfl
theorem h0u:E4.ntmps=5:=by kernel_rfl
theorem h0r:WT 372 403:=⟨by decide,by kernel_rfl,by kernel_rfl,a6t (a3a (by kernel_rfl)),fun _ _=>by kernel_rfl,fun s v w hv=>by
 go_enter h0k,h0u
 go_wp2
 go_ret
 exact⟨rfl,(BA _ w).alloc (Av _) _⟩⟩
theorem h1g:P.funcs[405]?=some E5:=by kernel_rfl
theorem h1t:E5.ntmps=5:=by kernel_rfl
theorem h2e:WT 374 405:=⟨by decide,by kernel_rfl,by kernel_rfl,a6t (a3a (by kernel_rfl)),fun _ _=>by kernel_rfl,fun s v w hv=>by
 go_enter h1g,h1t
 go_wp2
 go_ret
 exact⟨rfl,(BA _ w).alloc (Av _) _⟩⟩
theorem h0x:P.funcs[407]?=some E6:=by kernel_rfl
theorem h0h:E6.ntmps=5:=by kernel_rfl
theorem h1o:WT 386 407:=⟨by decide,by kernel_rfl,by kernel_rfl,a6t (a3a (by kernel_rfl)),fun _ _=>by kernel_rfl,fun s v w hv=>by
 go_enter h0x,h0h
 go_wp2
 go_ret
 exact⟨rfl,(BA _ w).alloc (Av _) _⟩⟩
theorem h1b:P.funcs[409]?=some E7:=by kernel_rfl
theorem h2p:E7.ntmps=5:=by kernel_rfl
theorem h1s:WT 398 409:=⟨by decide,by kernel_rfl,by kernel_rfl,a6t (a3a (by kernel_rfl)),fun _ _=>by kernel_rfl,fun s v w hv=>by
 go_enter h1b,h2p
 go_wp2
 go_ret
 exact⟨rfl,(BA _ w).alloc (Av _) _⟩⟩
theorem h2i:P.funcs[411]?=some E8:=by kernel_rfl
theorem h0z:E8.ntmps=5:=by kernel_rfl
theorem h2k:WT 408 411:=⟨by decide,by kernel_rfl,by kernel_rfl,a6t (a3a (by kernel_rfl)),fun _ _=>by kernel_rfl,fun s v w hv=>by
 go_enter h2i,h0z
 go_wp2
 go_ret
 exact⟨rfl,(BA _ w).alloc (Av _) _⟩⟩
def wsl:List Nat:=[173,319,362,366,370,372,374,386,398,408]
theorem g4f(t:Nat)(h:t∈wsl):∃u,WT t u:=by
 simp only[wsl,List.mem_cons,List.not_mem_nil,or_false] at h;rcases h with rfl|rfl|rfl|rfl|rfl|rfl|rfl|rfl|rfl|rfl
 ·exact⟨_,h1u⟩
 ·exact⟨_,h0n⟩
 ·exact⟨_,h0w⟩
 ·exact⟨_,h2g⟩
 ·exact⟨_,h0v⟩
 ·exact⟨_,h0r⟩
 ·exact⟨_,h2e⟩
 ·exact⟨_,h1o⟩
 ·exact⟨_,h1s⟩
 ·exact⟨_,h2k⟩
theorem S48(A:Amb)(hA:HA A)(n:Nat):a7s A P cH 48 s48 (a1x n) :=
 f9m (ws:=wsl) hA.1 g7v g6e g1u (fun t h=>(g4f t h).elim fun _ q=>h0d q) (fun t h=>(g4f t h).elim fun _ q=>g9o q)
theorem T48(A:Amb)(hA:HA A)(n:Nat):c3v A P cH (48,⟨s48,a1x n⟩):=⟨g8e,S48 A hA n⟩
end Go.Rb.R5
