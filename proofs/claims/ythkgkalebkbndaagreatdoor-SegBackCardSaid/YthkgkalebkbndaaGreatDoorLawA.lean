/- Kinds, names, tables of a seat. Printed by a program of our own. -/
import Derived.Test.YthkgkalebkbndaaGreatDoorRbE
import Derived.Test.YthkgkalebkbndaaGreatDoorRbI
import Derived.Test.YthkgkalebkbndaaGreatDoorChecked
import Derived.KernelRfl
import Derived.Eval
import Derived.WalkKit
import Derived.LaidEql
import Derived.Stop.Asserts
import Derived.RowKitTokens
import Derived.LoopN
import Derived.Laws.Externs
import Derived.Deep.Draws
import Derived.Deep.LoopGhost
import Derived.Lib.Bytealg
import Derived.Lib.Walk
import Derived.Shelf.RegionOpenPlain
import Derived.Shelf.SlLaysF0
import Derived.Shelf.SlSortCmp.NoneTotal
import Derived.Test.YthkgkalebkbndaaGreatDoorRbG
set_option autoImplicit false
set_option linter.unusedVariables false
set_option linter.unusedSimpArgs false
namespace Go.Rb.R5
open Go.Rb
abbrev V4:Type:=Int×Int×List Int×Unit
abbrev tI:Ty:=.int .i64
abbrev tB:Ty:=.int .u8
abbrev tU:Ty:=.int .u64
abbrev a1w:Nat:=7
abbrev a1v:Nat:=8
abbrev a1g:Nat:=9
abbrev a2z:Nat:=10
abbrev a3r:Nat:=11
abbrev b0v:Nat:=12
abbrev a4c:Nat:=13
abbrev a3d:Nat:=15
abbrev a2p:Nat:=16
abbrev a4s:Nat:=158
abbrev e9q:Nat:=173
abbrev b8g:Nat:=244
abbrev d4y:Nat:=319
abbrev a3p:Nat:=362
abbrev a3v:Nat:=366
abbrev a2t:Nat:=370
abbrev a6q:Nat:=372
abbrev a7u:Nat:=374
abbrev a8g:Nat:=386
abbrev a6g:Nat:=398
abbrev b8i:Nat:=408
def tys:List (Nat×Ty):=[(2,tI),(3,tI),(4,.bool),(5,tB),(9,.str),(20,.err),(22,(.sl .imm 1 tB)),(24,(.sl .imm 32 (.st (.pair tI (.pair .str (.pair tI .unit)))))),(26,(.st (.pair (.sl .imm 32 (.st (.pair tI (.pair .str (.pair tI .unit))))) (.pair tI .unit)))),(27,(.sl .imm 8 tI)),(29,(.st (.pair tI (.pair tI (.pair tI (.pair (.sl .imm 8 tI) .unit)))))),(30,(.sl .imm 24 (.sl .imm 32 (.st (.pair tI (.pair tI (.pair .str .unit))))))),(31,(.sl .imm 40 (.st (.pair (.st (.pair tI (.pair tI .unit))) (.pair tI (.pair tI (.pair tI .unit))))))),(33,(.st (.pair tI (.pair tI (.pair .str .unit))))),(35,(.st (.pair tI (.pair tI (.pair .str (.pair tI (.pair (.st (.pair tI (.pair tI (.pair .str .unit)))) (.pair tB (.pair tI .unit))))))))),(37,(.st (.pair tI (.pair (.st (.pair (.sl .imm 32 (.st (.pair tI (.pair .str (.pair tI .unit))))) (.pair tI .unit))) (.pair (.st (.pair tI (.pair tI (.pair tI (.pair (.sl .imm 8 tI) .unit))))) (.pair (.sl .imm 24 (.sl .imm 32 (.st (.pair tI (.pair tI (.pair .str .unit)))))) (.pair (.sl .imm 40 (.st (.pair (.st (.pair tI (.pair tI .unit))) (.pair tI (.pair tI (.pair tI .unit)))))) (.pair .bool (.pair (.st (.pair tI (.pair tI (.pair .str (.pair tI (.pair (.st (.pair tI (.pair tI (.pair .str .unit)))) (.pair tB (.pair tI .unit)))))))) (.pair (.st (.pair (.sl .imm 32 (.st (.pair tI (.pair .str (.pair tI .unit))))) (.pair tI .unit))) (.pair (.st (.pair tI (.pair tI (.pair tI (.pair (.sl .imm 8 tI) .unit))))) (.pair (.sl .imm 40 (.st (.pair (.st (.pair tI (.pair tI .unit))) (.pair tI (.pair tI (.pair tI .unit)))))) (.pair tI (.pair tI .unit)))))))))))))),(45,(.st (.pair tI (.pair (.st (.pair tI (.pair (.st (.pair (.sl .imm 32 (.st (.pair tI (.pair .str (.pair tI .unit))))) (.pair tI .unit))) (.pair (.st (.pair tI (.pair tI (.pair tI (.pair (.sl .imm 8 tI) .unit))))) (.pair (.sl .imm 24 (.sl .imm 32 (.st (.pair tI (.pair tI (.pair .str .unit)))))) (.pair (.sl .imm 40 (.st (.pair (.st (.pair tI (.pair tI .unit))) (.pair tI (.pair tI (.pair tI .unit)))))) (.pair .bool (.pair (.st (.pair tI (.pair tI (.pair .str (.pair tI (.pair (.st (.pair tI (.pair tI (.pair .str .unit)))) (.pair tB (.pair tI .unit)))))))) (.pair (.st (.pair (.sl .imm 32 (.st (.pair tI (.pair .str (.pair tI .unit))))) (.pair tI .unit))) (.pair (.st (.pair tI (.pair tI (.pair tI (.pair (.sl .imm 8 tI) .unit))))) (.pair (.sl .imm 40 (.st (.pair (.st (.pair tI (.pair tI .unit))) (.pair tI (.pair tI (.pair tI .unit)))))) (.pair tI (.pair tI .unit))))))))))))) (.pair (.sl .imm 24 (.sl .imm 32 (.st (.pair tI (.pair tI (.pair .str .unit)))))) (.pair tI (.pair (.sl .imm 40 (.st (.pair (.st (.pair tI (.pair tI .unit))) (.pair tI (.pair tI (.pair tI .unit)))))) (.pair (.sl .imm 40 (.st (.pair (.st (.pair tI (.pair tI .unit))) (.pair tI (.pair tI (.pair tI .unit)))))) (.pair (.st (.pair tI (.pair tI (.pair .str (.pair tI (.pair (.st (.pair tI (.pair tI (.pair .str .unit)))) (.pair tB (.pair tI .unit)))))))) .unit))))))))),(46,(.st (.pair tI (.pair (.st (.pair tI (.pair (.st (.pair (.sl .imm 32 (.st (.pair tI (.pair .str (.pair tI .unit))))) (.pair tI .unit))) (.pair (.st (.pair tI (.pair tI (.pair tI (.pair (.sl .imm 8 tI) .unit))))) (.pair (.sl .imm 24 (.sl .imm 32 (.st (.pair tI (.pair tI (.pair .str .unit)))))) (.pair (.sl .imm 40 (.st (.pair (.st (.pair tI (.pair tI .unit))) (.pair tI (.pair tI (.pair tI .unit)))))) (.pair .bool (.pair (.st (.pair tI (.pair tI (.pair .str (.pair tI (.pair (.st (.pair tI (.pair tI (.pair .str .unit)))) (.pair tB (.pair tI .unit)))))))) (.pair (.st (.pair (.sl .imm 32 (.st (.pair tI (.pair .str (.pair tI .unit))))) (.pair tI .unit))) (.pair (.st (.pair tI (.pair tI (.pair tI (.pair (.sl .imm 8 tI) .unit))))) (.pair (.sl .imm 40 (.st (.pair (.st (.pair tI (.pair tI .unit))) (.pair tI (.pair tI (.pair tI .unit)))))) (.pair tI (.pair tI .unit))))))))))))) (.pair (.sl .imm 24 (.sl .imm 32 (.st (.pair tI (.pair tI (.pair .str .unit)))))) (.pair tI (.pair (.sl .imm 40 (.st (.pair (.st (.pair tI (.pair tI .unit))) (.pair tI (.pair tI (.pair tI .unit)))))) (.pair (.sl .imm 40 (.st (.pair (.st (.pair tI (.pair tI .unit))) (.pair tI (.pair tI (.pair tI .unit)))))) (.pair (.st (.pair tI (.pair tI (.pair .str (.pair tI (.pair (.st (.pair tI (.pair tI (.pair .str .unit)))) (.pair tB (.pair tI .unit)))))))) .unit))))))))),(49,(.sl .imm 16 (.st (.pair tI (.pair tI .unit))))),(53,(.st (.pair tI (.pair tI .unit)))),(55,(.int .u16)),(57,(.sl .imm 24 (.sl .imm 1 tB))),(61,(.sl .imm 32 (.st (.pair tI (.pair tI (.pair .str .unit)))))),(62,(.sl .imm 32 (.st (.pair tI (.pair tI (.pair .str .unit)))))),(64,(.st (.pair (.st (.pair tI (.pair tI .unit))) (.pair tI (.pair tI (.pair tI .unit)))))),(66,(.sl .imm 72 (.st (.pair tI (.pair (.st (.pair tI (.pair tI (.pair .str .unit)))) (.pair (.st (.pair tI (.pair tI (.pair .str .unit)))) .unit)))))),(67,(.sl .imm 24 (.sl .imm 32 (.st (.pair tI (.pair tI (.pair .str .unit))))))),(69,(.st (.pair tI (.pair tI (.pair tI (.pair (.sl .imm 8 tI) (.pair (.sl .imm 8 tI) (.pair (.sl .imm 72 (.st (.pair tI (.pair (.st (.pair tI (.pair tI (.pair .str .unit)))) (.pair (.st (.pair tI (.pair tI (.pair .str .unit)))) .unit))))) (.pair (.sl .imm 24 (.sl .imm 32 (.st (.pair tI (.pair tI (.pair .str .unit)))))) .unit))))))))),(73,(.sl .imm 120 (.st (.pair tI (.pair tI (.pair tI (.pair (.sl .imm 8 tI) (.pair (.sl .imm 8 tI) (.pair (.sl .imm 72 (.st (.pair tI (.pair (.st (.pair tI (.pair tI (.pair .str .unit)))) (.pair (.st (.pair tI (.pair tI (.pair .str .unit)))) .unit))))) (.pair (.sl .imm 24 (.sl .imm 32 (.st (.pair tI (.pair tI (.pair .str .unit)))))) .unit)))))))))),(83,(.arr 4 (.int .u16))),(84,(.arr 4 tB)),(86,(.arr 3 (.int .u16))),(87,(.arr 3 tB)),(90,(.st (.pair tI (.pair (.st (.pair tI (.pair tI (.pair .str .unit)))) (.pair (.st (.pair tI (.pair tI (.pair .str .unit)))) .unit))))),(101,.err),(123,(.st (.pair (.sl .imm 1 tB) .unit))),(134,(.st (.pair tI (.pair .bool .unit)))),(135,(.sl .imm 16 (.st (.pair tI (.pair .bool .unit))))),(137,(.st (.pair tI (.pair .str (.pair tI .unit))))),(150,tU),(158,(.st (.pair tI .unit))),(167,(.st (.pair (.sl .imm 1 tB) (.pair tI .unit)))),(173,(.st (.pair .str (.pair .err .unit)))),(183,(.sl .imm 24 (.sl .imm 40 (.st (.pair (.st (.pair tI (.pair tI .unit))) (.pair tI (.pair tI (.pair tI .unit)))))))),(206,(.st (.pair (.sl .imm 1 tB) (.pair .bool .unit)))),(227,tU),(228,(.sl .imm 1 .bool)),(230,(.lf (.cfs [(1,217),(2,219),(3,221),(4,223),(5,225)]))),(231,(.lf (.cfs [(1,218),(2,220),(3,222),(4,224),(5,226)]))),(233,(.st (.pair (.lf (.cfs [(1,217),(2,219),(3,221),(4,223),(5,225)])) (.pair (.lf (.cfs [(1,218),(2,220),(3,222),(4,224),(5,226)])) .unit)))),(234,(.lf (.fmap [(1,217,218),(2,219,220),(3,221,222),(4,223,224),(5,225,226)]))),(244,(.st (.pair tI (.pair .err .unit)))),(263,(.sl .imm 8 tI)),(264,(.sl .imm 16 .str)),(268,(.st (.pair (.st (.pair (.sl .imm 32 (.st (.pair tI (.pair .str (.pair tI .unit))))) (.pair tI .unit))) (.pair (.st (.pair tI (.pair tI (.pair tI (.pair (.sl .imm 8 tI) .unit))))) (.pair (.st (.pair tI (.pair tI (.pair .str (.pair tI (.pair (.st (.pair tI (.pair tI (.pair .str .unit)))) (.pair tB (.pair tI .unit)))))))) (.pair tI .unit)))))),(297,(.ptr tI)),(298,(.sl .imm 8 (.ptr tI))),(306,(.sl .imm 8 tU)),(319,(.st (.pair .str (.pair .err .unit)))),(329,(.int .u32)),(339,(.ptr (.st (.pair tI (.pair tI (.pair .str .unit)))))),(340,(.sl .imm 8 (.ptr (.st (.pair tI (.pair tI (.pair .str .unit))))))),(354,tU),(362,(.st (.pair .str (.pair .err .unit)))),(366,(.st (.pair .str (.pair .err .unit)))),(370,(.st (.pair .str (.pair .err .unit)))),(372,(.st (.pair .str (.pair .err .unit)))),(374,(.st (.pair .str (.pair .err .unit)))),(386,(.st (.pair .str (.pair .err .unit)))),(396,(.int .i16)),(398,(.st (.pair .str (.pair .err .unit)))),(408,(.st (.pair .str (.pair .err .unit)))),(413,(.ptr (.st (.pair .str .unit)))),(432,(.st (.pair .str .unit)))]
def gls:Nat→Option ((t:Ty)×t.den):=find? [(7,⟨.err,(UV.sent a1w)⟩),(8,⟨.err,(UV.sent a1v)⟩),(9,⟨.err,(UV.sent a1g)⟩),(10,⟨.err,(UV.sent a2z)⟩),(11,⟨.err,(UV.sent a3r)⟩),(12,⟨.err,(UV.sent b0v)⟩),(13,⟨.err,(UV.sent a4c)⟩),(15,⟨.err,(UV.sent a3d)⟩),(16,⟨.err,(UV.sent a2p)⟩)]
noncomputable abbrev P:Program:=Go.Proofs.Tryz.prog
set_option maxRecDepth 100000
theorem mixed:P.follows .mixedOrders=true:=Go.Proofs.Tryz.checked.mixed
theorem tab{C:Ctx}(h:C.ty=find? tys):a3h P C:=g5o (by kernel_rfl) h
def cH:Ctx:=⟨0,find? tys,fun _=>none,gls,[],[],[]⟩
theorem mkF{A:Amb}{f:Nat}{sg:Sig}{G:sg.arg→Option sg.res}(n k:Nat)(hs:Hints)(l:List (Nat×FEnt))(fz el:List Nat)(fn:Func)(hf:P.funcs[f]?=some fn)(hc:g3j P f=true)
  (he:∀x,e4x ⟨k,find? tys,find? l,gls,[],fz,el⟩ hs n fn sg x=G x) (h:c6v A P cH l):a0s A P cH (f,⟨sg,G⟩) :=
 ⟨a9o hc,(d8b (C:=⟨k,find? tys,find? l,gls,[],fz,el⟩) mixed (tab rfl) (g4u (l:=l) rfl (c6v.of (C:=cH) (C':=⟨k,find? tys,find? l,gls,[],fz,el⟩) rfl h)) hf fun x y hx=>(he x).trans hx).of rfl⟩
abbrev tyV(t:Nat):Value:=.pointer (some ⟨17,t,none⟩)
abbrev HA(A:Amb):Prop:=(∀g T a,A.sent g=some (T,a)→T=413)∧A.raw=[(1,.iface 272 (.agg #[tyV 101]))]
end Go.Rb.R5

namespace Go.Rb.R5
open Go.Rb
open Go.RowKit Go.Extern.Stop Go.Stop
set_option maxRecDepth 100000
theorem f8n:P.funcs[100]?=some Go.Proofs.Tryz.f100:=by kernel_rfl
theorem f9w:Go.Proofs.Tryz.f100.ntmps=42:=by kernel_rfl
theorem f9o:P.funcs[181]?=some Go.Proofs.Tryz.f181:=by kernel_rfl
theorem f9a:Go.Proofs.Tryz.f181.ntmps=62:=by kernel_rfl
theorem f2n:P.funcs[178]?=some Go.Proofs.Tryz.f178:=by kernel_rfl
theorem g5j:P.funcs[179]?=some Go.Proofs.Tryz.f179:=by kernel_rfl
theorem g5g:P.funcs[180]?=some Go.Proofs.Tryz.f180:=by kernel_rfl
theorem g3z:P.funcs[372]?=some Go.Proofs.Tryz.f372:=by kernel_rfl
theorem g4t:P.funcs[386]?=some Go.Proofs.Tryz.f386:=by kernel_rfl
theorem g4f:P.funcs[387]?=some Go.Proofs.Tryz.f387:=by kernel_rfl
theorem g0e:P.funcs[112]?=some Go.Proofs.Tryz.f112:=by kernel_rfl
theorem f8s:P.funcs[384]?=some Go.Proofs.Tryz.f384:=by kernel_rfl
theorem f8r:P.funcs[237]?=some Go.Proofs.Tryz.f237:=by kernel_rfl
theorem f9k:P.funcs[238]?=some Go.Proofs.Tryz.f238:=by kernel_rfl
abbrev VP(a:Addr):Value:=.agg #[tyV 160,.pointer (some a),.int .u64 150]
abbrev VF(a:Addr):Value:=.agg #[tyV 158,.pointer (some a),.int .u64 153]
abbrev VG(a:Addr):Value:=.agg #[tyV 158,.pointer (some a),.int .u64 409]
def g2k:Array Value→Sem Value:=Extern.ReflectliteType.abiMethod fun t=>do pure (.int .u8 (←Extern.Rtype.kind t))
def g4h:Array Value→Sem Value:=Extern.ReflectliteType.method Extern.ReflectliteType.elem
def g3w : Array Value → Sem Value := Extern.ReflectliteType.relation "Implements" Extern.ReflectliteType.implements_
def f7i : Array Value → Sem Value := Extern.ReflectliteType.relation "AssignableTo" Extern.ReflectliteType.assignableTo
def g4o : Array Value → Sem Value := Extern.ReflectliteValue.methodAny (Extern.ReflectliteValue.valueError "reflectlite.Value.Type" 0) (fun t _ _ _ => Extern.ReflectliteType.toType t)
theorem g6f(t:Addr)(w:World):(Extern.ReflectliteValue.unpack (.iface 160 (.pointer (some t)))).run P w=.ok (VP ⟨w.heap.size,0,none⟩) (w.alloc (.cells #[.pointer (some t)] 160)):=by kernel_rfl
theorem g1t(a:Addr)(w:World):(g4o #[VP a]).run P w=.ok (.iface 272 (.agg #[tyV 160])) w:=by kernel_rfl
theorem g0w (h : Value) (w : World) : (Go.method 543 272 (.agg #[h]) "Kind").run P w = .ok (372, h) w := by kernel_rfl
theorem g1c (h : Value) (w : World) : (Go.method 543 272 (.agg #[h]) "Elem").run P w = .ok (386, .agg #[h]) w := by kernel_rfl
theorem g3o (h : Value) (w : World) : (Go.method 543 272 (.agg #[h]) "Implements").run P w = .ok (387, .agg #[h]) w := by kernel_rfl
theorem f9q (h : Value) (w : World) : (Go.method 543 272 (.agg #[h]) "AssignableTo").run P w = .ok (384, .agg #[h]) w := by kernel_rfl
theorem g1z(w:World):(g2k #[tyV 160]).run P w=.ok (.int .u8 22) w:=by kernel_rfl
theorem g2b(w:World):(g2k #[tyV 158]).run P w=.ok (.int .u8 25) w:=by kernel_rfl
theorem g3q(w:World):(g4h #[.agg #[tyV 160]]).run P w=.ok (.iface 272 (.agg #[tyV 158])) w:=by kernel_rfl
theorem g0z(w:World):(g3w #[.agg #[tyV 158],.iface 272 (.agg #[tyV 101])]).run P w=.ok (.bool true) w:=by kernel_rfl
theorem e1m(v:Value)(w:World):(Extern.ReflectliteType.typeOf #[.iface 158 v]).run P w=.ok (.iface 272 (.agg #[tyV 158])) w:=by kernel_rfl
theorem f9f(w:World):(f7i #[.agg #[tyV 158],.iface 272 (.agg #[tyV 158])]).run P w=.ok (.bool true) w:=by kernel_rfl
theorem g5q(x:Value)(w:World):(Extern.ReflectliteValue.unpack (.iface 158 x)).run P w=.ok (VF ⟨w.heap.size,0,none⟩) (w.alloc (.cells x.cells 158)):=by kernel_rfl
theorem e5p(z:Sem Value)(f:TypeId→Addr→Nat→Nat→Sem Value)(v:Value) :
  Extern.ReflectliteValue.method z f #[v]=(do match ←Extern.ReflectliteValue.parts v with|none=>z|some (t,a,fl)=>f t a fl (fl % 32)):=rfl
theorem e4s(a:Addr)(w:World):(Extern.ReflectliteValue.parts (VP a)).run P w=.ok (some (160,a,150)) w:=by kernel_rfl
theorem f7m(a:Addr)(w:World):(Extern.ReflectliteValue.parts (VF a)).run P w=.ok (some (158,a,153)) w:=by kernel_rfl
theorem f5m(a:Addr)(w:World):(Extern.ReflectliteValue.parts (VG a)).run P w=.ok (some (158,a,409)) w:=by kernel_rfl
theorem g0g(w:World):(isAgg 160).run P w=.ok false w:=by kernel_rfl
theorem g0c(w:World):(isAgg 158).run P w=.ok true w:=by kernel_rfl
theorem f3a(w:World):(sizeOf 158).run P w=.ok 1 w:=by kernel_rfl
theorem g0k:P.underlying 160=some (.pointer 158):=by kernel_rfl
theorem f8j(w:World):(Extern.Rtype.elem? 160).run P w=.ok (some 158) w:=by kernel_rfl
theorem asMk(p:Addr)(w:World):(Extern.ReflectliteValue.mk 158 p Extern.ReflectliteValue.flagAddr).run P w=.ok (VG p) w:=by kernel_rfl
theorem f6o(w:World):(Extern.Rtype.directlyAssignable 158 158).run P w=.ok true w:=by kernel_rfl
def g3d : Array Value → Sem Value := Extern.ReflectliteValue.method (Extern.ReflectliteValue.valueError "reflectlite.Value.IsNil" 0) Extern.ReflectliteValue.isNil
def f1r : Array Value → Sem Value := Extern.ReflectliteValue.method (Extern.ReflectliteValue.valueError "reflectlite.Value.Elem" 0) Extern.ReflectliteValue.elem
theorem g6b(a p:Addr)(W:World)(ha:W.cell? a=some (.pointer (some p))):(g3d #[VP a]).run P W=.ok (.bool false) W:=by
 rw[g3d,e5p]
 simp only[Sem.run_bind,e4s,Result.andThen]
 simp[Extern.ReflectliteValue.isNil,loadVar,g0g,underlying,g0k,ha,Result.andThen]
theorem f1p(a p:Addr)(W:World)(ha:W.cell? a=some (.pointer (some p))):(f1r #[VP a]).run P W=.ok (VG p) W:=by
 rw[f1r,e5p]
 simp only[Sem.run_bind,e4s,Result.andThen]
 simp[Extern.ReflectliteValue.elem,loadVar,g0g,underlying,g0k,ha,Result.andThen,f8j,asMk]
theorem g3v(v x:Value):Extern.ReflectliteValue.set #[v,x]=(do
  let(some (dst,a,fl),some (src,b,_)):=(←Extern.ReflectliteValue.parts v,←Extern.ReflectliteValue.parts x)
   | unsupported (.noEntry "extern/(internal/reflectlite.Value).Set.zeroValue")
  if fl / Extern.ReflectliteValue.flagAddr % 2 == 0 then unsupported (.noEntry "extern/(internal/reflectlite.Value).Set.unaddressable")
  let val ←loadVar src b
  if ←Extern.Rtype.directlyAssignable dst src then storeVar dst a val
  else if ←Extern.Rtype.implements dst src then
   if(←Extern.Rtype.kind src)==20 then
    match val with
    | .nilIface => unsupported (.noEntry "extern/reflectlite: a nil value of one interface type handed on as a value of another")
    |_=>storeVar dst a val
   else storeVar dst a (.iface src val)
  else panicString ("reflectlite.Set: value of type " ++ (← Extern.Rtype.spelt src) ++ " is not assignable to type " ++ (← Extern.Rtype.spelt dst))
  pure (.tuple #[])):=rfl
theorem g6c(ta b:Addr)(n:Int)(old:Value)(W:World)(hb:W.cell? b=some (.int .i64 n))(ht:W.cell? ta=some old)(hf:W.frozen? ta=false) :
  (Extern.ReflectliteValue.set #[VG ta,VF b]).run P W=.ok (.tuple #[]) (W.setCell ta (.int .i64 n)):=by
 rw[g3v]
 simp only[Sem.run_bind,f5m,f7m,Result.andThen]
 have hl:(loadVar 158 b).run P W=.ok (.agg #[.int .i64 n]) W:=by
  simp[loadVar,g0c,f3a,loadCells,loadCellsFrom,hb,Addr.add,Result.andThen]
 simp[Extern.ReflectliteValue.flagAddr,hl,Result.andThen,f6o,storeVar,g0c,f3a,Value.cells,storeCells,Addr.add]
 rw[run_store P W ta _ _ (by rfl)]
 simp[ht,hf]
set_option maxHeartbeats 4000000 in
theorem g3x(t:Value)(w:World):Calls P 100 #[.nilIface,t] w fun e w'=>e=.returned (.bool false)∧w'=w:=by
 go_enter f8n,f9w
 go_wp2
 go_ret
 exact⟨rfl,rfl⟩
theorem g3u:P.funcs[379]?=some Go.Proofs.Tryz.f379:=by kernel_rfl
theorem g5f:Go.Proofs.Tryz.f379.ntmps=5:=by kernel_rfl
theorem g5t (v : Value) (w : World) : (Go.method 543 244 v "Unwrap").run P w = .ok (379, v) w := by kernel_rfl
theorem f2y(v:Value)(w:World):(Extern.ReflectliteType.typeOf #[.iface 244 v]).run P w=.ok (.iface 272 (.agg #[tyV 244])) w:=by kernel_rfl
theorem g4c(w:World):(f7i #[.agg #[tyV 244],.iface 272 (.agg #[tyV 158])]).run P w=.ok (.bool false) w:=by kernel_rfl
theorem g2i:b1v P 244 312=true:=by kernel_rfl
theorem g7k:hasB P 244 277=true:=by kernel_rfl
set_option maxHeartbeats 4000000 in
theorem g6d(c:Value)(v:Value)(w:World)(hc:c.oneCell'=true)(hv:v.oneCell'=true):Calls P 379 #[.agg #[c,v]] w fun e w'=>e=.returned v∧Below w.heap.size w w':=by
 go_enter g3u,g5f
 go_wp2
 go_ret
 exact⟨rfl,(Below.refl _ w).alloc (Nat.le_refl _) _⟩
theorem g0d{k:Nat}{w W:World}{t a b:Addr}{n:Int}{old:Value}(hB:Below k w W)(hk:k≤W.heap.size)(hkt:k≤t.block)(hb:b=⟨W.heap.size,0,none⟩)(ht:W.cell? t=some old)(hf:W.frozen? t=false) :
  ∃W1,W1=W.alloc (.cells #[.int .i64 n] 158)∧(Extern.ReflectliteValue.set #[VG t,VF b]).run P W1=.ok (.tuple #[]) (W1.setCell t (.int .i64 n))∧Below k w (W1.setCell t (.int .i64 n)):=by
 have htl:t.block<W.heap.size:=by
  rcases Nat.lt_or_ge t.block W.heap.size with h|h
  ·exact h
  ·simp[World.cell?,Array.getElem?_eq_none h] at ht
 refine⟨_,rfl,g6c t b n old _ (by rw[hb];simp) (by rw[World.cell?_alloc_lt _ _ t htl];exact ht) (by rw[World.frozen?_alloc_old _ _ t (Nat.ne_of_lt htl)];exact hf),(hB.alloc hk _).setCell hkt _⟩
set_option maxHeartbeats 4000000 in
theorem g2r(k:Nat)(t a:Addr)(n:Int)(x:Value)(hx0:x.cells=#[.int .i64 n])(old:Value)(w:World)(hk:k≤w.heap.size)(hkt:k≤t.block)(ha:w.cell? a=some (.pointer (some t)))(ht:w.cell? t=some old)(hf:w.frozen? t=false) :
  Calls P 181 #[.iface 158 x,.iface 160 (.pointer (some t)),VP a,.iface 272 (.agg #[tyV 158])] w fun e w'=>e=.returned (.bool true)∧Below k w w':=by
 have h10:=@run_callFunc_extern P 112 _ Extern.ReflectliteType.typeOf g0e (by kernel_rfl) (by kernel_rfl) (by kernel_rfl) (by kernel_rfl)
 have h35:=@run_callFunc_extern P 384 _ f7i f8s (by kernel_rfl) (by kernel_rfl) (by kernel_rfl) (by kernel_rfl)
 have h11:=@run_callFunc_extern P 237 _ f1r f8r (by kernel_rfl) (by kernel_rfl) (by kernel_rfl) (by kernel_rfl)
 have h6:=@run_callFunc_extern P 178 _ (fun args=>Extern.ReflectliteValue.unpack (args.getD 0 (.tuple #[]))) f2n (by kernel_rfl) (by kernel_rfl) (by kernel_rfl) (by kernel_rfl)
 have h12:=@run_callFunc_extern P 238 _ Extern.ReflectliteValue.set f9k (by kernel_rfl) (by kernel_rfl) (by kernel_rfl) (by kernel_rfl)
 have tO:=e1m
 have mA:=f9q
 have aF:=f9f
 have vF:∀w:World,(Extern.ReflectliteValue.unpack (.iface 158 x)).run P w=.ok (VF ⟨w.heap.size,0,none⟩) (w.alloc (.cells #[.int .i64 n] 158)):=fun w=>by rw[g5q,hx0]
 have hal:a.block<w.heap.size:=by
  rcases Nat.lt_or_ge a.block w.heap.size with h|h
  ·exact h
  ·simp[World.cell?,Array.getElem?_eq_none h] at ha
 have htl:t.block<w.heap.size:=by
  rcases Nat.lt_or_ge t.block w.heap.size with h|h
  ·exact h
  ·simp[World.cell?,Array.getElem?_eq_none h] at ht
 obtain⟨Wx,rfl,st,hB⟩:=g0d (w:=w) (W:=w.alloc (.cells #[tyV 160,.pointer (some a),.int .u64 150] 248)) (t:=t) (a:=a) (b:=⟨w.heap.size+1,0,none⟩) (n:=n) (old:=old) ((Below.refl k w).alloc hk _) (by simp;omega) hkt (by simp) (by rw[World.cell?_alloc_lt _ _ t htl];exact ht) (by rw[World.frozen?_alloc_old _ _ t (Nat.ne_of_lt htl)];exact hf)
 have el:=f1p a t (w.alloc (.cells #[tyV 160,.pointer (some a),.int .u64 150] 248)) (by rw[World.cell?_alloc_lt _ _ a hal];exact ha)
 go_enter f9o,f9a
 go_wp2
 refine wp_loop_rounds 1 ?_
 rw[rounds_succ]
 go_wp2
 go_ret
 exact⟨rfl,hB⟩
set_option maxHeartbeats 4000000 in
theorem g5s(k:Nat)(t a:Addr)(c:Value)(n:Int)(x:Value)(hx0:x.cells=#[.int .i64 n])(old:Value)(w:World)(hc:c.oneCell'=true)(hk:k≤w.heap.size)(hkt:k≤t.block)(ha:w.cell? a=some (.pointer (some t)))(ht:w.cell? t=some old)(hf:w.frozen? t=false) :
  Calls P 181 #[.iface 244 (.agg #[c,.iface 158 x]),.iface 160 (.pointer (some t)),VP a,.iface 272 (.agg #[tyV 158])] w fun e w'=>e=.returned (.bool true)∧Below k w w':=by
 have h10:=@run_callFunc_extern P 112 _ Extern.ReflectliteType.typeOf g0e (by kernel_rfl) (by kernel_rfl) (by kernel_rfl) (by kernel_rfl)
 have h35:=@run_callFunc_extern P 384 _ f7i f8s (by kernel_rfl) (by kernel_rfl) (by kernel_rfl) (by kernel_rfl)
 have h11:=@run_callFunc_extern P 237 _ f1r f8r (by kernel_rfl) (by kernel_rfl) (by kernel_rfl) (by kernel_rfl)
 have h6:=@run_callFunc_extern P 178 _ (fun args=>Extern.ReflectliteValue.unpack (args.getD 0 (.tuple #[]))) f2n (by kernel_rfl) (by kernel_rfl) (by kernel_rfl) (by kernel_rfl)
 have h12:=@run_callFunc_extern P 238 _ Extern.ReflectliteValue.set f9k (by kernel_rfl) (by kernel_rfl) (by kernel_rfl) (by kernel_rfl)
 have tO:=e1m
 have tI:=f2y
 have mA:=f9q
 have aF:=f9f
 have aI:=g4c
 have vF:∀w:World,(Extern.ReflectliteValue.unpack (.iface 158 x)).run P w=.ok (VF ⟨w.heap.size,0,none⟩) (w.alloc (.cells #[.int .i64 n] 158)):=fun w=>by rw[g5q,hx0]
 have nL:=a0a g2i
 have nH:=a1y g7k
 have mU:=g5t
 have hal:a.block<w.heap.size:=by
  rcases Nat.lt_or_ge a.block w.heap.size with h|h
  ·exact h
  ·simp[World.cell?,Array.getElem?_eq_none h] at ha
 have htl:t.block<w.heap.size:=by
  rcases Nat.lt_or_ge t.block w.heap.size with h|h
  ·exact h
  ·simp[World.cell?,Array.getElem?_eq_none h] at ht
 have fin:∀W':World,Below (w.heap.size+1) (w.alloc (.cells #[tyV 160,.pointer (some a),.int .u64 150] 248)) W' →
   (f1r #[VP a]).run P W'=.ok (VG t) W'∧(Extern.ReflectliteValue.set #[VG t,VF ⟨W'.heap.size,0,none⟩]).run P (W'.alloc (.cells #[.int .i64 n] 158))=.ok (.tuple #[]) ((W'.alloc (.cells #[.int .i64 n] 158)).setCell t (.int .i64 n)) ∧
   Below k w ((W'.alloc (.cells #[.int .i64 n] 158)).setCell t (.int .i64 n))∧W'.cell? ⟨w.heap.size,0,none⟩=some (tyV 160)∧W'.cell? ⟨w.heap.size,1,none⟩=some (.pointer (some a))∧W'.cell? ⟨w.heap.size,2,none⟩=some (.int .u64 150):=by
  intro W' hB'
  have hs:=hB'.size
  simp at hs
  obtain⟨Wx,rfl,st,hB⟩:=g0d (k:=k) (w:=w) (W:=W') (t:=t) (a:=a) (b:=⟨W'.heap.size,0,none⟩) (n:=n) (old:=old) (((Below.refl k w).alloc hk _).trans (hB'.mono (by omega))) (by omega) hkt rfl (by rw[hB'.cell (by omega),World.cell?_alloc_lt _ _ t htl];exact ht) (by rw[hB'.frozen (by omega),World.frozen?_alloc_old _ _ t (Nat.ne_of_lt htl)];exact hf)
  exact⟨f1p a t W' (by rw[hB'.cell (by omega),World.cell?_alloc_lt _ _ a hal];exact ha),st,hB,by rw[hB'.cell (by simp)];simp,by rw[hB'.cell (by simp)];simp,by rw[hB'.cell (by simp)];simp⟩
 have hu:=g6d c (.iface 158 x) (w.alloc (.cells #[tyV 160,.pointer (some a),.int .u64 150] 248)) hc rfl
 go_enter f9o,f9a
 go_wp2
 refine wp_loop_rounds 2 ?_
 rw[rounds_succ]
 go_wp2_with (go_at_call 379;refine hu.mono ?_;rintro e w' ⟨rfl,hx⟩;obtain⟨el,st,hB,c0,c1,c2⟩:=fin w' (by simpa using hx))
 rw[rounds_succ]
 go_wp2
 go_ret
 exact⟨rfl,by assumption⟩
set_option maxHeartbeats 4000000 in
theorem f8y(v:Value)(t:Addr)(old:Value)(w:World)(k:Nat)(hv:v≠.nilIface)(hI:∃T x,v=.iface T x)(hg:w.cell? ⟨1,0,none⟩=some (.iface 272 (.agg #[tyV 101])))(hk:k≤w.heap.size)(hkt:k≤t.block)(ht:w.cell? t=some old)(hf:w.frozen? t=false)
  (hz:∀(a:Addr) (W:World),k≤W.heap.size→W.cell? a=some (.pointer (some t))→W.cell? t=some old→W.frozen? t=false→Calls P 181 #[v,.iface 160 (.pointer (some t)),VP a,.iface 272 (.agg #[tyV 158])] W fun e w'=>e=.returned (.bool true)∧Below k W w') :
  Calls P 100 #[v,.iface 160 (.pointer (some t))] w fun e w'=>e=.returned (.bool true)∧Below k w w':=by
 obtain⟨T,x,rfl⟩:=hI
 have h6:=@run_callFunc_extern P 178 _ (fun args=>Extern.ReflectliteValue.unpack (args.getD 0 (.tuple #[]))) f2n (by kernel_rfl) (by kernel_rfl) (by kernel_rfl) (by kernel_rfl)
 have h7:=@run_callFunc_extern P 179 _ g4o g5j (by kernel_rfl) (by kernel_rfl) (by kernel_rfl) (by kernel_rfl)
 have h8:=@run_callFunc_extern P 180 _ g3d g5g (by kernel_rfl) (by kernel_rfl) (by kernel_rfl) (by kernel_rfl)
 have h27:=@run_callFunc_extern P 372 _ g2k g3z (by kernel_rfl) (by kernel_rfl) (by kernel_rfl) (by kernel_rfl)
 have h37:=@run_callFunc_extern P 386 _ g4h g4t (by kernel_rfl) (by kernel_rfl) (by kernel_rfl) (by kernel_rfl)
 have h38:=@run_callFunc_extern P 387 _ g3w g4f (by kernel_rfl) (by kernel_rfl) (by kernel_rfl) (by kernel_rfl)
 have f6:=g6f
 have f7:=g1t
 have mK:=g0w
 have mE:=g1c
 have mI:=g3o
 have kP:=g1z
 have kF:=g2b
 have eP:=g3q
 have iF:=g0z
 have htl:t.block<w.heap.size:=by
  rcases Nat.lt_or_ge t.block w.heap.size with h|h
  ·exact h
  ·simp[World.cell?,Array.getElem?_eq_none h] at ht
 have hlt:1<w.heap.size:=by
  rcases Nat.lt_or_ge 1 w.heap.size with h|h
  ·exact h
  ·simp[World.cell?,Array.getElem?_eq_none h] at hg
 have n8:=g6b ⟨w.heap.size,0,none⟩ t ((w.alloc (.cells #[.pointer (some t)] 160)).alloc (.cells #[tyV 160,.pointer (some ⟨w.heap.size,0,none⟩),.int .u64 150] 248)) (by simp)
 have hg2:((w.alloc (.cells #[.pointer (some t)] 160)).alloc (.cells #[tyV 160,.pointer (some ⟨w.heap.size,0,none⟩),.int .u64 150] 248)).cell? ⟨1,0,none⟩=some (.iface 272 (.agg #[tyV 101])):=by
  rw[World.cell?_alloc_lt _ _ ⟨1,0,none⟩ (by simp;omega),World.cell?_alloc_lt _ _ ⟨1,0,none⟩ hlt];exact hg
 have hz2:=hz ⟨w.heap.size,0,none⟩ ((w.alloc (.cells #[.pointer (some t)] 160)).alloc (.cells #[tyV 160,.pointer (some ⟨w.heap.size,0,none⟩),.int .u64 150] 248)) (by simp;omega) (by simp)
  (by rw[World.cell?_alloc_lt _ _ t (by simp;omega),World.cell?_alloc_lt _ _ t htl];exact ht) (by rw[World.frozen?_alloc_old _ _ t (by simp;omega),World.frozen?_alloc_old _ _ t (Nat.ne_of_lt htl)];exact hf)
 have hB0:Below k w ((w.alloc (.cells #[.pointer (some t)] 160)).alloc (.cells #[tyV 160,.pointer (some ⟨w.heap.size,0,none⟩),.int .u64 150] 248)):=((Below.refl k w).alloc hk _).alloc (by simp;omega) _
 go_enter f8n,f9w
 go_wp2_with (go_at_call 181;refine hz2.mono ?_;rintro e w' ⟨rfl,hx⟩)
 go_ret
 exact⟨rfl,hB0.trans hx⟩
def asU:UV→Option Bool
 |.nil=>some false
 |.node T (.pair (.int .i64 _) .unit)=>if T=158 then some true else none
 |.node T (.pair (.int .i64 _) (.pair (.node T' (.pair (.int .i64 _) .unit)) .unit))=>if T=244∧T'=158 then some true else none
 |_=>none
theorem f5b{x:Value}{l:List Value}(h:x.cells.toList=l)(hl:l.length≠1):x=.agg l.toArray:=by
 cases x with
 |agg ar=>simp only[Value.cells] at h;rw[←h]
 |_=>simp only[Value.cells] at h;subst h;simp at hl
theorem g3t{A:Amb}{u:UV}{ev:Value}{b:Bool}(hu:RepC A u [ev])(hb:asU u=some b){t:Addr}{old:Value}{w:World}{k:Nat}(hg:w.cell? ⟨1,0,none⟩=some (.iface 272 (.agg #[tyV 101])))
  (hk:k≤w.heap.size) (hkt:k≤t.block) (ht:w.cell? t=some old) (hf:w.frozen? t=false):Calls P 100 #[ev,.iface 160 (.pointer (some t))] w fun e w'=>e=.returned (.bool b)∧Below k w w':=by
 unfold asU at hb
 split at hb
 ·cases hb
  simp only[RepC,List.cons.injEq,and_true] at hu
  subst hu
  exact(g3x _ w).mono fun e w' ⟨h1,h2⟩=>⟨h1,h2 ▸ Below.refl _ _⟩
 ·rename_i T n
  split at hb
  ·rename_i hT
   subst hT
   cases hb
   obtain⟨x,h1,c1,c2,h2,rfl,rfl⟩:=hu
   simp only[List.cons.injEq,and_true] at h1
   subst h1
   have hx0:x.cells=#[.int .i64 n]:=by rw[←Array.toArray_toList (xs:=x.cells),h2];rfl
   exact f8y _ t old w k (by simp) ⟨_,_,rfl⟩ hg hk hkt ht hf fun a W q1 q2 q3 q4=>g2r k t a n x hx0 old W q1 hkt q2 q3 q4
  ·cases hb
 ·rename_i T c T' n
  split at hb
  ·rename_i hT
   obtain⟨rfl,rfl⟩:=hT
   cases hb
   obtain⟨x,h1,c1,c2,h2,rfl,c3,c4,rfl,⟨y,rfl,c5,c6,h3,rfl,rfl⟩,rfl⟩:=hu
   simp only[List.cons.injEq,and_true] at h1
   subst h1
   have hy0:y.cells=#[.int .i64 n]:=by rw[←Array.toArray_toList (xs:=y.cells),h3];rfl
   have hx0:=f5b h2 (by simp)
   subst hx0
   exact f8y _ t old w k (by simp) ⟨_,_,rfl⟩ hg hk hkt ht hf fun a W q1 q2 q3 q4=>g5s k t a (.int .i64 c) n y hy0 old W rfl q1 hkt q2 q3 q4
  ·cases hb
 ·cases hb
end Go.Rb.R5

namespace Go.Rb.R5
open Go.Rb
open Go.RowKit
set_option maxRecDepth 100000
def s96:Sig:=⟨[.val (.sl .imm 32 (.st (.pair tI (.pair tI (.pair .str .unit)))))],[.val (.sl .own 32 (.st (.pair tI (.pair tI (.pair .str .unit)))))]⟩
def a0b(_n:Nat)(x:(List V4)×Unit):Option (((List V4)×Unit)×(Unit)):=some ((x.1,()),())
theorem nt96:Go.Proofs.Tryz.f96.ntmps=8:=by kernel_rfl
theorem fn96:P.funcs[96]?=some Go.Proofs.Tryz.f96:=by kernel_rfl
theorem g5c:a5h P 96:=a9o (by kernel_rfl)
theorem uT96:P.underlying 61=some (.slice 33):=by kernel_rfl
set_option maxHeartbeats 4000000 in
set_option maxRecDepth 1000000 in
theorem e2g(w:World)(n cap:Nat):Calls P 96 #[.slice none n cap] w fun e w'=>e=.returned (.slice none 0 0)∧w'=w:=by
 go_enter fn96,nt96
 go_wp2
 rw[Lib.run_eql_slice_nil _ _ _ _ _ _ _ _ uT96]
 go_wp2
 go_ret
 exact⟨rfl,rfl⟩
set_option maxHeartbeats 4000000 in
set_option maxRecDepth 1000000 in
theorem d9c(w:World)(ad:Addr)(n cap:Nat)(v':Value)(w':World)(happ:(Builtin.append_ #[61,61] 61 #[.slice (some ⟨w.heap.size,0,none⟩) 0 0,.slice (some ad) n cap]).run P (w.alloc (.cells #[] 33))=.ok v' w') :
  Calls P 96 #[.slice (some ad) n cap] w fun e w''=>e=.returned v'∧w''=w':=by
 go_enter fn96,nt96
 go_upto_region 3 with fail
 rw[Lib.run_eql_slice_nil _ _ _ _ _ _ _ _ uT96]
 go_upto_region 3 with fail
 refine wp_region_lit ?_
 refine wl rfl (.slice (some ⟨w.heap.size,0,none⟩) 0 0) (w1:=w.alloc (.cells #[] 33)) (by go_simp) ?_
 refine wl rfl (.slice (some ad) n cap) (w1:=w.alloc (.cells #[] 33)) rfl ?_
 refine c8o rfl (.tmp 5) (.tmp 6) 61 61 rfl rfl rfl v' happ ?_
 refine wl rfl v' (w1:=w') rfl (wpList_nil ?_)
 go_wp2
 go_ret
 exact⟨rfl,rfl⟩
theorem S96(A:Amb)(n:Nat):a8z A P cH 96 s96 (a0b n) :=
 d0t (T:=61) (tab rfl) rfl (z:=(zeroCells (.st (.pair tI (.pair tI (.pair .str .unit))))).getD []) rfl e2g fun w w' el ad n cap v' h1 h2=>by
  rw[uT96] at h1
  cases h1
  exact d9c w ad n cap v' w' h2
theorem T96(A:Amb)(n:Nat):a0s A P cH (96,⟨s96,a0b n⟩):=⟨g5c,S96 A n⟩
def s266:Sig:=⟨[.val .str,.val .str],[.val tI]⟩
def a2j(_n:Nat)(x:List Int×List Int×Unit):Option ((Int×Unit)×(Unit)):=csF x
theorem g7j:Go.Proofs.Tryz.f266.ntmps=8:=by kernel_rfl
theorem g7z:P.funcs[266]?=some Go.Proofs.Tryz.f266:=by kernel_rfl
theorem g3i:a5h P 266:=a9o (by kernel_rfl)
theorem g6e:P.funcs[312]?=some Go.Proofs.Tryz.f312:=by kernel_rfl
set_option maxHeartbeats 4000000 in
set_option maxRecDepth 1000000 in
theorem c8w(a b:ByteArray)(w:World):Calls P 266 #[.string a,.string b] w fun e w'=>e=.returned (.int .i64 (Lib.compareBytes a.data.toList b.data.toList))∧w'=w:=by
 go_enter g7z,g7j
 go_wp2
 rw[run_callFunc_extern g6e (by kernel_rfl) (by kernel_rfl) (by kernel_rfl) (e:=Extern.BytealgCompare.compare) (by kernel_rfl),Lib.run_compareString]
 simp only[Result.andThen]
 rw[Oper.upon_value]
 go_wp2
 go_ret
 exact⟨rfl,rfl⟩
theorem S266(A:Amb)(n:Nat):a8z A P cH 266 s266 (a2j n):=c1k c8w
theorem T266(A:Amb)(n:Nat):a0s A P cH (266,⟨s266,a2j n⟩):=⟨g3i,S266 A n⟩
def s162:Sig:=⟨[.val (.lf .nil0),.val tI],[.val (.sl .own 1 tB)]⟩
def a2u(_n:Nat)(x:Unit×Int×Unit):Option ((List Int×Unit)×(Unit)):=f7s 1 tB x
theorem g3y:Go.Proofs.Tryz.f162.ntmps=27:=by kernel_rfl
theorem g4q:P.funcs[162]?=some Go.Proofs.Tryz.f162:=by kernel_rfl
theorem g3s:a5h P 162:=a9o (by kernel_rfl)
theorem g7x:P.underlying 22=some (.slice 5):=by kernel_rfl
set_option maxHeartbeats 4000000 in
set_option maxRecDepth 1000000 in
theorem f6t(w:World):Calls P 162 #[.slice none 0 0,.int .i64 0] w fun en w'=>en=.returned (.slice none 0 0)∧w'=w:=by
 go_enter g4q,g3y
 go_wp2
 go_ret
 exact⟨rfl,rfl⟩
set_option maxHeartbeats 4000000 in
set_option maxRecDepth 1000000 in
theorem f6w(w w1:World)(n cap b:Nat)(hn:0<n)(hr:n≤140737488355328)(hc:n≤cap)(happ:(Builtin.append_ #[22,3] 22 #[.slice none 0 0,.int .i64 (n:Int)]).run P w=.ok (.slice (some ⟨b,0,none⟩) n cap) w1) :
  Calls P 162 #[.slice none 0 0,.int .i64 (n:Int)] w fun en w'=>en=.returned (.slice (some ⟨b,0,none⟩) 0 cap)∧w'=w1:=by
 have hw0:IntKind.i64.wrap ((0:Int) - 0)=0:=by decide
 have hw1:IntKind.i64.wrap ((n:Int) - 0)=n:=by
  simp only[IntKind.wrap,IntKind.bits,IntKind.signed,if_true]
  simp
  split <;> omega
 have hw2:IntKind.i64.wrap (n:Int)=n:=by have:=hw1;rw[Int.sub_zero] at this;exact this
 have hlt:¬((n:Int)<0):=by omega
 have hgt:(0:Int)<n:=by omega
 obtain⟨I,hI⟩:∃I,P.info? 5=some I:=Option.isSome_iff_exists.1 (by kernel_rfl)
 go_enter g4q,g3y
 go_upto_region 5 with(simp only[hw0,hw1,hw2,hlt,hgt,Int.sub_zero])
 refine wp_region_lit ?_
 refine wl rfl (.slice none 0 0) (w1:=w) rfl ?_
 refine wl rfl (.slice none 0 0) (w1:=w) rfl ?_
 simp only[Act.put,List.setIfInBounds_toArray,List.set_cons_succ,List.set_cons_zero]
 refine wl rfl (.int .i64 0) (w1:=w) (by go_simp) ?_
 simp only[Act.put,List.setIfInBounds_toArray,List.set_cons_succ,List.set_cons_zero]
 refine wl rfl (.slice none 0 0) (w1:=w) (by go_simp) ?_
 simp only[Act.put,List.setIfInBounds_toArray,List.set_cons_succ,List.set_cons_zero]
 refine wl rfl (.int .i64 (n:Int)) (w1:=w) (by simp[execOp,Act.eval,hw1,hw2]) ?_
 simp only[Act.put,List.setIfInBounds_toArray,List.set_cons_succ,List.set_cons_zero]
 refine c8o rfl (.tmp 20) (.tmp 21) 22 3 rfl rfl rfl _ happ ?_
 simp only[Act.put,List.setIfInBounds_toArray,List.set_cons_succ,List.set_cons_zero]
 refine wl rfl (.slice none 0 0) (w1:=w1) rfl ?_
 simp only[Act.put,List.setIfInBounds_toArray,List.set_cons_succ,List.set_cons_zero]
 refine wl rfl (.int .i64 0) (w1:=w1) (by go_simp) ?_
 simp only[Act.put,List.setIfInBounds_toArray,List.set_cons_succ,List.set_cons_zero]
 refine f7h g7x hI rfl (.tmp 22) none (some (.tmp 24)) rfl (b:=b) (off:=0) (n:=n) (cap:=cap) (l:=0) (h:=0) rfl (.inl ⟨rfl,rfl⟩) (.inr rfl) (Nat.le_refl _) (Nat.zero_le _) (.inr rfl) (off':=0) (n':=0) ⟨by simp,rfl⟩ ?_
 simp only[Act.put,List.setIfInBounds_toArray,List.set_cons_succ,List.set_cons_zero]
 refine wl rfl (.slice (some ⟨b,0,none⟩) 0 cap) (w1:=w1) rfl (wpList_nil ?_)
 simp only[Act.put,List.setIfInBounds_toArray,List.set_cons_succ,List.set_cons_zero]
 go_wp2
 go_ret
 exact⟨rfl,rfl⟩
theorem S162(A:Amb)(n:Nat):a8z A P cH 162 s162 (a2u n) :=
 f0h (T:=22) (tab rfl) rfl (by kernel_rfl) (z:=(zeroCells tB).getD []) rfl f6t f6w
theorem T162(A:Amb)(n:Nat):a0s A P cH (162,⟨s162,a2u n⟩):=⟨g3s,S162 A n⟩
theorem g5y:P.funcs[213]?=some Go.Proofs.Tryz.f213:=by kernel_rfl
theorem g6h:P.funcs[158]?=some Go.Proofs.Tryz.f158:=by kernel_rfl
theorem g3k:a5h P 158:=a9o (by kernel_rfl)
theorem g6z:P.funcs[212]?=some Go.Proofs.Tryz.f212:=by kernel_rfl
theorem g6q:P.funcs[215]?=some Go.Proofs.Tryz.f215:=by kernel_rfl
theorem g5x:P.funcs[214]?=some Go.Proofs.Tryz.f214:=by kernel_rfl
theorem g8a:P.funcs[265]?=some Go.Proofs.Tryz.f265:=by kernel_rfl
theorem g7t:P.funcs[267]?=some Go.Proofs.Tryz.f267:=by kernel_rfl
def s275:Sig:=⟨[.sio (.sl .own 32 (.st (.pair tI (.pair tI (.pair .str .unit))))),.val (.lf (.cfn 158))],[]⟩
def a0z(_n:Nat)(x:(List V4)×Unit×Unit):Option ((Unit)×((List V4)×Unit)):=g3m tV cfV x
theorem g1h:a5h P 275:=a9o (by kernel_rfl)
theorem g6p:Go.Proofs.Tryz.f158.ntmps=32:=by kernel_rfl
theorem g6v:Go.Proofs.Tryz.f212.ntmps=20:=by kernel_rfl
theorem g6j:Go.Proofs.Tryz.f213.ntmps=9:=by kernel_rfl
theorem g6s:Go.Proofs.Tryz.f214.ntmps=8:=by kernel_rfl
theorem g7h:Go.Proofs.Tryz.f215.ntmps=20:=by kernel_rfl
theorem g6k:Go.Proofs.Tryz.f265.ntmps=6:=by kernel_rfl
theorem g7q:Go.Proofs.Tryz.f267.ntmps=6:=by kernel_rfl
set_option maxHeartbeats 4000000 in
theorem f5u(t i:Int)(s:ByteArray)(W:World):Calls P 213 #[.agg #[.int .i64 t,.int .i64 i,.string s]] W fun e w'=>e=.returned (.int .i64 (a9k t))∧w'=W.alloc (.cells #[.int .i64 t,.int .i64 i,.string s] 33):=by
 go_enter g5y,g6j
 go_wp2
 all_goals (go_ret;refine⟨?_,rfl⟩;unfold a9k;simp_all)
set_option maxHeartbeats 4000000 in
theorem g2h(x:Int)(W:World):Calls P 265 #[.int .i64 x] W fun e w'=>e=.returned (.bool false)∧w'=W:=by
 go_enter g8a,g6k
 go_wp2
 go_ret
 exact⟨rfl,rfl⟩
set_option maxHeartbeats 4000000 in
theorem f0x(x:Int)(W:World):Calls P 267 #[.int .i64 x] W fun e w'=>e=.returned (.bool false)∧w'=W:=by
 go_enter g7t,g7q
 go_wp2
 go_ret
 exact⟨rfl,rfl⟩
set_option maxHeartbeats 4000000 in
theorem e7t(x y:Int)(W:World):Calls P 212 #[.int .i64 x,.int .i64 y] W fun e w'=>e=.returned (.int .i64 (cmpZ x y))∧w'=W:=by
 go_enter g6z,g6v
 go_wp2_with (go_at_call 265;refine(g2h _ _).mono ?_;rintro e w' ⟨rfl,rfl⟩)
 all_goals (go_ret;refine⟨?_,rfl⟩;unfold cmpZ;(repeat' split) <;> first|rfl|(exfalso;omega))
set_option maxHeartbeats 4000000 in
theorem e0s(x y:Int)(W:World):Calls P 215 #[.int .i64 x,.int .i64 y] W fun e w'=>e=.returned (.int .i64 (cmpZ x y))∧w'=W:=by
 go_enter g6q,g7h
 go_wp2_with (go_at_call 267;refine(f0x _ _).mono ?_;rintro e w' ⟨rfl,rfl⟩)
 all_goals (go_ret;refine⟨?_,rfl⟩;unfold cmpZ;(repeat' split) <;> first|rfl|(exfalso;omega))
set_option maxHeartbeats 4000000 in
theorem e8c(a b:ByteArray)(w:World):Calls P 214 #[.string a,.string b] w fun e w'=>e=.returned (.int .i64 (Lib.compareBytes a.data.toList b.data.toList))∧w'=w:=by
 go_enter g5x,g6s
 go_wp2_with (go_at_call 266;refine(c8w _ _ _).mono ?_;rintro e w' ⟨rfl,rfl⟩)
 go_ret
 exact⟨rfl,rfl⟩
set_option maxHeartbeats 4000000 in
theorem e3b(t i:Int)(s:ByteArray)(t' i':Int)(s':ByteArray)(W:World):Calls P 158 #[.agg #[.int .i64 t,.int .i64 i,.string s],.agg #[.int .i64 t',.int .i64 i',.string s']] W fun e w'=>e=.returned (.int .i64 (cmpV t i s t' i' s'))∧∃q os,w'=Sort.grow (W.drewN q) os:=by
 have mixed:=mixed
 go_enter g6h,g6p
 go_wp2_with fail
 go_region_with_o (first|(go_at_call 213;refine(f5u _ _ _ _).mono ?_;rintro e w' ⟨rfl,rfl⟩)|(go_at_call 212;refine(e7t _ _ _).mono ?_;rintro e w' ⟨rfl,rfl⟩))
 all_goals
  obtain⟨c,hcc⟩:∃c,cmpZ (a9k t) (a9k t')=c:=⟨_,rfl⟩
  rw[hcc]
  by_cases hc:c=0
  ·subst hc
   by_cases ht:t=0
   ·have HV:Away _:=⟨show cmpV t i s t' i' s'=0 by unfold cmpV;rw[if_pos (.inr ht),hcc]⟩
    clear hcc
    go_wp2_with fail
    go_ret
    exact⟨congrArg (fun x=>Ending.returned (.int .i64 x)) HV.out.symm,1,_,four W _ _ _ _⟩
   ·by_cases h4:t=4
    ·have HV:Away _:=⟨show cmpV t i s t' i' s'=Lib.compareBytes s.data.toList s'.data.toList by unfold cmpV;rw[if_neg (by simp[hcc,ht]),if_pos h4]⟩
     clear hcc
     go_wp2_with (go_at_call 214;refine(e8c _ _ _).mono ?_;rintro e w' ⟨rfl,rfl⟩)
     go_ret
     exact⟨congrArg (fun x=>Ending.returned (.int .i64 x)) HV.out.symm,1,_,four W _ _ _ _⟩
    ·have HV:Away _:=⟨show cmpV t i s t' i' s'=cmpZ i i' by unfold cmpV;rw[if_neg (by simp[hcc,ht]),if_neg h4]⟩
     clear hcc
     go_wp2_with (go_at_call 215;refine(e0s _ _ _).mono ?_;rintro e w' ⟨rfl,rfl⟩)
     go_ret
     exact⟨congrArg (fun x=>Ending.returned (.int .i64 x)) HV.out.symm,1,_,four W _ _ _ _⟩
  ·have HV:Away _:=⟨show cmpV t i s t' i' s'=c by unfold cmpV;rw[hcc,if_pos (.inl hc)]⟩
   clear hcc
   go_wp2_with fail
   go_ret
   exact⟨congrArg (fun x=>Ending.returned (.int .i64 x)) HV.out.symm,1,_,four W _ _ _ _⟩
def f0f:Go.Shelf.Ren:=⟨fun|6=>275|15=>197|14=>316|28=>261|29=>262|20=>330|21=>331|22=>332|23=>333|24=>334|25=>335|26=>336|27=>337|46=>348|47=>307|48=>308|49=>349|50=>350|57=>355|n=>n,fun|22=>61|24=>33|25=>225|3=>3|39=>227|0=>0|53=>329|55=>150|4=>4|46=>323|45=>322|50=>140|5=>5|9=>9|66=>354|70=>297|76=>382|77=>383|n=>n,fun|n=>n⟩
theorem g0n:Go.Proofs.SlLaysF0.n6 Go.Proofs.Tryz.prog f0f:={ mixed:=by kernel_rfl,f6:=⟨Go.Proofs.Tryz.f275.name,by decide,Go.Proofs.Tryz.func275.trans (congrArg some (by kernel_rfl))⟩,f14:=⟨Go.Proofs.Tryz.f316.name,by decide,Go.Proofs.Tryz.func316.trans (congrArg some (by kernel_rfl))⟩,f15:=Go.Proofs.Tryz.func197.trans (congrArg some (by kernel_rfl)),f20:=⟨Go.Proofs.Tryz.f330.name,by decide,Go.Proofs.Tryz.func330.trans (congrArg some (by kernel_rfl))⟩,f21:=⟨Go.Proofs.Tryz.f331.name,by decide,Go.Proofs.Tryz.func331.trans (congrArg some (by kernel_rfl))⟩,f22:=⟨Go.Proofs.Tryz.f332.name,by decide,Go.Proofs.Tryz.func332.trans (congrArg some (by kernel_rfl))⟩,f23:=⟨Go.Proofs.Tryz.f333.name,by decide,Go.Proofs.Tryz.func333.trans (congrArg some (by kernel_rfl))⟩,f24:=⟨Go.Proofs.Tryz.f334.name,by decide,Go.Proofs.Tryz.func334.trans (congrArg some (by kernel_rfl))⟩,f25:=⟨Go.Proofs.Tryz.f335.name,by decide,Go.Proofs.Tryz.func335.trans (congrArg some (by kernel_rfl))⟩,f26:=⟨Go.Proofs.Tryz.f336.name,by decide,Go.Proofs.Tryz.func336.trans (congrArg some (by kernel_rfl))⟩,f27:=⟨Go.Proofs.Tryz.f337.name,by decide,Go.Proofs.Tryz.func337.trans (congrArg some (by kernel_rfl))⟩,f28:=Go.Proofs.Tryz.func261.trans (congrArg some (by kernel_rfl)),f29:=Go.Proofs.Tryz.func262.trans (congrArg some (by kernel_rfl)),f46:=⟨Go.Proofs.Tryz.f348.name,by decide,Go.Proofs.Tryz.func348.trans (congrArg some (by kernel_rfl))⟩,f47:=Go.Proofs.Tryz.func307.trans (congrArg some (by kernel_rfl)),f48:=Go.Proofs.Tryz.func308.trans (congrArg some (by kernel_rfl)),f49:=⟨Go.Proofs.Tryz.f349.name,by decide,Go.Proofs.Tryz.func349.trans (congrArg some (by kernel_rfl))⟩,f50:=⟨Go.Proofs.Tryz.f350.name,by decide,Go.Proofs.Tryz.func350.trans (congrArg some (by kernel_rfl))⟩,f57:=⟨Go.Proofs.Tryz.f355.name,by decide,Go.Proofs.Tryz.func355.trans (congrArg some (by kernel_rfl))⟩,t0:=Go.Proofs.Tryz.underlying0,a0:=Go.Proofs.Tryz.isAgg0,z0:=Go.Proofs.Tryz.sizeOf0,v0:=Go.Proofs.Tryz.zeroValue0,t3:=Go.Proofs.Tryz.underlying3,a3:=Go.Proofs.Tryz.isAgg3,z3:=Go.Proofs.Tryz.sizeOf3,v3:=Go.Proofs.Tryz.zeroValue3,t4:=Go.Proofs.Tryz.underlying4,a4:=Go.Proofs.Tryz.isAgg4,z4:=Go.Proofs.Tryz.sizeOf4,v4:=Go.Proofs.Tryz.zeroValue4,t5:=Go.Proofs.Tryz.underlying5,a5:=Go.Proofs.Tryz.isAgg5,z5:=Go.Proofs.Tryz.sizeOf5,v5:=Go.Proofs.Tryz.zeroValue5,t9:=Go.Proofs.Tryz.underlying9,a9:=Go.Proofs.Tryz.isAgg9,z9:=Go.Proofs.Tryz.sizeOf9,v9:=Go.Proofs.Tryz.zeroValue9,t22:=Go.Proofs.Tryz.underlying61,a22:=Go.Proofs.Tryz.isAgg61,z22:=Go.Proofs.Tryz.sizeOf61,v22:=Go.Proofs.Tryz.zeroValue61,t25:=Go.Proofs.Tryz.underlying225,a25:=Go.Proofs.Tryz.isAgg225,z25:=Go.Proofs.Tryz.sizeOf225,v25:=Go.Proofs.Tryz.zeroValue225,t39:=Go.Proofs.Tryz.underlying227,a39:=Go.Proofs.Tryz.isAgg227,z39:=Go.Proofs.Tryz.sizeOf227,v39:=Go.Proofs.Tryz.zeroValue227,t45:=Go.Proofs.Tryz.underlying322,a45:=Go.Proofs.Tryz.isAgg322,z45:=Go.Proofs.Tryz.sizeOf322,v45:=Go.Proofs.Tryz.zeroValue322,t46:=Go.Proofs.Tryz.underlying323,a46:=Go.Proofs.Tryz.isAgg323,z46:=Go.Proofs.Tryz.sizeOf323,v46:=Go.Proofs.Tryz.zeroValue323,t50:=Go.Proofs.Tryz.underlying140,a50:=Go.Proofs.Tryz.isAgg140,z50:=Go.Proofs.Tryz.sizeOf140,v50:=Go.Proofs.Tryz.zeroValue140,t53:=Go.Proofs.Tryz.underlying329,a53:=Go.Proofs.Tryz.isAgg329,z53:=Go.Proofs.Tryz.sizeOf329,v53:=Go.Proofs.Tryz.zeroValue329,t55:=Go.Proofs.Tryz.underlying150,a55:=Go.Proofs.Tryz.isAgg150,z55:=Go.Proofs.Tryz.sizeOf150,v55:=Go.Proofs.Tryz.zeroValue150,t66:=Go.Proofs.Tryz.underlying354,a66:=Go.Proofs.Tryz.isAgg354,z66:=Go.Proofs.Tryz.sizeOf354,v66:=Go.Proofs.Tryz.zeroValue354,t70:=Go.Proofs.Tryz.underlying297,a70:=Go.Proofs.Tryz.isAgg297,z70:=Go.Proofs.Tryz.sizeOf297,v70:=Go.Proofs.Tryz.zeroValue297,t76:=Go.Proofs.Tryz.underlying382,a76:=Go.Proofs.Tryz.isAgg382,z76:=Go.Proofs.Tryz.sizeOf382,v76:=Go.Proofs.Tryz.zeroValue382,t77:=Go.Proofs.Tryz.underlying383,a77:=Go.Proofs.Tryz.isAgg383,z77:=Go.Proofs.Tryz.sizeOf383,v77:=Go.Proofs.Tryz.zeroValue383 }
theorem e1r(w:World):Calls P 275 #[.slice none 0 0,.func (.func 158) #[] #[]] w fun e w'=>e=.returned (.tuple #[])∧w'=w :=
 Go.Proofs.AnyF.slices_SortFunc_none g0n none 0 (.func (.func 158) #[] #[]) w
theorem e3h(blk cap:Nat)(d:Array tV.den)(w:World)(hH:Sort.HoldsK tV.enc tV.size w blk 0 d)(hb:blk<w.heap.size)(hs:d.size<4611686018427387904) :
  Calls P 275 #[.slice (some ⟨blk,0,none⟩) d.size cap,.func (.func 158) #[] #[]] w fun e w'=>e=.returned (.tuple #[])∧∃n os,w'=Go.Proofs.sortWorldK tV.enc tV.size w blk 0 n (Sort.pdq (Go.Proofs.ltOf cfV) d 0 d.size (Lib.bitLen d.size) true true) os :=
 Go.Proofs.AnyQ.slices_SortFunc_eq g0n 3 (fun w=>Go.Proofs.Tryz.isAgg33 w) (fun w=>Go.Proofs.Tryz.sizeOf33 w) tV.enc (fun x=>Ty.enc_length (t:=tV) x rfl) (fun x v hv=>Ty.enc_one (t:=tV) x v hv) cfV swoV 158 #[] blk 0 cap d w (fun args w=>e7y g3k args w)
  (fun m os dk _ x y=>e3b x.1 x.2.1 (toBA x.2.2.1) y.1 y.2.1 (toBA y.2.2.1) _) hH hb hs
theorem S275(A:Amb)(n:Nat):a8z A P cH 275 s275 (a0z n):=d1j (t0:=.pair tI (.pair tI (.pair .str .unit))) rfl swoV e1r e3h
theorem T275(A:Amb)(n:Nat):a0s A P cH (275,⟨s275,a0z n⟩):=⟨g1h,S275 A n⟩
def s276:Sig:=⟨[.val (.sl .own 32 (.st (.pair tI (.pair tI (.pair .str .unit)))))],[.val (.sl .own 32 (.st (.pair tI (.pair tI (.pair .str .unit)))))]⟩
def a1c(_n:Nat)(x:(List V4)×Unit):Option (((List V4)×Unit)×(Unit)):=g1p (.st (.pair tI (.pair tI (.pair .str .unit)))) x
theorem g3e:Go.Proofs.Tryz.f276.ntmps=61:=by kernel_rfl
theorem g2z:P.funcs[276]?=some Go.Proofs.Tryz.f276:=by kernel_rfl
theorem g0u:a5h P 276:=a9o (by kernel_rfl)
theorem c4d{W:World}{a:Addr}{v u:Value}(h1:v.oneCell'=true)(hc:W.cell? a=some u)(hf:W.frozen? a=false):Sem.run P (store a v) W=.ok () (W.setCell a v):=by
 rw[run_store P W a v .plain h1,hc]
 simp[hf]
theorem f4x{α:Type}{l:List α}(h:l.length=3):∃a b c,l=[a,b,c]:=by
 match l,h with
 |[a,b,c],_=>exact⟨a,b,c,rfl⟩
set_option maxHeartbeats 4000000 in
set_option maxRecDepth 1000000 in
theorem e9n(w:World)(b S n cap:Nat)(hn:n≤cap)(hroom:n≤140737488355328)(hS:n*3≤S)(E:Nat→List Value)(eqB:Nat→Nat→Bool)
 (hE:∀i,i<n→(E i).length=3∧∀v,v∈E i→v.oneCell'=true)
 (heq:∀i j,i<n→j<n→∀W,(binOp .eql 33 (.agg (E i).toArray) (.agg (E j).toArray)).run P W=.ok (.bool (eqB i j)) W)
 (hne:∀i j,i<n→j<n→∀W,(binOp .neq 33 (.agg (E i).toArray) (.agg (E j).toArray)).run P W=.ok (.bool (!eqB i j)) W)
 (hgd:∀(op:BinOp) (x y:Operand) i j,∀W,(eqGuard op 33 x y (.agg (E i).toArray) (.agg (E j).toArray)).run P W=.ok () W)
 (hcl:∀(k:Nat) X W,k<n→CW w b S 3 n X W→∃W',(Builtin.clear_ #[61] 0 #[.slice (some ⟨b,k*3,none⟩) (n - k) (cap - k)]).run P W=.ok (.tuple #[]) W'∧CW w b S 3 k X W')
 (hcw:CW w b S 3 n E w) :
  Calls P 276 #[.slice (some ⟨b,0,none⟩) n cap] w fun e w'=>e=.returned (.slice (some ⟨b,0,none⟩) (a2x eqB n).length cap)∧CW w b S 3 (a2x eqB n).length (XK E (a2x eqB n)) w':=by
 have mixed:=mixed
 have fin:∀W,(∀j,j<n→b7z eqB j=true)→CW w b S 3 n E W→n=(a2x eqB n).length∧CW w b S 3 (a2x eqB n).length (XK E (a2x eqB n)) W:=fun W h hc=>by
  have hk:=d3h h
  have hl:n=(a2x eqB n).length:=by rw[hk];simp
  refine⟨hl,?_⟩
  rw[←hl]
  exact hc.congr fun i hi=>by rw[hk,e5e]
 have FIN:Away _:=⟨fin⟩
 have HCL:Away _:=⟨hcl⟩
 have HEQ:Away _:=⟨heq⟩
 have HNE:Away _:=⟨hne⟩
 have HGD:Away _:=⟨hgd⟩
 have HE:Away _:=⟨hE⟩
 clear fin hcl heq hne hgd hE
 by_cases h2:n<2
 ·have HC:Away _:=⟨hcw⟩
  clear hcw
  go_enter g2z,g3e
  go_wp2
  go_ret
  obtain⟨e1,e2⟩:=FIN.out w (fun j hj=>by
   have:j=0:=by omega
   simp[b7z,this]) HC.out
  exact⟨by rw[←e1];rfl,e2⟩
 go_enter g2z,g3e
 go_wp2
 go_loopg [3] n (fun g s3 wr=>∃k:Nat,1≤k∧k≤n∧n - k≤g∧s3=.int .i64 k∧CW w b S 3 n E wr∧∀j,j<k→b7z eqB j=true)
 case atStart=>exact⟨1,Nat.le_refl _,by omega,by omega,rfl,hcw,fun j hj=>by
  have:j=0:=by omega
  simp[b7z,this]⟩
 case round =>
  obtain⟨k,hk1,hk,hg,rfl,hcr,hall⟩:=hrel
  have A:Away _:=⟨hall⟩
  have HR:Away _:=⟨hcr⟩
  clear hall hcr hcw
  by_cases hlt:k<n
  ·obtain⟨kp,rfl⟩:∃kp,k=kp+1:=⟨k - 1,by omega⟩
   have he:=HEQ.out (kp+1) kp hlt (by omega)
   have hg':=fun op x y=>HGD.out op x y (kp+1) kp
   obtain⟨x0,x1,x2,hx⟩:=f4x (HE.out (kp+1) hlt).1
   obtain⟨y0,y1,y2,hy⟩:=f4x (HE.out kp (by omega)).1
   have a0:=HR.out.cell hS hlt (j:=0) (by rw[hx];rfl)
   have a1:=HR.out.cell hS hlt (j:=1) (by rw[hx];rfl)
   have a2:=HR.out.cell hS hlt (j:=2) (by rw[hx];rfl)
   have b0:=HR.out.cell hS (show kp<n by omega) (j:=0) (by rw[hy];rfl)
   have b1:=HR.out.cell hS (show kp<n by omega) (j:=1) (by rw[hy];rfl)
   have b2:=HR.out.cell hS (show kp<n by omega) (j:=2) (by rw[hy];rfl)
   rw[Nat.add_zero] at a0 b0
   rw[hx,hy] at he hg'
   clear hx hy
   have z0:(0:Int)≤(kp:Int)+1:=by omega
   have z1:(kp:Int)<(n:Int):=by omega
   cases hd:eqB (kp+1) kp with
   |false =>
    rw[hd] at he
    go_wp2_with fail
    go_region_o
    go_wp2
    go_roundg (n - (kp+1+1))
    case measure=>omega
    case rel =>
     refine⟨kp+1+1,by omega,by omega,Nat.le_refl _,by go_num,HR.out.drew,fun j hj=>?_⟩
     by_cases e:j=kp+1
     ·subst e;simp[b7z,hd]
     ·exact A.out j (by omega)
   |true =>
    rw[hd] at he
    go_wp2_with fail
    go_region_o
    clear a0 a1 a2 b0 b1 b2 he hg'
    have hkc:¬cap=kp+1:=by omega
    have hkn:kp+1≤cap:=by omega
    go_wp2
    go_loopg [3,5] n (fun g s3 s5 wr2=>∃k2:Nat,s3=.int .i64 ((a2x eqB (kp+1+k2)).length:Nat)∧s5=.int .i64 k2∧1≤k2∧kp+1+k2≤n∧n - (kp+1+k2)≤g∧CW w b S 3 n (XK E (a2x eqB (kp+1+k2))) wr2∧(a2x eqB (kp+1+k2)).length<kp+1+k2)
    case atStart =>
     have hkt:a2x eqB (kp+1+1)=List.range (kp+1):=by
      rw[b5t,d3h A.out]
      simp[b7z,hd]
     refine⟨1,by rw[hkt];simp,rfl,Nat.le_refl _,by omega,by omega,?_,by rw[hkt];simp⟩
     exact HR.out.drew.congr fun i hi=>by rw[hkt,e5e]
    case round =>
     obtain⟨k2,rfl,rfl,h1,hle,hg2,hcw2,hL⟩:=hrel
     have H2:Away _:=⟨hcw2⟩
     obtain⟨kk,hkk⟩:∃kk,(a2x eqB (kp+1+k2)).length=kk:=⟨_,rfl⟩
     have HKK:Away _:=⟨hkk⟩
     rw[hkk] at hL ⊢
     clear hcw2 hkk
     by_cases hm:kp+1+k2<n
     ·obtain⟨j,rfl⟩:∃j,k2=j+1:=⟨k2 - 1,by omega⟩
      have hXm:XK E (a2x eqB (kp+1+(j+1))) (kp+1+(j+1))=E (kp+1+(j+1)):=f3s (by rw[HKK.out];omega)
      have hXp:XK E (a2x eqB (kp+1+(j+1))) (kp+1+j)=E (kp+1+j):=f3s (by rw[HKK.out];omega)
      have he:=HNE.out (kp+1+(j+1)) (kp+1+j) hm (by omega)
      have hg':=fun op x y=>HGD.out op x y (kp+1+(j+1)) (kp+1+j)
      obtain⟨x0,x1,x2,hx⟩:=f4x (HE.out (kp+1+(j+1)) hm).1
      obtain⟨y0,y1,y2,hy⟩:=f4x (HE.out (kp+1+j) (by omega)).1
      have hone:=(HE.out (kp+1+(j+1)) hm).2
      rw[hx] at hone
      have o0:=hone x0 (by simp)
      have o1:=hone x1 (by simp)
      have o2:=hone x2 (by simp)
      clear hone
      have a0:=H2.out.cell hS hm (j:=0) (by rw[hXm,hx];rfl)
      have a1:=H2.out.cell hS hm (j:=1) (by rw[hXm,hx];rfl)
      have a2:=H2.out.cell hS hm (j:=2) (by rw[hXm,hx];rfl)
      have b0:=H2.out.cell hS (show kp+1+j<n by omega) (j:=0) (by rw[hXp,hy];rfl)
      have b1:=H2.out.cell hS (show kp+1+j<n by omega) (j:=1) (by rw[hXp,hy];rfl)
      have b2:=H2.out.cell hS (show kp+1+j<n by omega) (j:=2) (by rw[hXp,hy];rfl)
      rw[Nat.add_zero] at a0 b0
      have ea:(kp+1+(j+1))*3=(kp+1)*3+(j+1)*3:=by omega
      have eb:(kp+1+j)*3=(kp+1)*3+j*3:=by omega
      rw[ea] at a0 a1 a2
      rw[eb] at b0 b1 b2
      rw[hx,hy] at he hg'
      have HX:Away _:=⟨hx⟩
      clear hx hy ea eb hXm hXp
      have z0:(0:Int)≤(j:Int)+1:=by omega
      have z1:(j:Int)+1<((n - (kp+1):Nat):Int):=by omega
      have z2:(j:Int)<((n - (kp+1):Nat):Int):=by omega
      cases hd2:eqB (kp+1+(j+1)) (kp+1+j) with
      |true =>
       rw[hd2] at he
       go_wp2_with fail
       go_region_o
       go_wp2
       go_roundg (n - (kp+1+(j+1+1)))
       case measure=>omega
       case rel =>
        have hkt:a2x eqB (kp+1+(j+1+1))=a2x eqB (kp+1+(j+1)):=by
         rw[show kp+1+(j+1+1)=(kp+1+(j+1))+1 by omega,b5t]
         simp[b7z,show kp+1+(j+1) - 1=kp+1+j by omega,hd2]
        refine⟨j+1+1,by rw[hkt,HKK.out],by go_num,by omega,by omega,Nat.le_refl _,by rw[hkt];exact H2.out.drew,by rw[hkt,HKK.out];omega⟩
      |false =>
       rw[hd2] at he
       obtain⟨v0,v1,v2,hv⟩:∃v0 v1 v2,XK E (a2x eqB (kp+1+(j+1))) kk=[v0,v1,v2]:=f4x (by
        obtain⟨c,_,q2,q3⟩:=H2.out.blk
        rw[←q3 kk (by omega)]
        exact a3x (by have:=a6v (sz:=3) (show kk<n by omega);simp;omega))
       have c0:=H2.out.cell hS (show kk<n by omega) (j:=0) (by rw[hv];rfl)
       have c1:=H2.out.cell hS (show kk<n by omega) (j:=1) (by rw[hv];rfl)
       have c2:=H2.out.cell hS (show kk<n by omega) (j:=2) (by rw[hv];rfl)
       have f0:=H2.out.frozen hS (show kk<n by omega) (j:=0) (by omega)
       have f1:=H2.out.frozen hS (show kk<n by omega) (j:=1) (by omega)
       have f2:=H2.out.frozen hS (show kk<n by omega) (j:=2) (by omega)
       rw[Nat.add_zero] at c0 f0
       have g0:Sem.run P (store ⟨b,kk*3,none⟩ x0) wr.drew=.ok () (wr.setCell ⟨b,kk*3,none⟩ x0).drew:=c4d (W:=wr.drew) o0 c0 f0
       have g1:Sem.run P (store ⟨b,kk*3+1,none⟩ x1) (wr.setCell ⟨b,kk*3,none⟩ x0).drew=.ok () ((wr.setCell ⟨b,kk*3,none⟩ x0).setCell ⟨b,kk*3+1,none⟩ x1).drew :=
        c4d (W:=(wr.setCell ⟨b,kk*3,none⟩ x0).drew) o1 (u:=v1) (by
         show(wr.setCell ⟨b,kk*3,none⟩ x0).cell? _=_
         rw[World.cell?_setCell_other _ (h:=show(⟨b,kk*3,none⟩:Addr)≠⟨b,kk*3+1,none⟩ by simp)];exact c1) (by
         show(wr.setCell ⟨b,kk*3,none⟩ x0).frozen? _=_
         rw[World.frozen?_setCell];exact f1)
       have g2:Sem.run P (store ⟨b,kk*3+2,none⟩ x2) ((wr.setCell ⟨b,kk*3,none⟩ x0).setCell ⟨b,kk*3+1,none⟩ x1).drew=.ok () (((wr.setCell ⟨b,kk*3,none⟩ x0).setCell ⟨b,kk*3+1,none⟩ x1).setCell ⟨b,kk*3+2,none⟩ x2).drew :=
        c4d (W:=((wr.setCell ⟨b,kk*3,none⟩ x0).setCell ⟨b,kk*3+1,none⟩ x1).drew) o2 (u:=v2) (by
         show((wr.setCell ⟨b,kk*3,none⟩ x0).setCell ⟨b,kk*3+1,none⟩ x1).cell? _=_
         rw[World.cell?_setCell_other _ (h:=show(⟨b,kk*3+1,none⟩:Addr)≠⟨b,kk*3+2,none⟩ by simp),World.cell?_setCell_other _ (h:=show(⟨b,kk*3,none⟩:Addr)≠⟨b,kk*3+2,none⟩ by simp)];exact c2) (by
         show((wr.setCell ⟨b,kk*3,none⟩ x0).setCell ⟨b,kk*3+1,none⟩ x1).frozen? _=_
         rw[World.frozen?_setCell,World.frozen?_setCell];exact f2)
       clear c0 c1 c2 f0 f1 f2
       clear hv
       have z3:(kk:Int)<(n:Int):=by omega
       go_wp2_with fail
       go_region_o
       go_wp2
       go_roundg (n - (kp+1+(j+1+1)))
       case measure=>omega
       case rel =>
        have hkt:a2x eqB (kp+1+(j+1+1))=a2x eqB (kp+1+(j+1))++[kp+1+(j+1)]:=by
         rw[show kp+1+(j+1+1)=(kp+1+(j+1))+1 by omega,b5t]
         simp[b7z,show kp+1+(j+1) - 1=kp+1+j by omega,hd2]
        refine⟨j+1+1,by rw[hkt];simp only[List.length_append,HKK.out];go_num,by go_num,by omega,by omega,Nat.le_refl _,?_,by rw[hkt];simp only[List.length_append,HKK.out,List.length_cons,List.length_nil];omega⟩
        rw[hkt]
        refine(H2.out.drew.set3 P hS (show kk<n by omega) o0 o1 o2).congr fun i hi=>?_
        rw[←g2w,HKK.out,HX.out]
     ·have hmn:kp+1+k2=n:=by omega
      obtain⟨W',hcl,hcw3⟩:=HCL.out kk _ wr (by omega) H2.out
      have H3:Away _:=⟨hcw3⟩
      clear hcw3
      have hkc2:¬cap=kk:=by omega
      have hkn2:kk≤n:=by omega
      have hkn3:kk≤cap:=by omega
      go_wp2
      go_ret
      have e:=HKK.out
      rw[hmn] at e
      refine⟨by rw[e];rfl,?_⟩
      rw[e,←hmn]
      exact H3.out
  ·have:k=n:=by omega
   subst this
   go_wp2
   go_ret
   obtain⟨e1,e2⟩:=FIN.out _ A.out HR.out
   exact⟨by rw[←e1];rfl,e2⟩
theorem g6y:P.underlying 61=some (.slice 33):=by kernel_rfl
set_option maxHeartbeats 4000000 in
set_option maxRecDepth 1000000 in
theorem e9j(w:World):Calls P 276 #[.slice none 0 0] w fun e w'=>e=.returned (.slice none 0 0)∧w'=w:=by
 go_enter g2z,g3e
 go_wp2
 go_ret
 exact⟨rfl,rfl⟩
theorem S276(A:Amb)(n:Nat):a8z A P cH 276 s276 (a1c n) :=
 d6f (T:=61) (EL:=33) (tab rfl) rfl rfl g6y rfl (z:=(zeroCells (.st (.pair tI (.pair tI (.pair .str .unit))))).getD []) rfl rfl (by decide) (fun x y=>rfl) e9j e9n
theorem T276(A:Amb)(n:Nat):a0s A P cH (276,⟨s276,a1c n⟩):=⟨g0u,S276 A n⟩
def s93:Sig:=⟨[.val (.sl .imm 8 tI)],[.val (.sl .own 8 tI)]⟩
def a4d(_n:Nat)(x:List Int×Unit):Option ((List Int×Unit)×(Unit)):=some ((x.1,()),())
theorem nt93:Go.Proofs.Tryz.f93.ntmps=8:=by kernel_rfl
theorem fn93:P.funcs[93]?=some Go.Proofs.Tryz.f93:=by kernel_rfl
theorem g4d:a5h P 93:=a9o (by kernel_rfl)
theorem uT93:P.underlying 27=some (.slice 3):=by kernel_rfl
set_option maxHeartbeats 4000000 in
set_option maxRecDepth 1000000 in
theorem e4c(w:World)(n cap:Nat):Calls P 93 #[.slice none n cap] w fun e w'=>e=.returned (.slice none 0 0)∧w'=w:=by
 go_enter fn93,nt93
 go_wp2
 rw[Lib.run_eql_slice_nil _ _ _ _ _ _ _ _ uT93]
 go_wp2
 go_ret
 exact⟨rfl,rfl⟩
set_option maxHeartbeats 4000000 in
set_option maxRecDepth 1000000 in
theorem d7v(w:World)(ad:Addr)(n cap:Nat)(v':Value)(w':World)(happ:(Builtin.append_ #[27,27] 27 #[.slice (some ⟨w.heap.size,0,none⟩) 0 0,.slice (some ad) n cap]).run P (w.alloc (.cells #[] 3))=.ok v' w') :
  Calls P 93 #[.slice (some ad) n cap] w fun e w''=>e=.returned v'∧w''=w':=by
 go_enter fn93,nt93
 go_upto_region 3 with fail
 rw[Lib.run_eql_slice_nil _ _ _ _ _ _ _ _ uT93]
 go_upto_region 3 with fail
 refine wp_region_lit ?_
 refine wl rfl (.slice (some ⟨w.heap.size,0,none⟩) 0 0) (w1:=w.alloc (.cells #[] 3)) (by go_simp) ?_
 refine wl rfl (.slice (some ad) n cap) (w1:=w.alloc (.cells #[] 3)) rfl ?_
 refine c8o rfl (.tmp 5) (.tmp 6) 27 27 rfl rfl rfl v' happ ?_
 refine wl rfl v' (w1:=w') rfl (wpList_nil ?_)
 go_wp2
 go_ret
 exact⟨rfl,rfl⟩
theorem S93(A:Amb)(n:Nat):a8z A P cH 93 s93 (a4d n) :=
 d0t (T:=27) (tab rfl) rfl (z:=(zeroCells tI).getD []) rfl e4c fun w w' el ad n cap v' h1 h2=>by
  rw[uT93] at h1
  cases h1
  exact d7v w ad n cap v' w' h2
theorem T93(A:Amb)(n:Nat):a0s A P cH (93,⟨s93,a4d n⟩):=⟨g4d,S93 A n⟩
def s48:Sig:=⟨[.val .err,.val .err],[.val .bool]⟩
def a0y(_n:Nat)(x:UV×UV×Unit):Option ((Bool×Unit)×(Unit)):=isFs [e9q,d4y,a3p,a3v,a2t,a6q,a7u,a8g,a6g,b8i] x
theorem nt48:Go.Proofs.Tryz.f48.ntmps=22:=by kernel_rfl
theorem fn48:P.funcs[48]?=some Go.Proofs.Tryz.f48:=by kernel_rfl
theorem g4a:a5h P 48:=a9o (by kernel_rfl)
theorem b3m:P.funcs[113]?=some Go.Proofs.Tryz.f113:=by kernel_rfl
theorem b3k:Go.Proofs.Tryz.f113.ntmps=54:=by kernel_rfl
theorem b3p:P.funcs[112]?=some Go.Proofs.Tryz.f112:=by kernel_rfl
theorem b3r:P.funcs[385]?=some Go.Proofs.Tryz.f385:=by kernel_rfl
theorem a3g(v:Value)(w:World):(Extern.ReflectliteType.typeOf #[.iface 413 v]).run P w=.ok (.iface 272 (.agg #[.pointer (some ⟨17,413,none⟩)])) w:=by kernel_rfl
def a7s : Array Value → Sem Value := Extern.ReflectliteType.method fun t => do Extern.Rtype.noPackHeld "Comparable" t; pure (.bool (← typeInfo t).comparable)
theorem a1b(w:World):(a7s #[.agg #[.pointer (some ⟨17,413,none⟩)]]).run P w=.ok (.bool true) w:=by kernel_rfl
theorem a0g (v : Value) (w : World) : (Go.method 543 272 v "Comparable").run P w = .ok (385, v) w := by kernel_rfl
theorem a8j:(P.info? 413).map (·.comparable)=some true:=by kernel_rfl
theorem a8i:(P.info? 432).map (·.size)=some 1:=by kernel_rfl
theorem u130:P.underlying 413=some (.pointer 432):=by kernel_rfl
theorem i77:f1d P 101=true:=by kernel_rfl
theorem nE1:b1v P 413 274=true:=by kernel_rfl
theorem nE2:b1v P 413 277=true:=by kernel_rfl
theorem nE3:b1v P 413 278=true:=by kernel_rfl
set_option maxHeartbeats 4000000 in
theorem g5e(b:Addr)(w:World):Calls P 48 #[.nilIface,.iface 413 (.pointer (some b))] w fun e w'=>e=.returned (.bool false)∧w'=w:=by
 obtain⟨ms,h77⟩:=a0q i77
 have hn:=run_eql_iface_nil_left (P:=P) w 413 (.pointer (some b)) h77
 go_enter fn48,nt48
 go_wp2
 go_ret
 exact⟨rfl,rfl⟩
set_option maxHeartbeats 4000000 in
theorem g2d(a:Addr)(w:World):Calls P 113 #[.iface 413 (.pointer (some a)),.iface 413 (.pointer (some a)),.bool true] w fun e w'=>e=.returned (.bool true)∧w'=w:=by
 obtain⟨ms,h77⟩:=a0q i77
 obtain⟨i,hi,hcmp⟩:=Option.map_eq_some_iff.1 a8j
 obtain⟨j,hj,hjs⟩:=Option.map_eq_some_iff.1 a8i
 have heq:=run_eql_iface_ptr_same (P:=P) w a h77 u130 hi hcmp hj
 go_enter b3m,b3k
 go_wp2
 refine wp_loop_rounds 1 ?_
 rw[rounds_succ]
 go_wp2
 go_ret
 exact⟨rfl,rfl⟩
set_option maxHeartbeats 4000000 in
theorem f7f(a b:Addr)(ca cb:Array Value)(ta tb:TypeId)(w:World)(hne:a≠b)(ha:w.heap[a.block]?=some (.cells ca ta (0,0)))(hb:w.heap[b.block]?=some (.cells cb tb (0,0))) :
  Calls P 113 #[.iface 413 (.pointer (some a)),.iface 413 (.pointer (some b)),.bool true] w fun e w'=>e=.returned (.bool false)∧w'=w:=by
 obtain⟨ms,h77⟩:=a0q i77
 obtain⟨i,hi,hcmp⟩:=Option.map_eq_some_iff.1 a8j
 obtain⟨j,hj,hjs⟩:=Option.map_eq_some_iff.1 a8i
 have nE:=a0a nE1
 have uE:=a0a nE2
 have vE:=a0a nE3
 have heq:=run_eql_iface_ptr_other (P:=P) w h77 u130 hi hcmp hj (by rw[hjs];decide) hne ha hb
 go_enter b3m,b3k
 go_wp2
 refine wp_loop_rounds 1 ?_
 rw[rounds_succ]
 go_wp2
 go_ret
 exact⟨rfl,rfl⟩
theorem a1t{h:Array Obj}{k:Nat}{c:Array Value}{t:TypeId}{fr:Nat×Nat}(hh:h[k]?=some (.cells c t fr)):k<h.size:=by
 rcases Nat.lt_or_ge k h.size with h1|h1
 ·exact h1
 ·rw[Array.getElem?_eq_none h1] at hh;cases hh
set_option maxHeartbeats 4000000 in
theorem g1u(a:Addr)(w:World) :
  Calls P 48 #[.iface 413 (.pointer (some a)),.iface 413 (.pointer (some a))] w fun e w'=>e=.returned (.bool true)∧w'=w:=by
 obtain⟨ms,h77⟩:=a0q i77
 have h8:=@run_callFunc_extern P 112 _ Extern.ReflectliteType.typeOf b3p (by kernel_rfl) (by kernel_rfl) (by kernel_rfl) (by kernel_rfl)
 have h32:=@run_callFunc_extern P 385 _ a7s b3r (by kernel_rfl) (by kernel_rfl) (by kernel_rfl) (by kernel_rfl)
 have tT:=a3g
 have cT:=a1b
 have mR:=a0g
 go_enter fn48,nt48
 go_wp2_with (go_at_call 113;refine(g2d a w).mono ?_;rintro e w' ⟨rfl,hx⟩)
 go_ret
 first|exact⟨rfl,hx⟩|exact⟨rfl,rfl⟩
set_option maxHeartbeats 4000000 in
theorem f5k(a b:Addr)(ca cb:Array Value)(ta tb:TypeId)(w:World)(hne:a≠b)(ha:w.heap[a.block]?=some (.cells ca ta (0,0)))(hb:w.heap[b.block]?=some (.cells cb tb (0,0))) :
  Calls P 48 #[.iface 413 (.pointer (some a)),.iface 413 (.pointer (some b))] w fun e w'=>e=.returned (.bool false)∧w'=w:=by
 obtain⟨ms,h77⟩:=a0q i77
 have h8:=@run_callFunc_extern P 112 _ Extern.ReflectliteType.typeOf b3p (by kernel_rfl) (by kernel_rfl) (by kernel_rfl) (by kernel_rfl)
 have h32:=@run_callFunc_extern P 385 _ a7s b3r (by kernel_rfl) (by kernel_rfl) (by kernel_rfl) (by kernel_rfl)
 have tT:=a3g
 have cT:=a1b
 have mR:=a0g
 go_enter fn48,nt48
 go_wp2_with (go_at_call 113;refine(f7f a b ca cb ta tb w hne ha hb).mono ?_;rintro e w' ⟨rfl,hx⟩)
 go_ret
 first|exact⟨rfl,hx⟩|exact⟨rfl,rfl⟩
theorem g7u:P.funcs[377]?=some Go.Proofs.Tryz.f377:=by kernel_rfl
theorem g7e:Go.Proofs.Tryz.f377.ntmps=5:=by kernel_rfl
theorem f9m:b1v P 173 274=true:=by kernel_rfl
theorem g0r:hasB P 173 277=true:=by kernel_rfl
theorem b7h (v : Value) (w : World) : (Go.method 543 173 v "Unwrap").run P w = .ok (377, v) w := by kernel_rfl
set_option maxHeartbeats 4000000 in
theorem f9r(s:ByteArray)(v:Value)(w:World)(hv:v.oneCell'=true):Calls P 377 #[.agg #[.string s,v]] w fun e w'=>e=.returned v∧Below w.heap.size w w':=by
 go_enter g7u,g7e
 go_wp2
 go_ret
 exact⟨rfl,(Below.refl _ w).alloc (Nat.le_refl _) _⟩
set_option maxHeartbeats 4000000 in
theorem e3d(s:ByteArray)(b:Addr)(w:World) :
  Calls P 113 #[.iface 173 (.agg #[.string s,.iface 413 (.pointer (some b))]),.iface 413 (.pointer (some b)),.bool true] w fun e w'=>e=.returned (.bool true)∧Below w.heap.size w w':=by
 obtain⟨ms,h77⟩:=a0q i77
 obtain⟨i,hi,hcmp⟩:=Option.map_eq_some_iff.1 a8j
 obtain⟨j,hj,hjs⟩:=Option.map_eq_some_iff.1 a8i
 have nE:=a0a nE1
 have uE:=a0a nE2
 have vE:=a0a nE3
 have nW:=a0a f9m
 have uW:=a1y g0r
 have mU:=b7h
 have heq:=fun w=>run_eql_iface_ptr_same (P:=P) w b h77 u130 hi hcmp hj
 have hty:=run_eql_iface_types (P:=P) 173 413 (.agg #[.string s,.iface 413 (.pointer (some b))]) (.pointer (some b)) h77 (by decide) w
 have hu:=f9r s (.iface 413 (.pointer (some b))) w rfl
 go_enter b3m,b3k
 go_wp2
 refine wp_loop_rounds 2 ?_
 rw[rounds_succ]
 go_wp2_with (go_at_call 377;refine hu.mono ?_;rintro e w' ⟨rfl,hb⟩)
 rw[rounds_succ]
 go_wp2
 go_ret
 exact⟨rfl,by assumption⟩
set_option maxHeartbeats 4000000 in
theorem d7d(s:ByteArray)(a b:Addr)(ca cb:Array Value)(ta tb:TypeId)(w:World)(hne:a≠b)(hal:a.block<w.heap.size)(hbl:b.block<w.heap.size)(ha:w.heap[a.block]?=some (.cells ca ta (0,0)))(hb:w.heap[b.block]?=some (.cells cb tb (0,0))) :
  Calls P 113 #[.iface 173 (.agg #[.string s,.iface 413 (.pointer (some a))]),.iface 413 (.pointer (some b)),.bool true] w fun e w'=>e=.returned (.bool false)∧Below w.heap.size w w':=by
 obtain⟨ms,h77⟩:=a0q i77
 obtain⟨i,hi,hcmp⟩:=Option.map_eq_some_iff.1 a8j
 obtain⟨j,hj,hjs⟩:=Option.map_eq_some_iff.1 a8i
 have nE:=a0a nE1
 have uE:=a0a nE2
 have vE:=a0a nE3
 have nW:=a0a f9m
 have uW:=a1y g0r
 have mU:=b7h
 have heq:∀w':World,Below w.heap.size w w'→(binOp .eql 101 (.iface 413 (.pointer (some a))) (.iface 413 (.pointer (some b)))).run P w'=.ok (.bool false) w':=fun w' hB=>run_eql_iface_ptr_other (P:=P) w' h77 u130 hi hcmp hj (by rw[hjs];decide) hne ((hB.block _ hal).trans ha) ((hB.block _ hbl).trans hb)
 have hty:=run_eql_iface_types (P:=P) 173 413 (.agg #[.string s,.iface 413 (.pointer (some a))]) (.pointer (some b)) h77 (by decide) w
 have hu:=f9r s (.iface 413 (.pointer (some a))) w rfl
 go_enter b3m,b3k
 go_wp2
 refine wp_loop_rounds 2 ?_
 rw[rounds_succ]
 go_wp2_with (go_at_call 377;refine hu.mono ?_;rintro e w' ⟨rfl,hB⟩;have heq2:=heq w' hB)
 rw[rounds_succ]
 go_wp2
 go_ret
 exact⟨rfl,by assumption⟩
set_option maxHeartbeats 4000000 in
theorem e3i(s:ByteArray)(b:Addr)(w:World)(_:∃ca ta,w.heap[b.block]?=some (.cells ca ta (0,0))) :
  Calls P 48 #[.iface 173 (.agg #[.string s,.iface 413 (.pointer (some b))]),.iface 413 (.pointer (some b))] w fun e w'=>e=.returned (.bool true)∧Below w.heap.size w w':=by
 obtain⟨ms,h77⟩:=a0q i77
 have h8:=@run_callFunc_extern P 112 _ Extern.ReflectliteType.typeOf b3p (by kernel_rfl) (by kernel_rfl) (by kernel_rfl) (by kernel_rfl)
 have h32:=@run_callFunc_extern P 385 _ a7s b3r (by kernel_rfl) (by kernel_rfl) (by kernel_rfl) (by kernel_rfl)
 have tT:=a3g
 have cT:=a1b
 have mR:=a0g
 go_enter fn48,nt48
 go_wp2_with (go_at_call 113;refine(e3d s b w).mono ?_;rintro e w' ⟨rfl,hx⟩)
 go_ret
 first|exact⟨rfl,hx⟩|exact⟨rfl,rfl⟩
set_option maxHeartbeats 4000000 in
theorem d8o(s:ByteArray)(a b:Addr)(ca cb:Array Value)(ta tb:TypeId)(w:World)(hne:a≠b)(ha:w.heap[a.block]?=some (.cells ca ta (0,0)))(hb:w.heap[b.block]?=some (.cells cb tb (0,0))) :
  Calls P 48 #[.iface 173 (.agg #[.string s,.iface 413 (.pointer (some a))]),.iface 413 (.pointer (some b))] w fun e w'=>e=.returned (.bool false)∧Below w.heap.size w w':=by
 obtain⟨ms,h77⟩:=a0q i77
 have h8:=@run_callFunc_extern P 112 _ Extern.ReflectliteType.typeOf b3p (by kernel_rfl) (by kernel_rfl) (by kernel_rfl) (by kernel_rfl)
 have h32:=@run_callFunc_extern P 385 _ a7s b3r (by kernel_rfl) (by kernel_rfl) (by kernel_rfl) (by kernel_rfl)
 have tT:=a3g
 have cT:=a1b
 have mR:=a0g
 go_enter fn48,nt48
 go_wp2_with (go_at_call 113;refine(d7d s a b ca cb ta tb w hne (a1t ha) (a1t hb) ha hb).mono ?_;rintro e w' ⟨rfl,hx⟩)
 go_ret
 first|exact⟨rfl,hx⟩|exact⟨rfl,rfl⟩
theorem g7d:P.funcs[395]?=some Go.Proofs.Tryz.f395:=by kernel_rfl
theorem g7f:Go.Proofs.Tryz.f395.ntmps=5:=by kernel_rfl
theorem f8m:b1v P 319 274=true:=by kernel_rfl
theorem f9t:hasB P 319 277=true:=by kernel_rfl
theorem b9f (v : Value) (w : World) : (Go.method 543 319 v "Unwrap").run P w = .ok (395, v) w := by kernel_rfl
set_option maxHeartbeats 4000000 in
theorem g0a(s:ByteArray)(v:Value)(w:World)(hv:v.oneCell'=true):Calls P 395 #[.agg #[.string s,v]] w fun e w'=>e=.returned v∧Below w.heap.size w w':=by
 go_enter g7d,g7f
 go_wp2
 go_ret
 exact⟨rfl,(Below.refl _ w).alloc (Nat.le_refl _) _⟩
set_option maxHeartbeats 4000000 in
theorem e3t(s:ByteArray)(b:Addr)(w:World) :
  Calls P 113 #[.iface 319 (.agg #[.string s,.iface 413 (.pointer (some b))]),.iface 413 (.pointer (some b)),.bool true] w fun e w'=>e=.returned (.bool true)∧Below w.heap.size w w':=by
 obtain⟨ms,h77⟩:=a0q i77
 obtain⟨i,hi,hcmp⟩:=Option.map_eq_some_iff.1 a8j
 obtain⟨j,hj,hjs⟩:=Option.map_eq_some_iff.1 a8i
 have nE:=a0a nE1
 have uE:=a0a nE2
 have vE:=a0a nE3
 have nW:=a0a f8m
 have uW:=a1y f9t
 have mU:=b9f
 have heq:=fun w=>run_eql_iface_ptr_same (P:=P) w b h77 u130 hi hcmp hj
 have hty:=run_eql_iface_types (P:=P) 319 413 (.agg #[.string s,.iface 413 (.pointer (some b))]) (.pointer (some b)) h77 (by decide) w
 have hu:=g0a s (.iface 413 (.pointer (some b))) w rfl
 go_enter b3m,b3k
 go_wp2
 refine wp_loop_rounds 2 ?_
 rw[rounds_succ]
 go_wp2_with (go_at_call 395;refine hu.mono ?_;rintro e w' ⟨rfl,hb⟩)
 rw[rounds_succ]
 go_wp2
 go_ret
 exact⟨rfl,by assumption⟩
set_option maxHeartbeats 4000000 in
theorem d8s(s:ByteArray)(a b:Addr)(ca cb:Array Value)(ta tb:TypeId)(w:World)(hne:a≠b)(hal:a.block<w.heap.size)(hbl:b.block<w.heap.size)(ha:w.heap[a.block]?=some (.cells ca ta (0,0)))(hb:w.heap[b.block]?=some (.cells cb tb (0,0))) :
  Calls P 113 #[.iface 319 (.agg #[.string s,.iface 413 (.pointer (some a))]),.iface 413 (.pointer (some b)),.bool true] w fun e w'=>e=.returned (.bool false)∧Below w.heap.size w w':=by
 obtain⟨ms,h77⟩:=a0q i77
 obtain⟨i,hi,hcmp⟩:=Option.map_eq_some_iff.1 a8j
 obtain⟨j,hj,hjs⟩:=Option.map_eq_some_iff.1 a8i
 have nE:=a0a nE1
 have uE:=a0a nE2
 have vE:=a0a nE3
 have nW:=a0a f8m
 have uW:=a1y f9t
 have mU:=b9f
 have heq:∀w':World,Below w.heap.size w w'→(binOp .eql 101 (.iface 413 (.pointer (some a))) (.iface 413 (.pointer (some b)))).run P w'=.ok (.bool false) w':=fun w' hB=>run_eql_iface_ptr_other (P:=P) w' h77 u130 hi hcmp hj (by rw[hjs];decide) hne ((hB.block _ hal).trans ha) ((hB.block _ hbl).trans hb)
 have hty:=run_eql_iface_types (P:=P) 319 413 (.agg #[.string s,.iface 413 (.pointer (some a))]) (.pointer (some b)) h77 (by decide) w
 have hu:=g0a s (.iface 413 (.pointer (some a))) w rfl
 go_enter b3m,b3k
 go_wp2
 refine wp_loop_rounds 2 ?_
 rw[rounds_succ]
 go_wp2_with (go_at_call 395;refine hu.mono ?_;rintro e w' ⟨rfl,hB⟩;have heq2:=heq w' hB)
 rw[rounds_succ]
 go_wp2
 go_ret
 exact⟨rfl,by assumption⟩
set_option maxHeartbeats 4000000 in
theorem e2r(s:ByteArray)(b:Addr)(w:World)(_:∃ca ta,w.heap[b.block]?=some (.cells ca ta (0,0))) :
  Calls P 48 #[.iface 319 (.agg #[.string s,.iface 413 (.pointer (some b))]),.iface 413 (.pointer (some b))] w fun e w'=>e=.returned (.bool true)∧Below w.heap.size w w':=by
 obtain⟨ms,h77⟩:=a0q i77
 have h8:=@run_callFunc_extern P 112 _ Extern.ReflectliteType.typeOf b3p (by kernel_rfl) (by kernel_rfl) (by kernel_rfl) (by kernel_rfl)
 have h32:=@run_callFunc_extern P 385 _ a7s b3r (by kernel_rfl) (by kernel_rfl) (by kernel_rfl) (by kernel_rfl)
 have tT:=a3g
 have cT:=a1b
 have mR:=a0g
 go_enter fn48,nt48
 go_wp2_with (go_at_call 113;refine(e3t s b w).mono ?_;rintro e w' ⟨rfl,hx⟩)
 go_ret
 first|exact⟨rfl,hx⟩|exact⟨rfl,rfl⟩
set_option maxHeartbeats 4000000 in
theorem d7g(s:ByteArray)(a b:Addr)(ca cb:Array Value)(ta tb:TypeId)(w:World)(hne:a≠b)(ha:w.heap[a.block]?=some (.cells ca ta (0,0)))(hb:w.heap[b.block]?=some (.cells cb tb (0,0))) :
  Calls P 48 #[.iface 319 (.agg #[.string s,.iface 413 (.pointer (some a))]),.iface 413 (.pointer (some b))] w fun e w'=>e=.returned (.bool false)∧Below w.heap.size w w':=by
 obtain⟨ms,h77⟩:=a0q i77
 have h8:=@run_callFunc_extern P 112 _ Extern.ReflectliteType.typeOf b3p (by kernel_rfl) (by kernel_rfl) (by kernel_rfl) (by kernel_rfl)
 have h32:=@run_callFunc_extern P 385 _ a7s b3r (by kernel_rfl) (by kernel_rfl) (by kernel_rfl) (by kernel_rfl)
 have tT:=a3g
 have cT:=a1b
 have mR:=a0g
 go_enter fn48,nt48
 go_wp2_with (go_at_call 113;refine(d8s s a b ca cb ta tb w hne (a1t ha) (a1t hb) ha hb).mono ?_;rintro e w' ⟨rfl,hx⟩)
 go_ret
 first|exact⟨rfl,hx⟩|exact⟨rfl,rfl⟩
theorem g6x:P.funcs[397]?=some Go.Proofs.Tryz.f397:=by kernel_rfl
theorem g7r:Go.Proofs.Tryz.f397.ntmps=5:=by kernel_rfl
theorem g0o:b1v P 362 274=true:=by kernel_rfl
theorem f9n:hasB P 362 277=true:=by kernel_rfl
theorem b8w (v : Value) (w : World) : (Go.method 543 362 v "Unwrap").run P w = .ok (397, v) w := by kernel_rfl
set_option maxHeartbeats 4000000 in
theorem g0f(s:ByteArray)(v:Value)(w:World)(hv:v.oneCell'=true):Calls P 397 #[.agg #[.string s,v]] w fun e w'=>e=.returned v∧Below w.heap.size w w':=by
 go_enter g6x,g7r
 go_wp2
 go_ret
 exact⟨rfl,(Below.refl _ w).alloc (Nat.le_refl _) _⟩
set_option maxHeartbeats 4000000 in
theorem e1w(s:ByteArray)(b:Addr)(w:World) :
  Calls P 113 #[.iface 362 (.agg #[.string s,.iface 413 (.pointer (some b))]),.iface 413 (.pointer (some b)),.bool true] w fun e w'=>e=.returned (.bool true)∧Below w.heap.size w w':=by
 obtain⟨ms,h77⟩:=a0q i77
 obtain⟨i,hi,hcmp⟩:=Option.map_eq_some_iff.1 a8j
 obtain⟨j,hj,hjs⟩:=Option.map_eq_some_iff.1 a8i
 have nE:=a0a nE1
 have uE:=a0a nE2
 have vE:=a0a nE3
 have nW:=a0a g0o
 have uW:=a1y f9n
 have mU:=b8w
 have heq:=fun w=>run_eql_iface_ptr_same (P:=P) w b h77 u130 hi hcmp hj
 have hty:=run_eql_iface_types (P:=P) 362 413 (.agg #[.string s,.iface 413 (.pointer (some b))]) (.pointer (some b)) h77 (by decide) w
 have hu:=g0f s (.iface 413 (.pointer (some b))) w rfl
 go_enter b3m,b3k
 go_wp2
 refine wp_loop_rounds 2 ?_
 rw[rounds_succ]
 go_wp2_with (go_at_call 397;refine hu.mono ?_;rintro e w' ⟨rfl,hb⟩)
 rw[rounds_succ]
 go_wp2
 go_ret
 exact⟨rfl,by assumption⟩
set_option maxHeartbeats 4000000 in
theorem e0e(s:ByteArray)(a b:Addr)(ca cb:Array Value)(ta tb:TypeId)(w:World)(hne:a≠b)(hal:a.block<w.heap.size)(hbl:b.block<w.heap.size)(ha:w.heap[a.block]?=some (.cells ca ta (0,0)))(hb:w.heap[b.block]?=some (.cells cb tb (0,0))) :
  Calls P 113 #[.iface 362 (.agg #[.string s,.iface 413 (.pointer (some a))]),.iface 413 (.pointer (some b)),.bool true] w fun e w'=>e=.returned (.bool false)∧Below w.heap.size w w':=by
 obtain⟨ms,h77⟩:=a0q i77
 obtain⟨i,hi,hcmp⟩:=Option.map_eq_some_iff.1 a8j
 obtain⟨j,hj,hjs⟩:=Option.map_eq_some_iff.1 a8i
 have nE:=a0a nE1
 have uE:=a0a nE2
 have vE:=a0a nE3
 have nW:=a0a g0o
 have uW:=a1y f9n
 have mU:=b8w
 have heq:∀w':World,Below w.heap.size w w'→(binOp .eql 101 (.iface 413 (.pointer (some a))) (.iface 413 (.pointer (some b)))).run P w'=.ok (.bool false) w':=fun w' hB=>run_eql_iface_ptr_other (P:=P) w' h77 u130 hi hcmp hj (by rw[hjs];decide) hne ((hB.block _ hal).trans ha) ((hB.block _ hbl).trans hb)
 have hty:=run_eql_iface_types (P:=P) 362 413 (.agg #[.string s,.iface 413 (.pointer (some a))]) (.pointer (some b)) h77 (by decide) w
 have hu:=g0f s (.iface 413 (.pointer (some a))) w rfl
 go_enter b3m,b3k
 go_wp2
 refine wp_loop_rounds 2 ?_
 rw[rounds_succ]
 go_wp2_with (go_at_call 397;refine hu.mono ?_;rintro e w' ⟨rfl,hB⟩;have heq2:=heq w' hB)
 rw[rounds_succ]
 go_wp2
 go_ret
 exact⟨rfl,by assumption⟩
set_option maxHeartbeats 4000000 in
theorem e1u(s:ByteArray)(b:Addr)(w:World)(_:∃ca ta,w.heap[b.block]?=some (.cells ca ta (0,0))) :
  Calls P 48 #[.iface 362 (.agg #[.string s,.iface 413 (.pointer (some b))]),.iface 413 (.pointer (some b))] w fun e w'=>e=.returned (.bool true)∧Below w.heap.size w w':=by
 obtain⟨ms,h77⟩:=a0q i77
 have h8:=@run_callFunc_extern P 112 _ Extern.ReflectliteType.typeOf b3p (by kernel_rfl) (by kernel_rfl) (by kernel_rfl) (by kernel_rfl)
 have h32:=@run_callFunc_extern P 385 _ a7s b3r (by kernel_rfl) (by kernel_rfl) (by kernel_rfl) (by kernel_rfl)
 have tT:=a3g
 have cT:=a1b
 have mR:=a0g
 go_enter fn48,nt48
 go_wp2_with (go_at_call 113;refine(e1w s b w).mono ?_;rintro e w' ⟨rfl,hx⟩)
 go_ret
 first|exact⟨rfl,hx⟩|exact⟨rfl,rfl⟩
set_option maxHeartbeats 4000000 in
theorem d7z(s:ByteArray)(a b:Addr)(ca cb:Array Value)(ta tb:TypeId)(w:World)(hne:a≠b)(ha:w.heap[a.block]?=some (.cells ca ta (0,0)))(hb:w.heap[b.block]?=some (.cells cb tb (0,0))) :
  Calls P 48 #[.iface 362 (.agg #[.string s,.iface 413 (.pointer (some a))]),.iface 413 (.pointer (some b))] w fun e w'=>e=.returned (.bool false)∧Below w.heap.size w w':=by
 obtain⟨ms,h77⟩:=a0q i77
 have h8:=@run_callFunc_extern P 112 _ Extern.ReflectliteType.typeOf b3p (by kernel_rfl) (by kernel_rfl) (by kernel_rfl) (by kernel_rfl)
 have h32:=@run_callFunc_extern P 385 _ a7s b3r (by kernel_rfl) (by kernel_rfl) (by kernel_rfl) (by kernel_rfl)
 have tT:=a3g
 have cT:=a1b
 have mR:=a0g
 go_enter fn48,nt48
 go_wp2_with (go_at_call 113;refine(e0e s a b ca cb ta tb w hne (a1t ha) (a1t hb) ha hb).mono ?_;rintro e w' ⟨rfl,hx⟩)
 go_ret
 first|exact⟨rfl,hx⟩|exact⟨rfl,rfl⟩
theorem g7i:P.funcs[399]?=some Go.Proofs.Tryz.f399:=by kernel_rfl
theorem g7v:Go.Proofs.Tryz.f399.ntmps=5:=by kernel_rfl
theorem f9x:b1v P 366 274=true:=by kernel_rfl
theorem f8v:hasB P 366 277=true:=by kernel_rfl
theorem b7q (v : Value) (w : World) : (Go.method 543 366 v "Unwrap").run P w = .ok (399, v) w := by kernel_rfl
set_option maxHeartbeats 4000000 in
theorem f8w(s:ByteArray)(v:Value)(w:World)(hv:v.oneCell'=true):Calls P 399 #[.agg #[.string s,v]] w fun e w'=>e=.returned v∧Below w.heap.size w w':=by
 go_enter g7i,g7v
 go_wp2
 go_ret
 exact⟨rfl,(Below.refl _ w).alloc (Nat.le_refl _) _⟩
set_option maxHeartbeats 4000000 in
theorem e1y(s:ByteArray)(b:Addr)(w:World) :
  Calls P 113 #[.iface 366 (.agg #[.string s,.iface 413 (.pointer (some b))]),.iface 413 (.pointer (some b)),.bool true] w fun e w'=>e=.returned (.bool true)∧Below w.heap.size w w':=by
 obtain⟨ms,h77⟩:=a0q i77
 obtain⟨i,hi,hcmp⟩:=Option.map_eq_some_iff.1 a8j
 obtain⟨j,hj,hjs⟩:=Option.map_eq_some_iff.1 a8i
 have nE:=a0a nE1
 have uE:=a0a nE2
 have vE:=a0a nE3
 have nW:=a0a f9x
 have uW:=a1y f8v
 have mU:=b7q
 have heq:=fun w=>run_eql_iface_ptr_same (P:=P) w b h77 u130 hi hcmp hj
 have hty:=run_eql_iface_types (P:=P) 366 413 (.agg #[.string s,.iface 413 (.pointer (some b))]) (.pointer (some b)) h77 (by decide) w
 have hu:=f8w s (.iface 413 (.pointer (some b))) w rfl
 go_enter b3m,b3k
 go_wp2
 refine wp_loop_rounds 2 ?_
 rw[rounds_succ]
 go_wp2_with (go_at_call 399;refine hu.mono ?_;rintro e w' ⟨rfl,hb⟩)
 rw[rounds_succ]
 go_wp2
 go_ret
 exact⟨rfl,by assumption⟩
set_option maxHeartbeats 4000000 in
theorem d9o(s:ByteArray)(a b:Addr)(ca cb:Array Value)(ta tb:TypeId)(w:World)(hne:a≠b)(hal:a.block<w.heap.size)(hbl:b.block<w.heap.size)(ha:w.heap[a.block]?=some (.cells ca ta (0,0)))(hb:w.heap[b.block]?=some (.cells cb tb (0,0))) :
  Calls P 113 #[.iface 366 (.agg #[.string s,.iface 413 (.pointer (some a))]),.iface 413 (.pointer (some b)),.bool true] w fun e w'=>e=.returned (.bool false)∧Below w.heap.size w w':=by
 obtain⟨ms,h77⟩:=a0q i77
 obtain⟨i,hi,hcmp⟩:=Option.map_eq_some_iff.1 a8j
 obtain⟨j,hj,hjs⟩:=Option.map_eq_some_iff.1 a8i
 have nE:=a0a nE1
 have uE:=a0a nE2
 have vE:=a0a nE3
 have nW:=a0a f9x
 have uW:=a1y f8v
 have mU:=b7q
 have heq:∀w':World,Below w.heap.size w w'→(binOp .eql 101 (.iface 413 (.pointer (some a))) (.iface 413 (.pointer (some b)))).run P w'=.ok (.bool false) w':=fun w' hB=>run_eql_iface_ptr_other (P:=P) w' h77 u130 hi hcmp hj (by rw[hjs];decide) hne ((hB.block _ hal).trans ha) ((hB.block _ hbl).trans hb)
 have hty:=run_eql_iface_types (P:=P) 366 413 (.agg #[.string s,.iface 413 (.pointer (some a))]) (.pointer (some b)) h77 (by decide) w
 have hu:=f8w s (.iface 413 (.pointer (some a))) w rfl
 go_enter b3m,b3k
 go_wp2
 refine wp_loop_rounds 2 ?_
 rw[rounds_succ]
 go_wp2_with (go_at_call 399;refine hu.mono ?_;rintro e w' ⟨rfl,hB⟩;have heq2:=heq w' hB)
 rw[rounds_succ]
 go_wp2
 go_ret
 exact⟨rfl,by assumption⟩
set_option maxHeartbeats 4000000 in
theorem e3u(s:ByteArray)(b:Addr)(w:World)(_:∃ca ta,w.heap[b.block]?=some (.cells ca ta (0,0))) :
  Calls P 48 #[.iface 366 (.agg #[.string s,.iface 413 (.pointer (some b))]),.iface 413 (.pointer (some b))] w fun e w'=>e=.returned (.bool true)∧Below w.heap.size w w':=by
 obtain⟨ms,h77⟩:=a0q i77
 have h8:=@run_callFunc_extern P 112 _ Extern.ReflectliteType.typeOf b3p (by kernel_rfl) (by kernel_rfl) (by kernel_rfl) (by kernel_rfl)
 have h32:=@run_callFunc_extern P 385 _ a7s b3r (by kernel_rfl) (by kernel_rfl) (by kernel_rfl) (by kernel_rfl)
 have tT:=a3g
 have cT:=a1b
 have mR:=a0g
 go_enter fn48,nt48
 go_wp2_with (go_at_call 113;refine(e1y s b w).mono ?_;rintro e w' ⟨rfl,hx⟩)
 go_ret
 first|exact⟨rfl,hx⟩|exact⟨rfl,rfl⟩
set_option maxHeartbeats 4000000 in
theorem d6w(s:ByteArray)(a b:Addr)(ca cb:Array Value)(ta tb:TypeId)(w:World)(hne:a≠b)(ha:w.heap[a.block]?=some (.cells ca ta (0,0)))(hb:w.heap[b.block]?=some (.cells cb tb (0,0))) :
  Calls P 48 #[.iface 366 (.agg #[.string s,.iface 413 (.pointer (some a))]),.iface 413 (.pointer (some b))] w fun e w'=>e=.returned (.bool false)∧Below w.heap.size w w':=by
 obtain⟨ms,h77⟩:=a0q i77
 have h8:=@run_callFunc_extern P 112 _ Extern.ReflectliteType.typeOf b3p (by kernel_rfl) (by kernel_rfl) (by kernel_rfl) (by kernel_rfl)
 have h32:=@run_callFunc_extern P 385 _ a7s b3r (by kernel_rfl) (by kernel_rfl) (by kernel_rfl) (by kernel_rfl)
 have tT:=a3g
 have cT:=a1b
 have mR:=a0g
 go_enter fn48,nt48
 go_wp2_with (go_at_call 113;refine(d9o s a b ca cb ta tb w hne (a1t ha) (a1t hb) ha hb).mono ?_;rintro e w' ⟨rfl,hx⟩)
 go_ret
 first|exact⟨rfl,hx⟩|exact⟨rfl,rfl⟩
theorem g5z:P.funcs[401]?=some Go.Proofs.Tryz.f401:=by kernel_rfl
theorem g5w:Go.Proofs.Tryz.f401.ntmps=5:=by kernel_rfl
theorem g0j:b1v P 370 274=true:=by kernel_rfl
theorem f9v:hasB P 370 277=true:=by kernel_rfl
theorem b8s (v : Value) (w : World) : (Go.method 543 370 v "Unwrap").run P w = .ok (401, v) w := by kernel_rfl
set_option maxHeartbeats 4000000 in
theorem f9e(s:ByteArray)(v:Value)(w:World)(hv:v.oneCell'=true):Calls P 401 #[.agg #[.string s,v]] w fun e w'=>e=.returned v∧Below w.heap.size w w':=by
 go_enter g5z,g5w
 go_wp2
 go_ret
 exact⟨rfl,(Below.refl _ w).alloc (Nat.le_refl _) _⟩
set_option maxHeartbeats 4000000 in
theorem e2q(s:ByteArray)(b:Addr)(w:World) :
  Calls P 113 #[.iface 370 (.agg #[.string s,.iface 413 (.pointer (some b))]),.iface 413 (.pointer (some b)),.bool true] w fun e w'=>e=.returned (.bool true)∧Below w.heap.size w w':=by
 obtain⟨ms,h77⟩:=a0q i77
 obtain⟨i,hi,hcmp⟩:=Option.map_eq_some_iff.1 a8j
 obtain⟨j,hj,hjs⟩:=Option.map_eq_some_iff.1 a8i
 have nE:=a0a nE1
 have uE:=a0a nE2
 have vE:=a0a nE3
 have nW:=a0a g0j
 have uW:=a1y f9v
 have mU:=b8s
 have heq:=fun w=>run_eql_iface_ptr_same (P:=P) w b h77 u130 hi hcmp hj
 have hty:=run_eql_iface_types (P:=P) 370 413 (.agg #[.string s,.iface 413 (.pointer (some b))]) (.pointer (some b)) h77 (by decide) w
 have hu:=f9e s (.iface 413 (.pointer (some b))) w rfl
 go_enter b3m,b3k
 go_wp2
 refine wp_loop_rounds 2 ?_
 rw[rounds_succ]
 go_wp2_with (go_at_call 401;refine hu.mono ?_;rintro e w' ⟨rfl,hb⟩)
 rw[rounds_succ]
 go_wp2
 go_ret
 exact⟨rfl,by assumption⟩
set_option maxHeartbeats 4000000 in
theorem e1c(s:ByteArray)(a b:Addr)(ca cb:Array Value)(ta tb:TypeId)(w:World)(hne:a≠b)(hal:a.block<w.heap.size)(hbl:b.block<w.heap.size)(ha:w.heap[a.block]?=some (.cells ca ta (0,0)))(hb:w.heap[b.block]?=some (.cells cb tb (0,0))) :
  Calls P 113 #[.iface 370 (.agg #[.string s,.iface 413 (.pointer (some a))]),.iface 413 (.pointer (some b)),.bool true] w fun e w'=>e=.returned (.bool false)∧Below w.heap.size w w':=by
 obtain⟨ms,h77⟩:=a0q i77
 obtain⟨i,hi,hcmp⟩:=Option.map_eq_some_iff.1 a8j
 obtain⟨j,hj,hjs⟩:=Option.map_eq_some_iff.1 a8i
 have nE:=a0a nE1
 have uE:=a0a nE2
 have vE:=a0a nE3
 have nW:=a0a g0j
 have uW:=a1y f9v
 have mU:=b8s
 have heq:∀w':World,Below w.heap.size w w'→(binOp .eql 101 (.iface 413 (.pointer (some a))) (.iface 413 (.pointer (some b)))).run P w'=.ok (.bool false) w':=fun w' hB=>run_eql_iface_ptr_other (P:=P) w' h77 u130 hi hcmp hj (by rw[hjs];decide) hne ((hB.block _ hal).trans ha) ((hB.block _ hbl).trans hb)
 have hty:=run_eql_iface_types (P:=P) 370 413 (.agg #[.string s,.iface 413 (.pointer (some a))]) (.pointer (some b)) h77 (by decide) w
 have hu:=f9e s (.iface 413 (.pointer (some a))) w rfl
 go_enter b3m,b3k
 go_wp2
 refine wp_loop_rounds 2 ?_
 rw[rounds_succ]
 go_wp2_with (go_at_call 401;refine hu.mono ?_;rintro e w' ⟨rfl,hB⟩;have heq2:=heq w' hB)
 rw[rounds_succ]
 go_wp2
 go_ret
 exact⟨rfl,by assumption⟩
set_option maxHeartbeats 4000000 in
theorem e3m(s:ByteArray)(b:Addr)(w:World)(_:∃ca ta,w.heap[b.block]?=some (.cells ca ta (0,0))) :
  Calls P 48 #[.iface 370 (.agg #[.string s,.iface 413 (.pointer (some b))]),.iface 413 (.pointer (some b))] w fun e w'=>e=.returned (.bool true)∧Below w.heap.size w w':=by
 obtain⟨ms,h77⟩:=a0q i77
 have h8:=@run_callFunc_extern P 112 _ Extern.ReflectliteType.typeOf b3p (by kernel_rfl) (by kernel_rfl) (by kernel_rfl) (by kernel_rfl)
 have h32:=@run_callFunc_extern P 385 _ a7s b3r (by kernel_rfl) (by kernel_rfl) (by kernel_rfl) (by kernel_rfl)
 have tT:=a3g
 have cT:=a1b
 have mR:=a0g
 go_enter fn48,nt48
 go_wp2_with (go_at_call 113;refine(e2q s b w).mono ?_;rintro e w' ⟨rfl,hx⟩)
 go_ret
 first|exact⟨rfl,hx⟩|exact⟨rfl,rfl⟩
set_option maxHeartbeats 4000000 in
theorem d7c(s:ByteArray)(a b:Addr)(ca cb:Array Value)(ta tb:TypeId)(w:World)(hne:a≠b)(ha:w.heap[a.block]?=some (.cells ca ta (0,0)))(hb:w.heap[b.block]?=some (.cells cb tb (0,0))) :
  Calls P 48 #[.iface 370 (.agg #[.string s,.iface 413 (.pointer (some a))]),.iface 413 (.pointer (some b))] w fun e w'=>e=.returned (.bool false)∧Below w.heap.size w w':=by
 obtain⟨ms,h77⟩:=a0q i77
 have h8:=@run_callFunc_extern P 112 _ Extern.ReflectliteType.typeOf b3p (by kernel_rfl) (by kernel_rfl) (by kernel_rfl) (by kernel_rfl)
 have h32:=@run_callFunc_extern P 385 _ a7s b3r (by kernel_rfl) (by kernel_rfl) (by kernel_rfl) (by kernel_rfl)
 have tT:=a3g
 have cT:=a1b
 have mR:=a0g
 go_enter fn48,nt48
 go_wp2_with (go_at_call 113;refine(e1c s a b ca cb ta tb w hne (a1t ha) (a1t hb) ha hb).mono ?_;rintro e w' ⟨rfl,hx⟩)
 go_ret
 first|exact⟨rfl,hx⟩|exact⟨rfl,rfl⟩
theorem g7g:P.funcs[403]?=some Go.Proofs.Tryz.f403:=by kernel_rfl
theorem g6m:Go.Proofs.Tryz.f403.ntmps=5:=by kernel_rfl
theorem f8k:b1v P 372 274=true:=by kernel_rfl
theorem f8p:hasB P 372 277=true:=by kernel_rfl
theorem b8z (v : Value) (w : World) : (Go.method 543 372 v "Unwrap").run P w = .ok (403, v) w := by kernel_rfl
set_option maxHeartbeats 4000000 in
theorem f8z(s:ByteArray)(v:Value)(w:World)(hv:v.oneCell'=true):Calls P 403 #[.agg #[.string s,v]] w fun e w'=>e=.returned v∧Below w.heap.size w w':=by
 go_enter g7g,g6m
 go_wp2
 go_ret
 exact⟨rfl,(Below.refl _ w).alloc (Nat.le_refl _) _⟩
set_option maxHeartbeats 4000000 in
theorem e2m(s:ByteArray)(b:Addr)(w:World) :
  Calls P 113 #[.iface 372 (.agg #[.string s,.iface 413 (.pointer (some b))]),.iface 413 (.pointer (some b)),.bool true] w fun e w'=>e=.returned (.bool true)∧Below w.heap.size w w':=by
 obtain⟨ms,h77⟩:=a0q i77
 obtain⟨i,hi,hcmp⟩:=Option.map_eq_some_iff.1 a8j
 obtain⟨j,hj,hjs⟩:=Option.map_eq_some_iff.1 a8i
 have nE:=a0a nE1
 have uE:=a0a nE2
 have vE:=a0a nE3
 have nW:=a0a f8k
 have uW:=a1y f8p
 have mU:=b8z
 have heq:=fun w=>run_eql_iface_ptr_same (P:=P) w b h77 u130 hi hcmp hj
 have hty:=run_eql_iface_types (P:=P) 372 413 (.agg #[.string s,.iface 413 (.pointer (some b))]) (.pointer (some b)) h77 (by decide) w
 have hu:=f8z s (.iface 413 (.pointer (some b))) w rfl
 go_enter b3m,b3k
 go_wp2
 refine wp_loop_rounds 2 ?_
 rw[rounds_succ]
 go_wp2_with (go_at_call 403;refine hu.mono ?_;rintro e w' ⟨rfl,hb⟩)
 rw[rounds_succ]
 go_wp2
 go_ret
 exact⟨rfl,by assumption⟩
set_option maxHeartbeats 4000000 in
theorem d7a(s:ByteArray)(a b:Addr)(ca cb:Array Value)(ta tb:TypeId)(w:World)(hne:a≠b)(hal:a.block<w.heap.size)(hbl:b.block<w.heap.size)(ha:w.heap[a.block]?=some (.cells ca ta (0,0)))(hb:w.heap[b.block]?=some (.cells cb tb (0,0))) :
  Calls P 113 #[.iface 372 (.agg #[.string s,.iface 413 (.pointer (some a))]),.iface 413 (.pointer (some b)),.bool true] w fun e w'=>e=.returned (.bool false)∧Below w.heap.size w w':=by
 obtain⟨ms,h77⟩:=a0q i77
 obtain⟨i,hi,hcmp⟩:=Option.map_eq_some_iff.1 a8j
 obtain⟨j,hj,hjs⟩:=Option.map_eq_some_iff.1 a8i
 have nE:=a0a nE1
 have uE:=a0a nE2
 have vE:=a0a nE3
 have nW:=a0a f8k
 have uW:=a1y f8p
 have mU:=b8z
 have heq:∀w':World,Below w.heap.size w w'→(binOp .eql 101 (.iface 413 (.pointer (some a))) (.iface 413 (.pointer (some b)))).run P w'=.ok (.bool false) w':=fun w' hB=>run_eql_iface_ptr_other (P:=P) w' h77 u130 hi hcmp hj (by rw[hjs];decide) hne ((hB.block _ hal).trans ha) ((hB.block _ hbl).trans hb)
 have hty:=run_eql_iface_types (P:=P) 372 413 (.agg #[.string s,.iface 413 (.pointer (some a))]) (.pointer (some b)) h77 (by decide) w
 have hu:=f8z s (.iface 413 (.pointer (some a))) w rfl
 go_enter b3m,b3k
 go_wp2
 refine wp_loop_rounds 2 ?_
 rw[rounds_succ]
 go_wp2_with (go_at_call 403;refine hu.mono ?_;rintro e w' ⟨rfl,hB⟩;have heq2:=heq w' hB)
 rw[rounds_succ]
 go_wp2
 go_ret
 exact⟨rfl,by assumption⟩
set_option maxHeartbeats 4000000 in
theorem e2b(s:ByteArray)(b:Addr)(w:World)(_:∃ca ta,w.heap[b.block]?=some (.cells ca ta (0,0))) :
  Calls P 48 #[.iface 372 (.agg #[.string s,.iface 413 (.pointer (some b))]),.iface 413 (.pointer (some b))] w fun e w'=>e=.returned (.bool true)∧Below w.heap.size w w':=by
 obtain⟨ms,h77⟩:=a0q i77
 have h8:=@run_callFunc_extern P 112 _ Extern.ReflectliteType.typeOf b3p (by kernel_rfl) (by kernel_rfl) (by kernel_rfl) (by kernel_rfl)
 have h32:=@run_callFunc_extern P 385 _ a7s b3r (by kernel_rfl) (by kernel_rfl) (by kernel_rfl) (by kernel_rfl)
 have tT:=a3g
 have cT:=a1b
 have mR:=a0g
 go_enter fn48,nt48
 go_wp2_with (go_at_call 113;refine(e2m s b w).mono ?_;rintro e w' ⟨rfl,hx⟩)
 go_ret
 first|exact⟨rfl,hx⟩|exact⟨rfl,rfl⟩
set_option maxHeartbeats 4000000 in
theorem d7h(s:ByteArray)(a b:Addr)(ca cb:Array Value)(ta tb:TypeId)(w:World)(hne:a≠b)(ha:w.heap[a.block]?=some (.cells ca ta (0,0)))(hb:w.heap[b.block]?=some (.cells cb tb (0,0))) :
  Calls P 48 #[.iface 372 (.agg #[.string s,.iface 413 (.pointer (some a))]),.iface 413 (.pointer (some b))] w fun e w'=>e=.returned (.bool false)∧Below w.heap.size w w':=by
 obtain⟨ms,h77⟩:=a0q i77
 have h8:=@run_callFunc_extern P 112 _ Extern.ReflectliteType.typeOf b3p (by kernel_rfl) (by kernel_rfl) (by kernel_rfl) (by kernel_rfl)
 have h32:=@run_callFunc_extern P 385 _ a7s b3r (by kernel_rfl) (by kernel_rfl) (by kernel_rfl) (by kernel_rfl)
 have tT:=a3g
 have cT:=a1b
 have mR:=a0g
 go_enter fn48,nt48
 go_wp2_with (go_at_call 113;refine(d7a s a b ca cb ta tb w hne (a1t ha) (a1t hb) ha hb).mono ?_;rintro e w' ⟨rfl,hx⟩)
 go_ret
 first|exact⟨rfl,hx⟩|exact⟨rfl,rfl⟩
theorem g6u:P.funcs[405]?=some Go.Proofs.Tryz.f405:=by kernel_rfl
theorem g6g:Go.Proofs.Tryz.f405.ntmps=5:=by kernel_rfl
theorem g0i:b1v P 374 274=true:=by kernel_rfl
theorem g0m:hasB P 374 277=true:=by kernel_rfl
theorem b7n (v : Value) (w : World) : (Go.method 543 374 v "Unwrap").run P w = .ok (405, v) w := by kernel_rfl
set_option maxHeartbeats 4000000 in
theorem f8q(s:ByteArray)(v:Value)(w:World)(hv:v.oneCell'=true):Calls P 405 #[.agg #[.string s,v]] w fun e w'=>e=.returned v∧Below w.heap.size w w':=by
 go_enter g6u,g6g
 go_wp2
 go_ret
 exact⟨rfl,(Below.refl _ w).alloc (Nat.le_refl _) _⟩
set_option maxHeartbeats 4000000 in
theorem e2a(s:ByteArray)(b:Addr)(w:World) :
  Calls P 113 #[.iface 374 (.agg #[.string s,.iface 413 (.pointer (some b))]),.iface 413 (.pointer (some b)),.bool true] w fun e w'=>e=.returned (.bool true)∧Below w.heap.size w w':=by
 obtain⟨ms,h77⟩:=a0q i77
 obtain⟨i,hi,hcmp⟩:=Option.map_eq_some_iff.1 a8j
 obtain⟨j,hj,hjs⟩:=Option.map_eq_some_iff.1 a8i
 have nE:=a0a nE1
 have uE:=a0a nE2
 have vE:=a0a nE3
 have nW:=a0a g0i
 have uW:=a1y g0m
 have mU:=b7n
 have heq:=fun w=>run_eql_iface_ptr_same (P:=P) w b h77 u130 hi hcmp hj
 have hty:=run_eql_iface_types (P:=P) 374 413 (.agg #[.string s,.iface 413 (.pointer (some b))]) (.pointer (some b)) h77 (by decide) w
 have hu:=f8q s (.iface 413 (.pointer (some b))) w rfl
 go_enter b3m,b3k
 go_wp2
 refine wp_loop_rounds 2 ?_
 rw[rounds_succ]
 go_wp2_with (go_at_call 405;refine hu.mono ?_;rintro e w' ⟨rfl,hb⟩)
 rw[rounds_succ]
 go_wp2
 go_ret
 exact⟨rfl,by assumption⟩
set_option maxHeartbeats 4000000 in
theorem d9b(s:ByteArray)(a b:Addr)(ca cb:Array Value)(ta tb:TypeId)(w:World)(hne:a≠b)(hal:a.block<w.heap.size)(hbl:b.block<w.heap.size)(ha:w.heap[a.block]?=some (.cells ca ta (0,0)))(hb:w.heap[b.block]?=some (.cells cb tb (0,0))) :
  Calls P 113 #[.iface 374 (.agg #[.string s,.iface 413 (.pointer (some a))]),.iface 413 (.pointer (some b)),.bool true] w fun e w'=>e=.returned (.bool false)∧Below w.heap.size w w':=by
 obtain⟨ms,h77⟩:=a0q i77
 obtain⟨i,hi,hcmp⟩:=Option.map_eq_some_iff.1 a8j
 obtain⟨j,hj,hjs⟩:=Option.map_eq_some_iff.1 a8i
 have nE:=a0a nE1
 have uE:=a0a nE2
 have vE:=a0a nE3
 have nW:=a0a g0i
 have uW:=a1y g0m
 have mU:=b7n
 have heq:∀w':World,Below w.heap.size w w'→(binOp .eql 101 (.iface 413 (.pointer (some a))) (.iface 413 (.pointer (some b)))).run P w'=.ok (.bool false) w':=fun w' hB=>run_eql_iface_ptr_other (P:=P) w' h77 u130 hi hcmp hj (by rw[hjs];decide) hne ((hB.block _ hal).trans ha) ((hB.block _ hbl).trans hb)
 have hty:=run_eql_iface_types (P:=P) 374 413 (.agg #[.string s,.iface 413 (.pointer (some a))]) (.pointer (some b)) h77 (by decide) w
 have hu:=f8q s (.iface 413 (.pointer (some a))) w rfl
 go_enter b3m,b3k
 go_wp2
 refine wp_loop_rounds 2 ?_
 rw[rounds_succ]
 go_wp2_with (go_at_call 405;refine hu.mono ?_;rintro e w' ⟨rfl,hB⟩;have heq2:=heq w' hB)
 rw[rounds_succ]
 go_wp2
 go_ret
 exact⟨rfl,by assumption⟩
set_option maxHeartbeats 4000000 in
theorem e2o(s:ByteArray)(b:Addr)(w:World)(_:∃ca ta,w.heap[b.block]?=some (.cells ca ta (0,0))) :
  Calls P 48 #[.iface 374 (.agg #[.string s,.iface 413 (.pointer (some b))]),.iface 413 (.pointer (some b))] w fun e w'=>e=.returned (.bool true)∧Below w.heap.size w w':=by
 obtain⟨ms,h77⟩:=a0q i77
 have h8:=@run_callFunc_extern P 112 _ Extern.ReflectliteType.typeOf b3p (by kernel_rfl) (by kernel_rfl) (by kernel_rfl) (by kernel_rfl)
 have h32:=@run_callFunc_extern P 385 _ a7s b3r (by kernel_rfl) (by kernel_rfl) (by kernel_rfl) (by kernel_rfl)
 have tT:=a3g
 have cT:=a1b
 have mR:=a0g
 go_enter fn48,nt48
 go_wp2_with (go_at_call 113;refine(e2a s b w).mono ?_;rintro e w' ⟨rfl,hx⟩)
 go_ret
 first|exact⟨rfl,hx⟩|exact⟨rfl,rfl⟩
set_option maxHeartbeats 4000000 in
theorem d7r(s:ByteArray)(a b:Addr)(ca cb:Array Value)(ta tb:TypeId)(w:World)(hne:a≠b)(ha:w.heap[a.block]?=some (.cells ca ta (0,0)))(hb:w.heap[b.block]?=some (.cells cb tb (0,0))) :
  Calls P 48 #[.iface 374 (.agg #[.string s,.iface 413 (.pointer (some a))]),.iface 413 (.pointer (some b))] w fun e w'=>e=.returned (.bool false)∧Below w.heap.size w w':=by
 obtain⟨ms,h77⟩:=a0q i77
 have h8:=@run_callFunc_extern P 112 _ Extern.ReflectliteType.typeOf b3p (by kernel_rfl) (by kernel_rfl) (by kernel_rfl) (by kernel_rfl)
 have h32:=@run_callFunc_extern P 385 _ a7s b3r (by kernel_rfl) (by kernel_rfl) (by kernel_rfl) (by kernel_rfl)
 have tT:=a3g
 have cT:=a1b
 have mR:=a0g
 go_enter fn48,nt48
 go_wp2_with (go_at_call 113;refine(d9b s a b ca cb ta tb w hne (a1t ha) (a1t hb) ha hb).mono ?_;rintro e w' ⟨rfl,hx⟩)
 go_ret
 first|exact⟨rfl,hx⟩|exact⟨rfl,rfl⟩
theorem g6n:P.funcs[407]?=some Go.Proofs.Tryz.f407:=by kernel_rfl
theorem g7n:Go.Proofs.Tryz.f407.ntmps=5:=by kernel_rfl
theorem f9p:b1v P 386 274=true:=by kernel_rfl
theorem f8t:hasB P 386 277=true:=by kernel_rfl
theorem b7p (v : Value) (w : World) : (Go.method 543 386 v "Unwrap").run P w = .ok (407, v) w := by kernel_rfl
set_option maxHeartbeats 4000000 in
theorem f9z(s:ByteArray)(v:Value)(w:World)(hv:v.oneCell'=true):Calls P 407 #[.agg #[.string s,v]] w fun e w'=>e=.returned v∧Below w.heap.size w w':=by
 go_enter g6n,g7n
 go_wp2
 go_ret
 exact⟨rfl,(Below.refl _ w).alloc (Nat.le_refl _) _⟩
set_option maxHeartbeats 4000000 in
theorem e4e(s:ByteArray)(b:Addr)(w:World) :
  Calls P 113 #[.iface 386 (.agg #[.string s,.iface 413 (.pointer (some b))]),.iface 413 (.pointer (some b)),.bool true] w fun e w'=>e=.returned (.bool true)∧Below w.heap.size w w':=by
 obtain⟨ms,h77⟩:=a0q i77
 obtain⟨i,hi,hcmp⟩:=Option.map_eq_some_iff.1 a8j
 obtain⟨j,hj,hjs⟩:=Option.map_eq_some_iff.1 a8i
 have nE:=a0a nE1
 have uE:=a0a nE2
 have vE:=a0a nE3
 have nW:=a0a f9p
 have uW:=a1y f8t
 have mU:=b7p
 have heq:=fun w=>run_eql_iface_ptr_same (P:=P) w b h77 u130 hi hcmp hj
 have hty:=run_eql_iface_types (P:=P) 386 413 (.agg #[.string s,.iface 413 (.pointer (some b))]) (.pointer (some b)) h77 (by decide) w
 have hu:=f9z s (.iface 413 (.pointer (some b))) w rfl
 go_enter b3m,b3k
 go_wp2
 refine wp_loop_rounds 2 ?_
 rw[rounds_succ]
 go_wp2_with (go_at_call 407;refine hu.mono ?_;rintro e w' ⟨rfl,hb⟩)
 rw[rounds_succ]
 go_wp2
 go_ret
 exact⟨rfl,by assumption⟩
set_option maxHeartbeats 4000000 in
theorem d9p(s:ByteArray)(a b:Addr)(ca cb:Array Value)(ta tb:TypeId)(w:World)(hne:a≠b)(hal:a.block<w.heap.size)(hbl:b.block<w.heap.size)(ha:w.heap[a.block]?=some (.cells ca ta (0,0)))(hb:w.heap[b.block]?=some (.cells cb tb (0,0))) :
  Calls P 113 #[.iface 386 (.agg #[.string s,.iface 413 (.pointer (some a))]),.iface 413 (.pointer (some b)),.bool true] w fun e w'=>e=.returned (.bool false)∧Below w.heap.size w w':=by
 obtain⟨ms,h77⟩:=a0q i77
 obtain⟨i,hi,hcmp⟩:=Option.map_eq_some_iff.1 a8j
 obtain⟨j,hj,hjs⟩:=Option.map_eq_some_iff.1 a8i
 have nE:=a0a nE1
 have uE:=a0a nE2
 have vE:=a0a nE3
 have nW:=a0a f9p
 have uW:=a1y f8t
 have mU:=b7p
 have heq:∀w':World,Below w.heap.size w w'→(binOp .eql 101 (.iface 413 (.pointer (some a))) (.iface 413 (.pointer (some b)))).run P w'=.ok (.bool false) w':=fun w' hB=>run_eql_iface_ptr_other (P:=P) w' h77 u130 hi hcmp hj (by rw[hjs];decide) hne ((hB.block _ hal).trans ha) ((hB.block _ hbl).trans hb)
 have hty:=run_eql_iface_types (P:=P) 386 413 (.agg #[.string s,.iface 413 (.pointer (some a))]) (.pointer (some b)) h77 (by decide) w
 have hu:=f9z s (.iface 413 (.pointer (some a))) w rfl
 go_enter b3m,b3k
 go_wp2
 refine wp_loop_rounds 2 ?_
 rw[rounds_succ]
 go_wp2_with (go_at_call 407;refine hu.mono ?_;rintro e w' ⟨rfl,hB⟩;have heq2:=heq w' hB)
 rw[rounds_succ]
 go_wp2
 go_ret
 exact⟨rfl,by assumption⟩
set_option maxHeartbeats 4000000 in
theorem e3j(s:ByteArray)(b:Addr)(w:World)(_:∃ca ta,w.heap[b.block]?=some (.cells ca ta (0,0))) :
  Calls P 48 #[.iface 386 (.agg #[.string s,.iface 413 (.pointer (some b))]),.iface 413 (.pointer (some b))] w fun e w'=>e=.returned (.bool true)∧Below w.heap.size w w':=by
 obtain⟨ms,h77⟩:=a0q i77
 have h8:=@run_callFunc_extern P 112 _ Extern.ReflectliteType.typeOf b3p (by kernel_rfl) (by kernel_rfl) (by kernel_rfl) (by kernel_rfl)
 have h32:=@run_callFunc_extern P 385 _ a7s b3r (by kernel_rfl) (by kernel_rfl) (by kernel_rfl) (by kernel_rfl)
 have tT:=a3g
 have cT:=a1b
 have mR:=a0g
 go_enter fn48,nt48
 go_wp2_with (go_at_call 113;refine(e4e s b w).mono ?_;rintro e w' ⟨rfl,hx⟩)
 go_ret
 first|exact⟨rfl,hx⟩|exact⟨rfl,rfl⟩
set_option maxHeartbeats 4000000 in
theorem e0c(s:ByteArray)(a b:Addr)(ca cb:Array Value)(ta tb:TypeId)(w:World)(hne:a≠b)(ha:w.heap[a.block]?=some (.cells ca ta (0,0)))(hb:w.heap[b.block]?=some (.cells cb tb (0,0))) :
  Calls P 48 #[.iface 386 (.agg #[.string s,.iface 413 (.pointer (some a))]),.iface 413 (.pointer (some b))] w fun e w'=>e=.returned (.bool false)∧Below w.heap.size w w':=by
 obtain⟨ms,h77⟩:=a0q i77
 have h8:=@run_callFunc_extern P 112 _ Extern.ReflectliteType.typeOf b3p (by kernel_rfl) (by kernel_rfl) (by kernel_rfl) (by kernel_rfl)
 have h32:=@run_callFunc_extern P 385 _ a7s b3r (by kernel_rfl) (by kernel_rfl) (by kernel_rfl) (by kernel_rfl)
 have tT:=a3g
 have cT:=a1b
 have mR:=a0g
 go_enter fn48,nt48
 go_wp2_with (go_at_call 113;refine(d9p s a b ca cb ta tb w hne (a1t ha) (a1t hb) ha hb).mono ?_;rintro e w' ⟨rfl,hx⟩)
 go_ret
 first|exact⟨rfl,hx⟩|exact⟨rfl,rfl⟩
theorem g7a:P.funcs[409]?=some Go.Proofs.Tryz.f409:=by kernel_rfl
theorem g6t:Go.Proofs.Tryz.f409.ntmps=5:=by kernel_rfl
theorem f9u:b1v P 398 274=true:=by kernel_rfl
theorem g0q:hasB P 398 277=true:=by kernel_rfl
theorem b8n (v : Value) (w : World) : (Go.method 543 398 v "Unwrap").run P w = .ok (409, v) w := by kernel_rfl
set_option maxHeartbeats 4000000 in
theorem f9d(s:ByteArray)(v:Value)(w:World)(hv:v.oneCell'=true):Calls P 409 #[.agg #[.string s,v]] w fun e w'=>e=.returned v∧Below w.heap.size w w':=by
 go_enter g7a,g6t
 go_wp2
 go_ret
 exact⟨rfl,(Below.refl _ w).alloc (Nat.le_refl _) _⟩
set_option maxHeartbeats 4000000 in
theorem e3g(s:ByteArray)(b:Addr)(w:World) :
  Calls P 113 #[.iface 398 (.agg #[.string s,.iface 413 (.pointer (some b))]),.iface 413 (.pointer (some b)),.bool true] w fun e w'=>e=.returned (.bool true)∧Below w.heap.size w w':=by
 obtain⟨ms,h77⟩:=a0q i77
 obtain⟨i,hi,hcmp⟩:=Option.map_eq_some_iff.1 a8j
 obtain⟨j,hj,hjs⟩:=Option.map_eq_some_iff.1 a8i
 have nE:=a0a nE1
 have uE:=a0a nE2
 have vE:=a0a nE3
 have nW:=a0a f9u
 have uW:=a1y g0q
 have mU:=b8n
 have heq:=fun w=>run_eql_iface_ptr_same (P:=P) w b h77 u130 hi hcmp hj
 have hty:=run_eql_iface_types (P:=P) 398 413 (.agg #[.string s,.iface 413 (.pointer (some b))]) (.pointer (some b)) h77 (by decide) w
 have hu:=f9d s (.iface 413 (.pointer (some b))) w rfl
 go_enter b3m,b3k
 go_wp2
 refine wp_loop_rounds 2 ?_
 rw[rounds_succ]
 go_wp2_with (go_at_call 409;refine hu.mono ?_;rintro e w' ⟨rfl,hb⟩)
 rw[rounds_succ]
 go_wp2
 go_ret
 exact⟨rfl,by assumption⟩
set_option maxHeartbeats 4000000 in
theorem e1o(s:ByteArray)(a b:Addr)(ca cb:Array Value)(ta tb:TypeId)(w:World)(hne:a≠b)(hal:a.block<w.heap.size)(hbl:b.block<w.heap.size)(ha:w.heap[a.block]?=some (.cells ca ta (0,0)))(hb:w.heap[b.block]?=some (.cells cb tb (0,0))) :
  Calls P 113 #[.iface 398 (.agg #[.string s,.iface 413 (.pointer (some a))]),.iface 413 (.pointer (some b)),.bool true] w fun e w'=>e=.returned (.bool false)∧Below w.heap.size w w':=by
 obtain⟨ms,h77⟩:=a0q i77
 obtain⟨i,hi,hcmp⟩:=Option.map_eq_some_iff.1 a8j
 obtain⟨j,hj,hjs⟩:=Option.map_eq_some_iff.1 a8i
 have nE:=a0a nE1
 have uE:=a0a nE2
 have vE:=a0a nE3
 have nW:=a0a f9u
 have uW:=a1y g0q
 have mU:=b8n
 have heq:∀w':World,Below w.heap.size w w'→(binOp .eql 101 (.iface 413 (.pointer (some a))) (.iface 413 (.pointer (some b)))).run P w'=.ok (.bool false) w':=fun w' hB=>run_eql_iface_ptr_other (P:=P) w' h77 u130 hi hcmp hj (by rw[hjs];decide) hne ((hB.block _ hal).trans ha) ((hB.block _ hbl).trans hb)
 have hty:=run_eql_iface_types (P:=P) 398 413 (.agg #[.string s,.iface 413 (.pointer (some a))]) (.pointer (some b)) h77 (by decide) w
 have hu:=f9d s (.iface 413 (.pointer (some a))) w rfl
 go_enter b3m,b3k
 go_wp2
 refine wp_loop_rounds 2 ?_
 rw[rounds_succ]
 go_wp2_with (go_at_call 409;refine hu.mono ?_;rintro e w' ⟨rfl,hB⟩;have heq2:=heq w' hB)
 rw[rounds_succ]
 go_wp2
 go_ret
 exact⟨rfl,by assumption⟩
set_option maxHeartbeats 4000000 in
theorem e4j(s:ByteArray)(b:Addr)(w:World)(_:∃ca ta,w.heap[b.block]?=some (.cells ca ta (0,0))) :
  Calls P 48 #[.iface 398 (.agg #[.string s,.iface 413 (.pointer (some b))]),.iface 413 (.pointer (some b))] w fun e w'=>e=.returned (.bool true)∧Below w.heap.size w w':=by
 obtain⟨ms,h77⟩:=a0q i77
 have h8:=@run_callFunc_extern P 112 _ Extern.ReflectliteType.typeOf b3p (by kernel_rfl) (by kernel_rfl) (by kernel_rfl) (by kernel_rfl)
 have h32:=@run_callFunc_extern P 385 _ a7s b3r (by kernel_rfl) (by kernel_rfl) (by kernel_rfl) (by kernel_rfl)
 have tT:=a3g
 have cT:=a1b
 have mR:=a0g
 go_enter fn48,nt48
 go_wp2_with (go_at_call 113;refine(e3g s b w).mono ?_;rintro e w' ⟨rfl,hx⟩)
 go_ret
 first|exact⟨rfl,hx⟩|exact⟨rfl,rfl⟩
set_option maxHeartbeats 4000000 in
theorem d8r(s:ByteArray)(a b:Addr)(ca cb:Array Value)(ta tb:TypeId)(w:World)(hne:a≠b)(ha:w.heap[a.block]?=some (.cells ca ta (0,0)))(hb:w.heap[b.block]?=some (.cells cb tb (0,0))) :
  Calls P 48 #[.iface 398 (.agg #[.string s,.iface 413 (.pointer (some a))]),.iface 413 (.pointer (some b))] w fun e w'=>e=.returned (.bool false)∧Below w.heap.size w w':=by
 obtain⟨ms,h77⟩:=a0q i77
 have h8:=@run_callFunc_extern P 112 _ Extern.ReflectliteType.typeOf b3p (by kernel_rfl) (by kernel_rfl) (by kernel_rfl) (by kernel_rfl)
 have h32:=@run_callFunc_extern P 385 _ a7s b3r (by kernel_rfl) (by kernel_rfl) (by kernel_rfl) (by kernel_rfl)
 have tT:=a3g
 have cT:=a1b
 have mR:=a0g
 go_enter fn48,nt48
 go_wp2_with (go_at_call 113;refine(e1o s a b ca cb ta tb w hne (a1t ha) (a1t hb) ha hb).mono ?_;rintro e w' ⟨rfl,hx⟩)
 go_ret
 first|exact⟨rfl,hx⟩|exact⟨rfl,rfl⟩
theorem g7p:P.funcs[411]?=some Go.Proofs.Tryz.f411:=by kernel_rfl
theorem g7o:Go.Proofs.Tryz.f411.ntmps=5:=by kernel_rfl
theorem f9c:b1v P 408 274=true:=by kernel_rfl
theorem g0p:hasB P 408 277=true:=by kernel_rfl
theorem b8d (v : Value) (w : World) : (Go.method 543 408 v "Unwrap").run P w = .ok (411, v) w := by kernel_rfl
set_option maxHeartbeats 4000000 in
theorem g0b(s:ByteArray)(v:Value)(w:World)(hv:v.oneCell'=true):Calls P 411 #[.agg #[.string s,v]] w fun e w'=>e=.returned v∧Below w.heap.size w w':=by
 go_enter g7p,g7o
 go_wp2
 go_ret
 exact⟨rfl,(Below.refl _ w).alloc (Nat.le_refl _) _⟩
set_option maxHeartbeats 4000000 in
theorem e3c(s:ByteArray)(b:Addr)(w:World) :
  Calls P 113 #[.iface 408 (.agg #[.string s,.iface 413 (.pointer (some b))]),.iface 413 (.pointer (some b)),.bool true] w fun e w'=>e=.returned (.bool true)∧Below w.heap.size w w':=by
 obtain⟨ms,h77⟩:=a0q i77
 obtain⟨i,hi,hcmp⟩:=Option.map_eq_some_iff.1 a8j
 obtain⟨j,hj,hjs⟩:=Option.map_eq_some_iff.1 a8i
 have nE:=a0a nE1
 have uE:=a0a nE2
 have vE:=a0a nE3
 have nW:=a0a f9c
 have uW:=a1y g0p
 have mU:=b8d
 have heq:=fun w=>run_eql_iface_ptr_same (P:=P) w b h77 u130 hi hcmp hj
 have hty:=run_eql_iface_types (P:=P) 408 413 (.agg #[.string s,.iface 413 (.pointer (some b))]) (.pointer (some b)) h77 (by decide) w
 have hu:=g0b s (.iface 413 (.pointer (some b))) w rfl
 go_enter b3m,b3k
 go_wp2
 refine wp_loop_rounds 2 ?_
 rw[rounds_succ]
 go_wp2_with (go_at_call 411;refine hu.mono ?_;rintro e w' ⟨rfl,hb⟩)
 rw[rounds_succ]
 go_wp2
 go_ret
 exact⟨rfl,by assumption⟩
set_option maxHeartbeats 4000000 in
theorem d8z(s:ByteArray)(a b:Addr)(ca cb:Array Value)(ta tb:TypeId)(w:World)(hne:a≠b)(hal:a.block<w.heap.size)(hbl:b.block<w.heap.size)(ha:w.heap[a.block]?=some (.cells ca ta (0,0)))(hb:w.heap[b.block]?=some (.cells cb tb (0,0))) :
  Calls P 113 #[.iface 408 (.agg #[.string s,.iface 413 (.pointer (some a))]),.iface 413 (.pointer (some b)),.bool true] w fun e w'=>e=.returned (.bool false)∧Below w.heap.size w w':=by
 obtain⟨ms,h77⟩:=a0q i77
 obtain⟨i,hi,hcmp⟩:=Option.map_eq_some_iff.1 a8j
 obtain⟨j,hj,hjs⟩:=Option.map_eq_some_iff.1 a8i
 have nE:=a0a nE1
 have uE:=a0a nE2
 have vE:=a0a nE3
 have nW:=a0a f9c
 have uW:=a1y g0p
 have mU:=b8d
 have heq:∀w':World,Below w.heap.size w w'→(binOp .eql 101 (.iface 413 (.pointer (some a))) (.iface 413 (.pointer (some b)))).run P w'=.ok (.bool false) w':=fun w' hB=>run_eql_iface_ptr_other (P:=P) w' h77 u130 hi hcmp hj (by rw[hjs];decide) hne ((hB.block _ hal).trans ha) ((hB.block _ hbl).trans hb)
 have hty:=run_eql_iface_types (P:=P) 408 413 (.agg #[.string s,.iface 413 (.pointer (some a))]) (.pointer (some b)) h77 (by decide) w
 have hu:=g0b s (.iface 413 (.pointer (some a))) w rfl
 go_enter b3m,b3k
 go_wp2
 refine wp_loop_rounds 2 ?_
 rw[rounds_succ]
 go_wp2_with (go_at_call 411;refine hu.mono ?_;rintro e w' ⟨rfl,hB⟩;have heq2:=heq w' hB)
 rw[rounds_succ]
 go_wp2
 go_ret
 exact⟨rfl,by assumption⟩
set_option maxHeartbeats 4000000 in
theorem e2s(s:ByteArray)(b:Addr)(w:World)(_:∃ca ta,w.heap[b.block]?=some (.cells ca ta (0,0))) :
  Calls P 48 #[.iface 408 (.agg #[.string s,.iface 413 (.pointer (some b))]),.iface 413 (.pointer (some b))] w fun e w'=>e=.returned (.bool true)∧Below w.heap.size w w':=by
 obtain⟨ms,h77⟩:=a0q i77
 have h8:=@run_callFunc_extern P 112 _ Extern.ReflectliteType.typeOf b3p (by kernel_rfl) (by kernel_rfl) (by kernel_rfl) (by kernel_rfl)
 have h32:=@run_callFunc_extern P 385 _ a7s b3r (by kernel_rfl) (by kernel_rfl) (by kernel_rfl) (by kernel_rfl)
 have tT:=a3g
 have cT:=a1b
 have mR:=a0g
 go_enter fn48,nt48
 go_wp2_with (go_at_call 113;refine(e3c s b w).mono ?_;rintro e w' ⟨rfl,hx⟩)
 go_ret
 first|exact⟨rfl,hx⟩|exact⟨rfl,rfl⟩
set_option maxHeartbeats 4000000 in
theorem d9t(s:ByteArray)(a b:Addr)(ca cb:Array Value)(ta tb:TypeId)(w:World)(hne:a≠b)(ha:w.heap[a.block]?=some (.cells ca ta (0,0)))(hb:w.heap[b.block]?=some (.cells cb tb (0,0))) :
  Calls P 48 #[.iface 408 (.agg #[.string s,.iface 413 (.pointer (some a))]),.iface 413 (.pointer (some b))] w fun e w'=>e=.returned (.bool false)∧Below w.heap.size w w':=by
 obtain⟨ms,h77⟩:=a0q i77
 have h8:=@run_callFunc_extern P 112 _ Extern.ReflectliteType.typeOf b3p (by kernel_rfl) (by kernel_rfl) (by kernel_rfl) (by kernel_rfl)
 have h32:=@run_callFunc_extern P 385 _ a7s b3r (by kernel_rfl) (by kernel_rfl) (by kernel_rfl) (by kernel_rfl)
 have tT:=a3g
 have cT:=a1b
 have mR:=a0g
 go_enter fn48,nt48
 go_wp2_with (go_at_call 113;refine(d8z s a b ca cb ta tb w hne (a1t ha) (a1t hb) ha hb).mono ?_;rintro e w' ⟨rfl,hx⟩)
 go_ret
 first|exact⟨rfl,hx⟩|exact⟨rfl,rfl⟩
theorem S48(A:Amb)(hA:HA A)(n:Nat):a8z A P cH 48 s48 (a0y n) :=
 f3i (ws:=[173,319,362,366,370,372,374,386,398,408]) hA.1 g5e g1u f5k
 (fun wt hw=>by
  simp only[List.mem_cons,List.not_mem_nil,or_false] at hw
  rcases hw with rfl|rfl|rfl|rfl|rfl|rfl|rfl|rfl|rfl|rfl
  ·exact e3i
  ·exact e2r
  ·exact e1u
  ·exact e3u
  ·exact e3m
  ·exact e2b
  ·exact e2o
  ·exact e3j
  ·exact e4j
  ·exact e2s
  )
 (fun wt hw=>by
  simp only[List.mem_cons,List.not_mem_nil,or_false] at hw
  rcases hw with rfl|rfl|rfl|rfl|rfl|rfl|rfl|rfl|rfl|rfl
  ·exact d8o
  ·exact d7g
  ·exact d7z
  ·exact d6w
  ·exact d7c
  ·exact d7h
  ·exact d7r
  ·exact e0c
  ·exact d8r
  ·exact d9t
  )
theorem T48(A:Amb)(hA:HA A)(n:Nat):a0s A P cH (48,⟨s48,a0y n⟩):=⟨g4a,S48 A hA n⟩
end Go.Rb.R5
