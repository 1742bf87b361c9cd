/- Kinds, names, tables of a seat. Printed by a program of our own. -/
import Derived.Test.YthkgkalebkbndaaGreatDoorRbE
import Derived.Test.YthkgkalebkbndaaGreatDoorChecked
import Derived.KernelRfl
import Derived.Eval
import Derived.Laws.Externs
import Derived.Lib.Bytealg
import Derived.Lib.Walk
import Derived.LoopN
import Derived.RowKitTokens
import Derived.Shelf.Abstract
import Derived.Shelf.RegionOpenPlain
import Derived.Shelf.SlLaysF0
import Derived.Shelf.SlSortCmp.NoneTotal
import Derived.Test.YthkgkalebkbndaaGreatDoorRbG
import Derived.Test.YthkgkalebkbndaaGreatDoorRbI
import Derived.WalkKit
set_option autoImplicit false
set_option maxHeartbeats 4000000
set_option linter.unusedVariables false
set_option linter.unusedSimpArgs false
open Go renaming rounds_succ->Dc,run_callFunc_extern->Be,run_eql_iface_ptr_other->Fb,run_eql_iface_ptr_same->Fk,run_eql_iface_types->FM,wpList_nil->Bk,wp_loop_rounds->Di,wp_region_lit->AT
open Go.Act renaming eval->Bl,put->AQ
open Go.Builtin renaming append_->A2,clear_->B3,copy_->AP
open Go.Extern.BytealgIndexByte renaming indexByte->EB
open Go.Extern.ReflectliteType renaming typeOf->Bz
open Go.Extern.SlicesOverlaps renaming overlaps->Ba
open Go.Instr renaming next->Ie
open Go.IntKind renaming bits->Bi,i64->Aa,signed->AX,wrap->Bh
open Go.Lib renaming indexByte->D6,run_eql_slice_nil->AY
open Go.Proofs renaming ltOf->CX
open Go.Proofs.AnyF renaming slices_SortFunc_none->HH
open Go.Proofs.AnyQ renaming slices_SortFunc_eq->HI
open Go.Proofs.SlLaysF0 renaming n6->Fy
open Go.Proofs.Tryz renaming checked->Ga,f110->DH,f111->Ec,f112->HL,f113->DI,f117->DD,f131->DF,f132->Gb,f133->DG,f186->DX,f196->Gd,f253->Gg,f254->Gi,f255->Gk,f256->Gm,f257->Gp,f258->Gr,f259->Gt,f260->Gv,f299->DV,f3->EH,f300->DW,f301->DY,f304->Eb,f305->DE,f306->Gz,f309->G3,f310->G5,f323->DT,f324->DU,f325->DZ,f326->HQ,f328->G7,f340->HN,f342->HO,f344->Ea,f353->HP,f377->DJ,f385->HM,f395->DK,f397->DL,f399->DM,f401->DN,f403->DO,f405->DP,f407->DQ,f409->DR,f411->DS,f48->Eo,f70->Ep,f93->Em,func132->Gc,func196->Ge,func197->Gf,func253->Gh,func254->Gj,func255->Gl,func256->Gn,func257->Gq,func258->Gs,func259->Gu,func260->Gw,func261->Gx,func262->Gy,func306->G0,func307->G1,func308->G2,func309->G4,func310->G6,func328->G8,isAgg0->GA,isAgg140->Hp,isAgg150->Hx,isAgg197->GY,isAgg227->Hc,isAgg297->H5,isAgg3->GE,isAgg322->Hh,isAgg323->Hl,isAgg329->Ht,isAgg354->H1,isAgg382->H9,isAgg383->HE,isAgg4->GI,isAgg49->GU,isAgg5->GM,isAgg53->HJ,isAgg9->GQ,prog->Dn,sizeOf0->GB,sizeOf140->Hq,sizeOf150->Hy,sizeOf197->GZ,sizeOf227->He,sizeOf297->H6,sizeOf3->GF,sizeOf322->Hi,sizeOf323->Hm,sizeOf329->Hu,sizeOf354->H2,sizeOf382->HB,sizeOf383->HF,sizeOf4->GJ,sizeOf49->GV,sizeOf5->GN,sizeOf53->HK,sizeOf9->GR,underlying0->G9,underlying140->Ho,underlying150->Hw,underlying197->GX,underlying227->Hb,underlying297->H4,underlying3->GD,underlying322->Hg,underlying323->Hk,underlying329->Hs,underlying354->H0,underlying382->H8,underlying383->HD,underlying4->GH,underlying49->GT,underlying5->GL,underlying9->GP,zeroValue0->GC,zeroValue140->Hr,zeroValue150->Hz,zeroValue197->Ha,zeroValue227->Hf,zeroValue297->H7,zeroValue3->GG,zeroValue322->Hj,zeroValue323->Hn,zeroValue329->Hv,zeroValue354->H3,zeroValue382->HC,zeroValue383->HG,zeroValue4->GK,zeroValue49->GW,zeroValue5->GO,zeroValue9->GS
open Go.RowKit.Below renaming refl->BN
open Go.Sort renaming alloc_eq_grow->Fa
open Go.Utf8 renaming decode->Ex
open Int renaming sub_zero->Ic
open List renaming setIfInBounds_toArray->Ao,set_cons_succ->A4,set_cons_zero->A5
open Nat renaming le_refl->Ar,zero_le->A8
open Option renaming map_eq_some_iff->AS
open Option.some renaming inj->Ag,injEq->Ad
namespace Go.Rb.R7
open Go.Rb
abbrev V4:Type:=Int×Int×List Int×Unit
abbrev tI:Ty:=.int .i64
abbrev tB:Ty:=.int .u8
abbrev tU:Ty:=.int .u64
abbrev kq3:Ty:=.st (.pair tI (.pair .str (.pair tI .unit)))
abbrev kq25:Ty:=.sl .imm 32 kq3
abbrev kq7:Ty:=.st (.pair kq25 (.pair tI .unit))
abbrev kq22:Ty:=.sl .imm 8 tI
abbrev kq9:Ty:=.st (.pair tI (.pair tI (.pair tI (.pair kq22 .unit))))
abbrev kq2:Ty:=.st (.pair tI (.pair tI (.pair .str .unit)))
abbrev kq14:Ty:=.sl .imm 32 kq2
abbrev kq18:Ty:=.sl .imm 24 kq14
abbrev kq16:Ty:=.st (.pair tI (.pair tI .unit))
abbrev kq4:Ty:=.st (.pair kq16 (.pair tI (.pair tI (.pair tI .unit))))
abbrev kq20:Ty:=.sl .imm 40 kq4
abbrev kq5:Ty:=.st (.pair tI (.pair tI (.pair .str (.pair tI (.pair kq2 (.pair tB (.pair tI .unit)))))))
abbrev kq0:Ty:=.st (.pair tI (.pair kq7 (.pair kq9 (.pair kq18 (.pair kq20 (.pair .bool (.pair kq5 (.pair kq7 (.pair kq9 (.pair kq20 (.pair tI (.pair tI .unit))))))))))))
abbrev kq1:Ty:=.st (.pair tI (.pair kq0 (.pair kq18 (.pair tI (.pair kq20 (.pair kq20 (.pair kq5 .unit)))))))
abbrev kq6:Ty:=.st (.pair tI (.pair tI (.pair tI (.pair (.sl .own 8 tI) .unit))))
abbrev kq8:Ty:=.st (.pair (.sl .own 32 kq3) (.pair tI .unit))
abbrev kq23:Ty:=.sl .own 24 kq14
abbrev kq21:Ty:=.sl .own 40 kq4
abbrev kq10:Ty:=.st (.pair tI (.pair kq8 (.pair kq6 (.pair kq23 (.pair kq21 (.pair .bool (.pair kq5 (.pair kq8 (.pair kq6 (.pair kq21 (.pair tI (.pair tI .unit))))))))))))
abbrev kq19:Ty:=.sl .imm 1 tB
abbrev kq11:Ty:=.st (.pair kq19 (.pair tI .unit))
abbrev kq12:Ty:=.st (.pair kq19 (.pair .bool .unit))
abbrev kq13:Ty:=.st (.pair kq8 (.pair kq6 (.pair kq5 (.pair tI .unit))))
abbrev kq15:Ty:=.st (.pair (.sl .own 1 tB) .unit)
abbrev kq17:Ty:=.st (.pair .str (.pair .err .unit))
abbrev kq24:Ty:=.sl .own 32 kq2
abbrev kq26:Ty:=.st (.pair tI (.pair kq2 (.pair kq2 .unit)))
abbrev Dq12:Type:=Int×List Int×Int×Unit
abbrev Dq5:Type:=List Dq12×Int×Unit
abbrev Dq9:Type:=Int×Int×Int×List Int×Unit
abbrev Dq3:Type:=Int×Int×List Int×Unit
abbrev Dq25:Type:=Int×Int×Unit
abbrev Dq4:Type:=Dq25×Int×Int×Int×Unit
abbrev Dq11:Type:=Int×Int×List Int×Int×Dq3×Int×Int×Unit
abbrev Dq0:Type:=Int×Dq5×Dq9×List (List Dq3)×List Dq4×Bool×Dq11×Dq5×Dq9×List Dq4×Int×Int×Unit
abbrev Dq1:Type:=Int×Dq0×List (List Dq3)×Int×List Dq4×List Dq4×Dq11×Unit
abbrev Dq2:Type:=Dq5×Dq9×Dq11×Int×Unit
abbrev Dq16:Type:=List Int×Bool×Unit
abbrev Dq6:Type:=Dq16×Unit
abbrev Dq7:Type:=Bool×Unit
abbrev Dq14:Type:=List Int×Int×Unit
abbrev Dq8:Type:=Dq14×Unit
abbrev Dq10:Type:=List Int×Unit
abbrev Dq13:Type:=Int×Unit
abbrev Dq15:Type:=List Dq25
abbrev Dq24:Type:=UV×Unit
abbrev Dq17:Type:=Dq24×(Dq2×Unit)
abbrev Dq18:Type:=Int×Bool×Unit
abbrev Dq19:Type:=(List Dq4)×Unit
abbrev Dq20:Type:=(Unit)×(Dq10×Unit)
abbrev Dq21:Type:=(List (List Dq3))×Unit
abbrev Dq22:Type:=(List Dq3)×Unit
abbrev Dq23:Type:=(List Dq12)×Unit
abbrev Dq26:Type:=(List (List Dq3))×Bool×Unit
abbrev a2n:Nat:=0
abbrev a5n:Nat:=2
abbrev a4a:Nat:=3
abbrev a8w:Nat:=4
abbrev a6w:Nat:=5
abbrev a2g:Nat:=6
abbrev b1f:Nat:=12
abbrev a4k:Nat:=13
abbrev a9z:Nat:=173
abbrev a0r:Nat:=319
abbrev d8x:Nat:=362
abbrev e5m:Nat:=366
abbrev d9t:Nat:=370
abbrev d9x:Nat:=372
abbrev d8g:Nat:=374
abbrev a8s:Nat:=386
abbrev d8t:Nat:=398
abbrev d9h:Nat:=408
def tys:List (Nat×Ty):=[(2,tI),(3,tI),(4,.bool),(5,tB),(9,.str),(20,.err),(22,kq19),(24,kq25),(26,kq7),(27,kq22),(29,kq9),(30,kq18),(31,kq20),(33,kq2),(35,kq5),(37,kq0),(38,(.sl .imm 528 kq1)),(45,kq1),(46,kq1),(49,(.sl .imm 16 kq16)),(53,kq16),(55,(.int .u16)),(57,(.sl .imm 24 kq19)),(61,kq14),(62,kq14),(64,kq4),(66,(.sl .imm 72 kq26)),(67,kq18),(69,(.st (.pair tI (.pair tI (.pair tI (.pair kq22 (.pair kq22 (.pair (.sl .imm 72 kq26) (.pair kq18 .unit))))))))),(83,(.arr 4 (.int .u16))),(84,(.arr 4 tB)),(86,(.arr 3 (.int .u16))),(87,(.arr 3 tB)),(90,kq26),(101,.err),(123,(.st (.pair kq19 .unit))),(134,(.st (.pair tI (.pair .bool .unit)))),(135,(.sl .imm 16 (.st (.pair tI (.pair .bool .unit))))),(137,kq3),(150,tU),(158,(.st (.pair tI .unit))),(167,kq11),(173,kq17),(183,(.sl .imm 24 kq20)),(206,kq12),(227,tU),(228,(.sl .imm 1 .bool)),(244,(.st (.pair tI (.pair .err .unit)))),(263,kq22),(264,(.sl .imm 16 .str)),(268,(.st (.pair kq7 (.pair kq9 (.pair kq5 (.pair tI .unit)))))),(297,(.ptr tI)),(298,(.sl .imm 8 (.ptr tI))),(306,(.sl .imm 8 tU)),(319,kq17),(329,(.int .u32)),(339,(.ptr kq2)),(340,(.sl .imm 8 (.ptr kq2))),(354,tU),(362,kq17),(366,kq17),(370,kq17),(372,kq17),(374,kq17),(386,kq17),(398,kq17),(408,kq17),(413,(.ptr (.st (.pair .str .unit)))),(432,(.st (.pair .str .unit)))]
def gls:Nat→Option ((t:Ty)×t.den):=find? [(0,⟨.err,(UV.sent a2n)⟩),(2,⟨.err,(UV.sent a5n)⟩),(3,⟨.err,(UV.sent a4a)⟩),(4,⟨.err,(UV.sent a8w)⟩),(5,⟨.err,(UV.sent a6w)⟩),(6,⟨.err,(UV.sent a2g)⟩),(12,⟨.err,(UV.sent b1f)⟩),(13,⟨.err,(UV.sent a4k)⟩)]
noncomputable abbrev P:Program:=Dn
set_option maxRecDepth 100000
theorem mixed:P.follows .mixedOrders=true:=Ga.mixed
theorem tab{C:Ctx}(h:C.ty=find? tys):a3c P C:=g1e (by kernel_rfl) h
def cH:Ctx:=⟨0,find? tys,fun _=>none,gls,[],[],[]⟩
abbrev HA(A:Amb):Prop:=∀g T a,A.sent g=some (T,a)→T=413
abbrev TL:=Nat→List (Nat×FEnt)
def en(f:Nat)(s:Sig)(G:Nat→s.arg→Option s.res)(l:TL):TL:=fun n=>(f,⟨s,G n⟩)::l n
noncomputable def fnOf(f:Nat):Func:=(P.funcs[f]?).getD EH
theorem g0j{A:Amb}:∀{l' l:List (Nat×FEnt)},b6x A P cH l'→b6x A P cH l→b6x A P cH (l'++l)
 |[],_,_,h=>h
 |_::_,_,h',h=>⟨h'.1,g0j h'.2 h⟩
theorem mkV{A:Amb}{f:Nat}{s:Sig}{G:Nat→s.arg→Option s.res}{l:TL}(n:Nat)(l':List (Nat×FEnt))(h':b6x A P cH l')(hc:e4t P f=true)
  (fz el:List Nat) (hs:Hints) (he:d1b ⟨(fnOf f).ntmps,find? tys,find? (l'++l n),gls,[],fz,el⟩ hs n (fnOf f) s=G n) (h:b6x A P cH (l n)):b5f A P cH (f,⟨s,G n⟩):=by
 have hl:b6x A P cH (l'++l n):=g0j h' h;have hf:P.funcs[f]?=some (fnOf f):=by
  obtain⟨fn,h1,_⟩:=a2a hc;rw[fnOf,h1];rfl
 exact⟨a2a hc,(d9f (C:=⟨(fnOf f).ntmps,find? tys,find? (l'++l n),gls,[],fz,el⟩) mixed (tab rfl) (g1m rfl (b6x.of (C:=cH) (C':=⟨(fnOf f).ntmps,find? tys,find? (l'++l n),gls,[],fz,el⟩) rfl hl)) hf fun x y hx=>(congrFun he x).trans hx).of rfl⟩
structure AH where
 a:Amb
 h:HA a
abbrev Ft(A:AH)(n:Nat)(l:TL):Prop:=b6x A.a P cH (l n)
theorem mkH{A:AH}{f:Nat}{s:Sig}{G:Nat→s.arg→Option s.res}{l:TL}(n:Nat)(hc:e4t P f=true)(fz el:List Nat)(hs:Hints)
  (he:d1b ⟨(fnOf f).ntmps,find? tys,find? (l n),gls,[],fz,el⟩ hs n (fnOf f) s=G n) (h:Ft A n l):Ft A n (en f s G l):=⟨mkV n [] trivial hc fz el hs he h,h⟩
theorem mkF{A:AH}{f:Nat}{s:Sig}{G:Nat→s.arg→Option s.res}{l:TL}(n:Nat)(hc:e4t P f=true)(fz:List Nat)
  (he:d1b ⟨(fnOf f).ntmps,find? tys,find? (l n),gls,[],fz,[]⟩ ⟨[],[],[],[]⟩ n (fnOf f) s=G n) (h:Ft A n l):Ft A n (en f s G l):=mkH n hc fz [] _ he h
theorem mkG{A:AH}{f:Nat}{s:Sig}{G:Nat→s.arg→Option s.res}{l:TL}(n:Nat)(hc:e4t P f=true)
  (he:d1b ⟨(fnOf f).ntmps,find? tys,find? (l n),gls,[],[],[]⟩ ⟨[],[],[],[]⟩ n (fnOf f) s=G n) (h:Ft A n l):Ft A n (en f s G l):=mkH n hc [] [] _ he h
end Go.Rb.R7

namespace Go.Rb.R7
open Go.Rb
open Go.RowKit
set_option maxRecDepth 100000
def s117:Sig:=⟨[.val (.lf .nil0),.val tI],[.val kq21]⟩
def a1m(_n:Nat)(x:Unit×Int×Unit):Option (Dq19×(Unit)):=f4c 40 kq4 x
theorem g0w:DD.ntmps=27:=by kernel_rfl
theorem g0n:P.funcs[117]?=some DD:=by kernel_rfl
theorem f9f:a2o P 117:=a2a (by kernel_rfl)
theorem g4q:P.underlying 31=some (.slice 64):=by kernel_rfl
set_option maxRecDepth 1000000 in
theorem f4x(w:World):Calls P 117 #[.slice none 0 0,.int .i64 0] w fun en w'=>en=.returned (.slice none 0 0)∧w'=w:=by
 go_enter g0n,g0w
 go_wp2
 go_ret
 exact⟨rfl,rfl⟩
set_option maxRecDepth 1000000 in
theorem f5k(w w1:World)(n cap b:Nat)(hn:0<n)(hr:n≤140737488355328)(hc:n≤cap)(happ:(A2 #[31,3] 31 #[.slice none 0 0,.int .i64 (n:Int)]).run P w=.ok (.slice (some ⟨b,0,none⟩) n cap) w1) :
  Calls P 117 #[.slice none 0 0,.int .i64 (n:Int)] w fun en w'=>en=.returned (.slice (some ⟨b,0,none⟩) 0 cap)∧w'=w1:=by
 have hw0:Aa.wrap ((0:Int) - 0)=0:=by decide
 have hw1:Aa.wrap ((n:Int) - 0)=n:=by
  simp only[Bh,Bi,AX,if_true];simp;split <;> omega
 have hw2:Aa.wrap (n:Int)=n:=by have:=hw1;rw[Ic] at this;exact this
 have hlt:¬((n:Int)<0):=by omega
 have hgt:(0:Int)<n:=by omega
 obtain⟨I,hI⟩:∃I,P.info? 64=some I:=Option.isSome_iff_exists.1 (by kernel_rfl)
 go_enter g0n,g0w
 go_upto_region 5 with(simp only[hw0,hw1,hw2,hlt,hgt,Ic])
 refine AT ?_;refine wl rfl (.slice none 0 0) (w1:=w) rfl ?_;refine wl rfl (.slice none 0 0) (w1:=w) rfl ?_;simp only[AQ,Ao,A4,A5];refine wl rfl (.int .i64 0) (w1:=w) (by go_simp) ?_;simp only[AQ,Ao,A4,A5];refine wl rfl (.slice none 0 0) (w1:=w) (by go_simp) ?_;simp only[AQ,Ao,A4,A5];refine wl rfl (.int .i64 (n:Int)) (w1:=w) (by simp[execOp,Bl,hw1,hw2]) ?_;simp only[AQ,Ao,A4,A5];refine a6k rfl (.tmp 20) (.tmp 21) 31 3 rfl rfl rfl _ happ ?_;simp only[AQ,Ao,A4,A5];refine wl rfl (.slice none 0 0) (w1:=w1) rfl ?_;simp only[AQ,Ao,A4,A5];refine wl rfl (.int .i64 0) (w1:=w1) (by go_simp) ?_;simp only[AQ,Ao,A4,A5];refine b1k g4q hI rfl (.tmp 22) none (some (.tmp 24)) rfl (b:=b) (off:=0) (n:=n) (cap:=cap) (l:=0) (h:=0) rfl (.inl ⟨rfl,rfl⟩) (.inr rfl) (Ar _) (A8 _) (.inr rfl) (off':=0) (n':=0) ⟨by simp,rfl⟩ ?_;simp only[AQ,Ao,A4,A5];refine wl rfl (.slice (some ⟨b,0,none⟩) 0 cap) (w1:=w1) rfl (Bk ?_);simp only[AQ,Ao,A4,A5]
 go_wp2
 go_ret
 exact⟨rfl,rfl⟩
theorem S117(A:Amb)(n:Nat):a6z A P cH 117 s117 (a1m n) :=
 e4r (T:=31) (tab rfl) rfl (by kernel_rfl) (z:=(zeroCells kq4).getD []) rfl f4x f5k
theorem T117(A:Amb)(n:Nat):b5f A P cH (117,⟨s117,a1m n⟩):=⟨f9f,S117 A n⟩
def s305:Sig:=⟨[.val .str,.val (.fn (.int .i32) .bool),.val .bool],[.val tI]⟩
def a4z(_n:Nat)(x:List Int×(((Int)→Option (Bool)))×Bool×Unit):Option (Dq13×(Unit)):=ifF x
theorem g4h:DE.ntmps=21:=by kernel_rfl
theorem g4k:P.funcs[305]?=some DE:=by kernel_rfl
theorem f7m:a2o P 305:=a2a (by kernel_rfl)
set_option maxRecDepth 1000000 in
theorem g1q(s:ByteArray)(g:FuncId)(first capt:Array Value)(G:Int→Option Bool)(truth:Bool)(w:World)(r:Int)(eg:∀args w,(callFunc g args).run P w=.ok (.enter g args) w)
  (hp:∀W R b,Below w.heap.size w W→0≤R→R≤1114111→G R=some b→Calls P g (first++#[.int .i32 R]++capt) W fun e w'=>e=.returned (.bool b)∧Below W.heap.size W w')
  (hr:c3m G truth s s.size 0=some r):Calls P 305 #[.string s,.func (.func g) first capt,.bool truth] w fun e w'=>e=.returned (.int .i64 r)∧Below w.heap.size w w':=by
 go_enter g4k,g4h
 go_wp2
 go_loopg [] s.size (fun gf wx=>∃pos:Nat,wx.heap[w.heap.size]?=some (.stringIter s pos)∧Below w.heap.size w wx∧c3m G truth s gf pos=some r∧s.size≤pos+gf)
 case atStart=>exact⟨0,World.iter_heap w s 0,(BN _ w).alloc (Ar _) _,hr,by omega⟩
 case round =>
  obtain⟨pos,hit,hbw,hleft,hfu⟩:=hrel;by_cases hps:pos<s.size
  ·obtain⟨g',rfl⟩:∃g',gk=g'+1:=⟨gk - 1,by omega⟩
   have hnx:∀ty,(Ie (.pointer (some ⟨w.heap.size,0,none⟩)) true ty).run P wr=_:=fun ty=>Lib.run_next_any_at wr w.heap.size s pos ty hit hps
   have hwd:=Lib.width_pos s pos;have hRle:=Lib.rune_le s pos;obtain⟨R,hR⟩:∃R,(Ex s pos).1=R:=⟨_,rfl⟩
   obtain⟨K,hK⟩:∃K,(Ex s pos).2=K:=⟨_,rfl⟩
   simp only[c3m,hps,if_true,hR,hK] at hleft;rw[hR] at hRle;rw[hR,hK] at hnx;rw[hK] at hwd;have hit2:=Lib.iterAt_heap wr w.heap.size s pos (pos+K) hit;have hbw2:=Lib.below_iterAt hbw (k:=w.heap.size) (Ar _) s (pos+K);obtain⟨W,hWd⟩:∃W,wr.iterAt w.heap.size s (pos+K)=W:=⟨_,rfl⟩
   rw[hWd] at hnx hit2 hbw2;have hWs:w.heap.size<W.heap.size:=(Array.getElem?_eq_some_iff.1 hit2).1;cases hsp:G R with
   |none=>rw[hsp] at hleft;cases hleft
   |some b =>
    have cS:=hp W R b hbw2 (by omega) (by omega) hsp;clear hp;rw[hsp] at hleft;dsimp only at hleft;by_cases hb:b=truth
    ·subst hb;rw[if_pos rfl] at hleft;obtain rfl:=Ag hleft;cases b
     all_goals
      go_wp2_with (go_at_fn g;refine cS.mono ?_;rintro e W' ⟨rfl,hq⟩)
      go_ret
      exact⟨rfl,hbw2.trans (hq.mono (by omega))⟩
    ·rw[if_neg hb] at hleft;cases b <;> cases truth <;> first|exact absurd rfl hb|skip
     all_goals
      go_wp2_with (go_at_fn g;refine cS.mono ?_;rintro e W' ⟨rfl,hq⟩)
      go_roundg g'
      case measure=>omega
      case rel=>exact⟨pos+K,(hq.block _ hWs).trans hit2,hbw2.trans (hq.mono (by omega)),hleft,by omega⟩
  ·have hnx:∀ty,(Ie (.pointer (some ⟨w.heap.size,0,none⟩)) true ty).run P wr=_:=fun ty=>Lib.run_next_end_at wr w.heap.size s pos ty hit hps
   have:r=-1:=by
    cases gk with
    |zero=>simp only[c3m,Ad] at hleft;exact hleft.symm
    |succ gk=>simp only[c3m,hps,if_false,Ad] at hleft;exact hleft.symm
   subst this
   go_wp2
   go_ret
   exact⟨rfl,hbw⟩
theorem S305(A:Amb)(n:Nat):a6z A P cH 305 s305 (a4z n):=c9o g1q
theorem T305(A:Amb)(n:Nat):b5f A P cH (305,⟨s305,a4z n⟩):=⟨f7m,S305 A n⟩
def s131:Sig:=⟨[.val (.sl .imm 16 kq16)],[.val (.sl .own 16 kq16)]⟩
def a0z(_n:Nat)(x:Dq15×Unit):Option ((Dq15×Unit)×(Unit)):=some ((x.1,()),())
theorem g0u:DF.ntmps=8:=by kernel_rfl
theorem g1b:P.funcs[131]?=some DF:=by kernel_rfl
theorem f7u:a2o P 131:=a2a (by kernel_rfl)
theorem f8n:P.underlying 49=some (.slice 53):=by kernel_rfl
set_option maxRecDepth 1000000 in
theorem d7m(w:World)(n cap:Nat):Calls P 131 #[.slice none n cap] w fun e w'=>e=.returned (.slice none 0 0)∧w'=w:=by
 go_enter g1b,g0u
 go_wp2
 rw[AY _ _ _ _ _ _ _ _ f8n]
 go_wp2
 go_ret
 exact⟨rfl,rfl⟩
set_option maxRecDepth 1000000 in
theorem d3n(w:World)(ad:Addr)(n cap:Nat)(v':Value)(w':World)(happ:(A2 #[49,49] 49 #[.slice (some ⟨w.heap.size,0,none⟩) 0 0,.slice (some ad) n cap]).run P (w.alloc (.cells #[] 53))=.ok v' w') :
  Calls P 131 #[.slice (some ad) n cap] w fun e w''=>e=.returned v'∧w''=w':=by
 go_enter g1b,g0u
 go_upto_region 3 with fail
 rw[AY _ _ _ _ _ _ _ _ f8n]
 go_upto_region 3 with fail
 refine AT ?_;refine wl rfl (.slice (some ⟨w.heap.size,0,none⟩) 0 0) (w1:=w.alloc (.cells #[] 53)) (by go_simp) ?_;refine wl rfl (.slice (some ad) n cap) (w1:=w.alloc (.cells #[] 53)) rfl ?_;refine a6k rfl (.tmp 5) (.tmp 6) 49 49 rfl rfl rfl v' happ ?_;refine wl rfl v' (w1:=w') rfl (Bk ?_)
 go_wp2
 go_ret
 exact⟨rfl,rfl⟩
theorem S131(A:Amb)(n:Nat):a6z A P cH 131 s131 (a0z n) :=
 b0x (T:=49) (tab rfl) rfl (z:=(zeroCells kq16).getD []) rfl d7m fun w w' el ad n cap v' h1 h2=>by
  rw[f8n] at h1;cases h1;exact d3n w ad n cap v' w' h2
theorem T131(A:Amb)(n:Nat):b5f A P cH (131,⟨s131,a0z n⟩):=⟨f7u,S131 A n⟩
theorem g5b:P.funcs[133]?=some DG:=by kernel_rfl
theorem f7j:a2o P 133:=a2a (by kernel_rfl)
def s132:Sig:=⟨[.sio (.sl .own 16 kq16),.val (.lf (.cfn 133))],[]⟩
abbrev tE:Ty:=.st (.pair (.int .i64) (.pair (.int .i64) .unit))
abbrev SE:Type:={x:Int×Int×Unit // -4611686018427387904≤x.1∧x.1≤4611686018427387903}
instance:Inhabited SE:=⟨⟨(0,0,()),by decide⟩⟩
def e6y:List Dq25→Option (List SE)
 |[]=>some []
 |x::l=>if h:-4611686018427387904≤x.1∧x.1≤4611686018427387903 then(e6y l).map fun r=>⟨x,h⟩::r else none
def cfE(x y:SE):Int:=x.1.1 - y.1.1
def a0q(_n:Nat)(x:Dq15×Unit×Unit):Option ((Unit)×(Dq15×Unit)):=f7y (fun a:SE=>a.1) e6y cfE x
theorem f9p:a2o P 132:=a2a (by kernel_rfl)
theorem e3j:∀(l:List Dq25) (l':List SE),e6y l=some l'→l=l'.map fun a=>a.1
 |[],l',h=>by cases h;rfl
 |x::l,l',h=>by
  unfold e6y at h;split at h
  ·obtain⟨r,h1,rfl⟩:=AS.1 h;rw[List.map_cons,←e3j l r h1]
  ·cases h
theorem swoE:Sort.SWO (CX cfE):=f6x (fun x=>by unfold cfE;omega) (fun x y=>by unfold cfE;omega) (fun x y z h1 h2=>by unfold cfE at *;omega)
theorem g3a:DG.ntmps=10:=by kernel_rfl
theorem g2y(x y:SE):Aa.wrap (x.1.1 - y.1.1)=cfE x y:=by
 obtain⟨x,h1,h2⟩:=x;obtain⟨y,h3,h4⟩:=y;exact a0i (x:=x.1 - y.1) (by omega) (by omega)
theorem f3h(x y:SE)(W:World):Calls P 133 #[.agg #[.int .i64 x.1.1,.int .i64 x.1.2.1],.agg #[.int .i64 y.1.1,.int .i64 y.1.2.1]] W fun e w'=>e=.returned (.int .i64 (cfE x y))∧∃q os,w'=Sort.grow (W.drewN q) os:=by
 have hw:=g2y x y;generalize cfE x y=z at hw ⊢;generalize x.1.1=a at hw ⊢;generalize y.1.1=b at hw ⊢
 go_enter g5b,g3a
 go_wp2
 go_ret
 exact⟨rfl,0,_,by rw[Fa,Fa,Sort.grow_grow];rfl⟩
def e7j:Go.Shelf.Ren:=⟨fun|6=>132|15=>197|14=>196|28=>261|29=>262|20=>253|21=>254|22=>255|23=>256|24=>257|25=>258|26=>259|27=>260|46=>306|47=>307|48=>308|49=>309|50=>310|57=>328|n=>n,fun|22=>49|24=>53|25=>197|3=>3|39=>227|0=>0|53=>329|55=>150|4=>4|46=>323|45=>322|50=>140|5=>5|9=>9|66=>354|70=>297|76=>382|77=>383|n=>n,fun|n=>n⟩
theorem f6u:Fy Dn e7j:={ mixed:=by kernel_rfl,f6:=⟨Gb.name,by decide,Gc.trans (congrArg some (by kernel_rfl))⟩,f14:=⟨Gd.name,by decide,Ge.trans (congrArg some (by kernel_rfl))⟩,f15:=Gf.trans (congrArg some (by kernel_rfl)),f20:=⟨Gg.name,by decide,Gh.trans (congrArg some (by kernel_rfl))⟩,f21:=⟨Gi.name,by decide,Gj.trans (congrArg some (by kernel_rfl))⟩,f22:=⟨Gk.name,by decide,Gl.trans (congrArg some (by kernel_rfl))⟩,f23:=⟨Gm.name,by decide,Gn.trans (congrArg some (by kernel_rfl))⟩,f24:=⟨Gp.name,by decide,Gq.trans (congrArg some (by kernel_rfl))⟩,f25:=⟨Gr.name,by decide,Gs.trans (congrArg some (by kernel_rfl))⟩,f26:=⟨Gt.name,by decide,Gu.trans (congrArg some (by kernel_rfl))⟩,f27:=⟨Gv.name,by decide,Gw.trans (congrArg some (by kernel_rfl))⟩,f28:=Gx.trans (congrArg some (by kernel_rfl)),f29:=Gy.trans (congrArg some (by kernel_rfl)),f46:=⟨Gz.name,by decide,G0.trans (congrArg some (by kernel_rfl))⟩,f47:=G1.trans (congrArg some (by kernel_rfl)),f48:=G2.trans (congrArg some (by kernel_rfl)),f49:=⟨G3.name,by decide,G4.trans (congrArg some (by kernel_rfl))⟩,f50:=⟨G5.name,by decide,G6.trans (congrArg some (by kernel_rfl))⟩,f57:=⟨G7.name,by decide,G8.trans (congrArg some (by kernel_rfl))⟩,t0:=G9,a0:=GA,z0:=GB,v0:=GC,t3:=GD,a3:=GE,z3:=GF,v3:=GG,t4:=GH,a4:=GI,z4:=GJ,v4:=GK,t5:=GL,a5:=GM,z5:=GN,v5:=GO,t9:=GP,a9:=GQ,z9:=GR,v9:=GS,t22:=GT,a22:=GU,z22:=GV,v22:=GW,t25:=GX,a25:=GY,z25:=GZ,v25:=Ha,t39:=Hb,a39:=Hc,z39:=He,v39:=Hf,t45:=Hg,a45:=Hh,z45:=Hi,v45:=Hj,t46:=Hk,a46:=Hl,z46:=Hm,v46:=Hn,t50:=Ho,a50:=Hp,z50:=Hq,v50:=Hr,t53:=Hs,a53:=Ht,z53:=Hu,v53:=Hv,t55:=Hw,a55:=Hx,z55:=Hy,v55:=Hz,t66:=H0,a66:=H1,z66:=H2,v66:=H3,t70:=H4,a70:=H5,z70:=H6,v70:=H7,t76:=H8,a76:=H9,z76:=HB,v76:=HC,t77:=HD,a77:=HE,z77:=HF,v77:=HG }
theorem e0m(w:World):Calls P 132 #[.slice none 0 0,.func (.func 133) #[] #[]] w fun e w'=>e=.returned (.tuple #[])∧w'=w :=
 HH f6u none 0 (.func (.func 133) #[] #[]) w
theorem e0y(blk cap:Nat)(d:Array SE)(w:World)(hH:Sort.HoldsK (fun a=>tE.enc a.1) tE.size w blk 0 d)(hb:blk<w.heap.size)(hs:d.size<4611686018427387904) :
  Calls P 132 #[.slice (some ⟨blk,0,none⟩) d.size cap,.func (.func 133) #[] #[]] w fun e w'=>e=.returned (.tuple #[])∧∃n os,w'=Go.Proofs.sortWorldK (fun a=>tE.enc a.1) tE.size w blk 0 n (Sort.pdq (CX cfE) d 0 d.size (Lib.bitLen d.size) true true) os :=
 HI f6u 2 (fun w=>HJ w) (fun w=>HK w) (fun a:SE=>tE.enc a.1) (fun x=>Ty.enc_length (t:=tE) x.1 rfl) (fun x v hv=>Ty.enc_one (t:=tE) x.1 v hv) cfE swoE 133 #[] blk 0 cap d w (fun args w=>a5m f7j args w)
  (fun m os dk _ x y=>f3h x y _) hH hb hs
theorem S132(A:Amb)(n:Nat):a6z A P cH 132 s132 (a0q n):=c8b (t0:=.pair tI (.pair tI .unit)) (val:=fun a:SE=>a.1) rfl e3j swoE e0m e0y
theorem T132(A:Amb)(n:Nat):b5f A P cH (132,⟨s132,a0q n⟩):=⟨f9p,S132 A n⟩
def s93:Sig:=⟨[.val kq22],[.val (.sl .own 8 tI)]⟩
def a1i(_n:Nat)(x:List Int×Unit):Option (Dq10×(Unit)):=some ((x.1,()),())
theorem nt93:Em.ntmps=8:=by kernel_rfl
theorem fn93:P.funcs[93]?=some Em:=by kernel_rfl
theorem g2f:a2o P 93:=a2a (by kernel_rfl)
theorem uT93:P.underlying 27=some (.slice 3):=by kernel_rfl
set_option maxRecDepth 1000000 in
theorem e0g(w:World)(n cap:Nat):Calls P 93 #[.slice none n cap] w fun e w'=>e=.returned (.slice none 0 0)∧w'=w:=by
 go_enter fn93,nt93
 go_wp2
 rw[AY _ _ _ _ _ _ _ _ uT93]
 go_wp2
 go_ret
 exact⟨rfl,rfl⟩
set_option maxRecDepth 1000000 in
theorem d8d(w:World)(ad:Addr)(n cap:Nat)(v':Value)(w':World)(happ:(A2 #[27,27] 27 #[.slice (some ⟨w.heap.size,0,none⟩) 0 0,.slice (some ad) n cap]).run P (w.alloc (.cells #[] 3))=.ok v' w') :
  Calls P 93 #[.slice (some ad) n cap] w fun e w''=>e=.returned v'∧w''=w':=by
 go_enter fn93,nt93
 go_upto_region 3 with fail
 rw[AY _ _ _ _ _ _ _ _ uT93]
 go_upto_region 3 with fail
 refine AT ?_;refine wl rfl (.slice (some ⟨w.heap.size,0,none⟩) 0 0) (w1:=w.alloc (.cells #[] 3)) (by go_simp) ?_;refine wl rfl (.slice (some ad) n cap) (w1:=w.alloc (.cells #[] 3)) rfl ?_;refine a6k rfl (.tmp 5) (.tmp 6) 27 27 rfl rfl rfl v' happ ?_;refine wl rfl v' (w1:=w') rfl (Bk ?_)
 go_wp2
 go_ret
 exact⟨rfl,rfl⟩
theorem S93(A:Amb)(n:Nat):a6z A P cH 93 s93 (a1i n) :=
 b0x (T:=27) (tab rfl) rfl (z:=(zeroCells tI).getD []) rfl e0g fun w w' el ad n cap v' h1 h2=>by
  rw[uT93] at h1;cases h1;exact d8d w ad n cap v' w' h2
theorem T93(A:Amb)(n:Nat):b5f A P cH (93,⟨s93,a1i n⟩):=⟨g2f,S93 A n⟩
def s110:Sig:=⟨[.val kq25],[.val (.sl .own 32 kq3)]⟩
def a0e(_n:Nat)(x:(List Dq12)×Unit):Option (Dq23×(Unit)):=some ((x.1,()),())
theorem g1n:DH.ntmps=8:=by kernel_rfl
theorem g1a:P.funcs[110]?=some DH:=by kernel_rfl
theorem f7d:a2o P 110:=a2a (by kernel_rfl)
theorem f9k:P.underlying 24=some (.slice 137):=by kernel_rfl
set_option maxRecDepth 1000000 in
theorem d6z(w:World)(n cap:Nat):Calls P 110 #[.slice none n cap] w fun e w'=>e=.returned (.slice none 0 0)∧w'=w:=by
 go_enter g1a,g1n
 go_wp2
 rw[AY _ _ _ _ _ _ _ _ f9k]
 go_wp2
 go_ret
 exact⟨rfl,rfl⟩
set_option maxRecDepth 1000000 in
theorem d4a(w:World)(ad:Addr)(n cap:Nat)(v':Value)(w':World)(happ:(A2 #[24,24] 24 #[.slice (some ⟨w.heap.size,0,none⟩) 0 0,.slice (some ad) n cap]).run P (w.alloc (.cells #[] 137))=.ok v' w') :
  Calls P 110 #[.slice (some ad) n cap] w fun e w''=>e=.returned v'∧w''=w':=by
 go_enter g1a,g1n
 go_upto_region 3 with fail
 rw[AY _ _ _ _ _ _ _ _ f9k]
 go_upto_region 3 with fail
 refine AT ?_;refine wl rfl (.slice (some ⟨w.heap.size,0,none⟩) 0 0) (w1:=w.alloc (.cells #[] 137)) (by go_simp) ?_;refine wl rfl (.slice (some ad) n cap) (w1:=w.alloc (.cells #[] 137)) rfl ?_;refine a6k rfl (.tmp 5) (.tmp 6) 24 24 rfl rfl rfl v' happ ?_;refine wl rfl v' (w1:=w') rfl (Bk ?_)
 go_wp2
 go_ret
 exact⟨rfl,rfl⟩
theorem S110(A:Amb)(n:Nat):a6z A P cH 110 s110 (a0e n) :=
 b0x (T:=24) (tab rfl) rfl (z:=(zeroCells kq3).getD []) rfl d6z fun w w' el ad n cap v' h1 h2=>by
  rw[f9k] at h1;cases h1;exact d4a w ad n cap v' w' h2
theorem T110(A:Amb)(n:Nat):b5f A P cH (110,⟨s110,a0e n⟩):=⟨f7d,S110 A n⟩
def s48:Sig:=⟨[.val .err,.val .err],[.val .bool]⟩
def a2s(_n:Nat)(x:UV×UV×Unit):Option (Dq7×(Unit)):=isFs [a9z,a0r,d8x,e5m,d9t,d9x,d8g,a8s,d8t,d9h] x
theorem nt48:Eo.ntmps=22:=by kernel_rfl
theorem fn48:P.funcs[48]?=some Eo:=by kernel_rfl
theorem g1p:a2o P 48:=a2a (by kernel_rfl)
theorem f2k:P.funcs[113]?=some DI:=by kernel_rfl
theorem f5d:DI.ntmps=54:=by kernel_rfl
theorem f2m:P.funcs[112]?=some HL:=by kernel_rfl
theorem f3c:P.funcs[385]?=some HM:=by kernel_rfl
theorem c6n(v:Value)(w:World):(Bz #[.iface 413 v]).run P w=.ok (.iface 272 (.agg #[.pointer (some ⟨17,413,none⟩)])) w:=by kernel_rfl
def d5d : Array Value → Sem Value := Extern.ReflectliteType.method fun t => do Extern.Rtype.noPackHeld "Comparable" t; pure (.bool (← typeInfo t).comparable)
theorem b4u(w:World):(d5d #[.agg #[.pointer (some ⟨17,413,none⟩)]]).run P w=.ok (.bool true) w:=by kernel_rfl
theorem a7p (v : Value) (w : World) : (Go.method 543 272 v "Comparable").run P w = .ok (385, v) w := by kernel_rfl
theorem e2a:(P.info? 413).map (·.comparable)=some true:=by kernel_rfl
theorem e3y:(P.info? 432).map (·.size)=some 1:=by kernel_rfl
theorem u130:P.underlying 413=some (.pointer 432):=by kernel_rfl
theorem i77:e8p P 101=true:=by kernel_rfl
theorem nE1:d0w P 413 274=true:=by kernel_rfl
theorem nE2:d0w P 413 277=true:=by kernel_rfl
theorem nE3:d0w P 413 278=true:=by kernel_rfl
theorem g0h(b:Addr)(w:World):Calls P 48 #[.nilIface,.iface 413 (.pointer (some b))] w fun e w'=>e=.returned (.bool false)∧w'=w:=by
 obtain⟨ms,h77⟩:=a9d i77;have hn:=run_eql_iface_nil_left (P:=P) w 413 (.pointer (some b)) h77
 go_enter fn48,nt48
 go_wp2
 go_ret
 exact⟨rfl,rfl⟩
theorem f8g(a:Addr)(w:World):Calls P 113 #[.iface 413 (.pointer (some a)),.iface 413 (.pointer (some a)),.bool true] w fun e w'=>e=.returned (.bool true)∧w'=w:=by
 obtain⟨ms,h77⟩:=a9d i77;obtain⟨i,hi,hcmp⟩:=AS.1 e2a;obtain⟨j,hj,hjs⟩:=AS.1 e3y;have heq:=Fk (P:=P) w a h77 u130 hi hcmp hj
 go_enter f2k,f5d
 go_wp2
 refine Di 1 ?_;rw[Dc]
 go_wp2
 go_ret
 exact⟨rfl,rfl⟩
theorem f5c(a b:Addr)(ca cb:Array Value)(ta tb:TypeId)(w:World)(hne:a≠b)(ha:w.heap[a.block]?=some (.cells ca ta (0,0)))(hb:w.heap[b.block]?=some (.cells cb tb (0,0))) :
  Calls P 113 #[.iface 413 (.pointer (some a)),.iface 413 (.pointer (some b)),.bool true] w fun e w'=>e=.returned (.bool false)∧w'=w:=by
 obtain⟨ms,h77⟩:=a9d i77;obtain⟨i,hi,hcmp⟩:=AS.1 e2a;obtain⟨j,hj,hjs⟩:=AS.1 e3y;have nE:=a3q nE1;have uE:=a3q nE2;have vE:=a3q nE3;have heq:=Fb (P:=P) w h77 u130 hi hcmp hj (by rw[hjs];decide) hne ha hb
 go_enter f2k,f5d
 go_wp2
 refine Di 1 ?_;rw[Dc]
 go_wp2
 go_ret
 exact⟨rfl,rfl⟩
theorem c9m{h:Array Obj}{k:Nat}{c:Array Value}{t:TypeId}{fr:Nat×Nat}(hh:h[k]?=some (.cells c t fr)):k<h.size:=by
 rcases Nat.lt_or_ge k h.size with h1|h1
 ·exact h1
 ·rw[Array.getElem?_eq_none h1] at hh;cases hh
theorem f7f(a:Addr)(w:World) :
  Calls P 48 #[.iface 413 (.pointer (some a)),.iface 413 (.pointer (some a))] w fun e w'=>e=.returned (.bool true)∧w'=w:=by
 obtain⟨ms,h77⟩:=a9d i77;have h8:=@Be P 112 _ Bz f2m (by kernel_rfl) (by kernel_rfl) (by kernel_rfl) (by kernel_rfl);have h32:=@Be P 385 _ d5d f3c (by kernel_rfl) (by kernel_rfl) (by kernel_rfl) (by kernel_rfl);have tT:=c6n;have cT:=b4u;have mR:=a7p
 go_enter fn48,nt48
 go_wp2_with (go_at_call 113;refine(f8g a w).mono ?_;rintro e w' ⟨rfl,hx⟩)
 go_ret
 first|exact⟨rfl,hx⟩|exact⟨rfl,rfl⟩
theorem f5e(a b:Addr)(ca cb:Array Value)(ta tb:TypeId)(w:World)(hne:a≠b)(ha:w.heap[a.block]?=some (.cells ca ta (0,0)))(hb:w.heap[b.block]?=some (.cells cb tb (0,0))) :
  Calls P 48 #[.iface 413 (.pointer (some a)),.iface 413 (.pointer (some b))] w fun e w'=>e=.returned (.bool false)∧w'=w:=by
 obtain⟨ms,h77⟩:=a9d i77;have h8:=@Be P 112 _ Bz f2m (by kernel_rfl) (by kernel_rfl) (by kernel_rfl) (by kernel_rfl);have h32:=@Be P 385 _ d5d f3c (by kernel_rfl) (by kernel_rfl) (by kernel_rfl) (by kernel_rfl);have tT:=c6n;have cT:=b4u;have mR:=a7p
 go_enter fn48,nt48
 go_wp2_with (go_at_call 113;refine(f5c a b ca cb ta tb w hne ha hb).mono ?_;rintro e w' ⟨rfl,hx⟩)
 go_ret
 first|exact⟨rfl,hx⟩|exact⟨rfl,rfl⟩
structure WT (T U:Nat):Prop where
 ne:T≠413
 l1:d0w P T 274=true
 h2:hasB P T 277=true
 cf:∀(args:Array Value) (w:World),(callFunc U args).run P w=.ok (.enter U args) w
 mU : ∀ (v : Value) (w : World), (Go.method 543 T v "Unwrap").run P w = .ok (U, v) w
 un:∀(s:ByteArray) (v:Value) (w:World),v.oneCell'=true→Calls P U #[.agg #[.string s,v]] w fun e w'=>e=.returned v∧Below w.heap.size w w'
theorem g0d{T U:Nat}(h:WT T U)(s:ByteArray)(b:Addr)(w:World) :
  Calls P 113 #[.iface T (.agg #[.string s,.iface 413 (.pointer (some b))]),.iface 413 (.pointer (some b)),.bool true] w fun e w'=>e=.returned (.bool true)∧Below w.heap.size w w':=by
 obtain⟨ms,h77⟩:=a9d i77;obtain⟨i,hi,hcmp⟩:=AS.1 e2a;obtain⟨j,hj,hjs⟩:=AS.1 e3y;have nE:=a3q nE1;have uE:=a3q nE2;have vE:=a3q nE3;have nW:=a3q h.l1;have uW:=d2f h.h2;have mU:=h.mU;have hce:=h.cf;have heq:=fun w=>Fk (P:=P) w b h77 u130 hi hcmp hj
 have hty:=FM (P:=P) T 413 (.agg #[.string s,.iface 413 (.pointer (some b))]) (.pointer (some b)) h77 h.ne w;have hu:=h.un s (.iface 413 (.pointer (some b))) w rfl
 go_enter f2k,f5d
 go_wp2
 refine Di 2 ?_;rw[Dc]
 go_wp2_with (refine hu.mono ?_;rintro e w' ⟨rfl,hb⟩)
 rw[Dc]
 go_wp2
 go_ret
 exact⟨rfl,by assumption⟩
theorem g0t{T U:Nat}(h:WT T U)(s:ByteArray)(a b:Addr)(ca cb:Array Value)(ta tb:TypeId)(w:World)(hne:a≠b)(hal:a.block<w.heap.size)(hbl:b.block<w.heap.size)(ha:w.heap[a.block]?=some (.cells ca ta (0,0)))(hb:w.heap[b.block]?=some (.cells cb tb (0,0))) :
  Calls P 113 #[.iface T (.agg #[.string s,.iface 413 (.pointer (some a))]),.iface 413 (.pointer (some b)),.bool true] w fun e w'=>e=.returned (.bool false)∧Below w.heap.size w w':=by
 obtain⟨ms,h77⟩:=a9d i77;obtain⟨i,hi,hcmp⟩:=AS.1 e2a;obtain⟨j,hj,hjs⟩:=AS.1 e3y;have nE:=a3q nE1;have uE:=a3q nE2;have vE:=a3q nE3;have nW:=a3q h.l1;have uW:=d2f h.h2;have mU:=h.mU;have hce:=h.cf;have heq:∀w':World,Below w.heap.size w w'→(binOp .eql 101 (.iface 413 (.pointer (some a))) (.iface 413 (.pointer (some b)))).run P w'=.ok (.bool false) w':=fun w' hB=>Fb (P:=P) w' h77 u130 hi hcmp hj (by rw[hjs];decide) hne ((hB.block _ hal).trans ha) ((hB.block _ hbl).trans hb)
 have hty:=FM (P:=P) T 413 (.agg #[.string s,.iface 413 (.pointer (some a))]) (.pointer (some b)) h77 h.ne w;have hu:=h.un s (.iface 413 (.pointer (some a))) w rfl
 go_enter f2k,f5d
 go_wp2
 refine Di 2 ?_;rw[Dc]
 go_wp2_with (refine hu.mono ?_;rintro e w' ⟨rfl,hB⟩;have heq2:=heq w' hB)
 rw[Dc]
 go_wp2
 go_ret
 exact⟨rfl,by assumption⟩
theorem g1t{T U:Nat}(h:WT T U)(s:ByteArray)(b:Addr)(w:World)(_:∃ca ta,w.heap[b.block]?=some (.cells ca ta (0,0))) :
  Calls P 48 #[.iface T (.agg #[.string s,.iface 413 (.pointer (some b))]),.iface 413 (.pointer (some b))] w fun e w'=>e=.returned (.bool true)∧Below w.heap.size w w':=by
 obtain⟨ms,h77⟩:=a9d i77;have h8:=@Be P 112 _ Bz f2m (by kernel_rfl) (by kernel_rfl) (by kernel_rfl) (by kernel_rfl);have h32:=@Be P 385 _ d5d f3c (by kernel_rfl) (by kernel_rfl) (by kernel_rfl) (by kernel_rfl);have tT:=c6n;have cT:=b4u;have mR:=a7p
 go_enter fn48,nt48
 go_wp2_with (go_at_call 113;refine(g0d h s b w).mono ?_;rintro e w' ⟨rfl,hx⟩)
 go_ret
 first|exact⟨rfl,hx⟩|exact⟨rfl,rfl⟩
theorem g2h{T U:Nat}(h:WT T U)(s:ByteArray)(a b:Addr)(ca cb:Array Value)(ta tb:TypeId)(w:World)(hne:a≠b)(ha:w.heap[a.block]?=some (.cells ca ta (0,0)))(hb:w.heap[b.block]?=some (.cells cb tb (0,0))) :
  Calls P 48 #[.iface T (.agg #[.string s,.iface 413 (.pointer (some a))]),.iface 413 (.pointer (some b))] w fun e w'=>e=.returned (.bool false)∧Below w.heap.size w w':=by
 obtain⟨ms,h77⟩:=a9d i77;have h8:=@Be P 112 _ Bz f2m (by kernel_rfl) (by kernel_rfl) (by kernel_rfl) (by kernel_rfl);have h32:=@Be P 385 _ d5d f3c (by kernel_rfl) (by kernel_rfl) (by kernel_rfl) (by kernel_rfl);have tT:=c6n;have cT:=b4u;have mR:=a7p
 go_enter fn48,nt48
 go_wp2_with (go_at_call 113;refine(g0t h s a b ca cb ta tb w hne (c9m ha) (c9m hb) ha hb).mono ?_;rintro e w' ⟨rfl,hx⟩)
 go_ret
 first|exact⟨rfl,hx⟩|exact⟨rfl,rfl⟩
theorem g2x:P.funcs[377]?=some DJ:=by kernel_rfl
theorem g3c:DJ.ntmps=5:=by kernel_rfl
theorem g5d:WT 173 377:=⟨by decide,by kernel_rfl,by kernel_rfl,a5m (a2a (by kernel_rfl)),fun _ _=>by kernel_rfl,fun s v w hv=>by
 go_enter g2x,g3c
 go_wp2
 go_ret
 exact⟨rfl,(BN _ w).alloc (Ar _) _⟩⟩
theorem g3k:P.funcs[395]?=some DK:=by kernel_rfl
theorem g3y:DK.ntmps=5:=by kernel_rfl
theorem g4s:WT 319 395:=⟨by decide,by kernel_rfl,by kernel_rfl,a5m (a2a (by kernel_rfl)),fun _ _=>by kernel_rfl,fun s v w hv=>by
 go_enter g3k,g3y
 go_wp2
 go_ret
 exact⟨rfl,(BN _ w).alloc (Ar _) _⟩⟩
theorem g4p:P.funcs[397]?=some DL:=by kernel_rfl
theorem g4f:DL.ntmps=5:=by kernel_rfl
theorem g4c:WT 362 397:=⟨by decide,by kernel_rfl,by kernel_rfl,a5m (a2a (by kernel_rfl)),fun _ _=>by kernel_rfl,fun s v w hv=>by
 go_enter g4p,g4f
 go_wp2
 go_ret
 exact⟨rfl,(BN _ w).alloc (Ar _) _⟩⟩
theorem g4b:P.funcs[399]?=some DM:=by kernel_rfl
theorem g3f:DM.ntmps=5:=by kernel_rfl
theorem g3g:WT 366 399:=⟨by decide,by kernel_rfl,by kernel_rfl,a5m (a2a (by kernel_rfl)),fun _ _=>by kernel_rfl,fun s v w hv=>by
 go_enter g4b,g3f
 go_wp2
 go_ret
 exact⟨rfl,(BN _ w).alloc (Ar _) _⟩⟩
theorem g3b:P.funcs[401]?=some DN:=by kernel_rfl
theorem g3t:DN.ntmps=5:=by kernel_rfl
theorem g3r:WT 370 401:=⟨by decide,by kernel_rfl,by kernel_rfl,a5m (a2a (by kernel_rfl)),fun _ _=>by kernel_rfl,fun s v w hv=>by
 go_enter g3b,g3t
 go_wp2
 go_ret
 exact⟨rfl,(BN _ w).alloc (Ar _) _⟩⟩
theorem g4r:P.funcs[403]?=some DO:=by kernel_rfl
theorem g3h:DO.ntmps=5:=by kernel_rfl
theorem g4i:WT 372 403:=⟨by decide,by kernel_rfl,by kernel_rfl,a5m (a2a (by kernel_rfl)),fun _ _=>by kernel_rfl,fun s v w hv=>by
 go_enter g4r,g3h
 go_wp2
 go_ret
 exact⟨rfl,(BN _ w).alloc (Ar _) _⟩⟩
theorem g4a:P.funcs[405]?=some DP:=by kernel_rfl
theorem g4y:DP.ntmps=5:=by kernel_rfl
theorem g4u:WT 374 405:=⟨by decide,by kernel_rfl,by kernel_rfl,a5m (a2a (by kernel_rfl)),fun _ _=>by kernel_rfl,fun s v w hv=>by
 go_enter g4a,g4y
 go_wp2
 go_ret
 exact⟨rfl,(BN _ w).alloc (Ar _) _⟩⟩
theorem g3v:P.funcs[407]?=some DQ:=by kernel_rfl
theorem g3e:DQ.ntmps=5:=by kernel_rfl
theorem g4d:WT 386 407:=⟨by decide,by kernel_rfl,by kernel_rfl,a5m (a2a (by kernel_rfl)),fun _ _=>by kernel_rfl,fun s v w hv=>by
 go_enter g3v,g3e
 go_wp2
 go_ret
 exact⟨rfl,(BN _ w).alloc (Ar _) _⟩⟩
theorem g5c:P.funcs[409]?=some DR:=by kernel_rfl
theorem g4v:DR.ntmps=5:=by kernel_rfl
theorem g2u:WT 398 409:=⟨by decide,by kernel_rfl,by kernel_rfl,a5m (a2a (by kernel_rfl)),fun _ _=>by kernel_rfl,fun s v w hv=>by
 go_enter g5c,g4v
 go_wp2
 go_ret
 exact⟨rfl,(BN _ w).alloc (Ar _) _⟩⟩
theorem g4t:P.funcs[411]?=some DS:=by kernel_rfl
theorem g2v:DS.ntmps=5:=by kernel_rfl
theorem g4g:WT 408 411:=⟨by decide,by kernel_rfl,by kernel_rfl,a5m (a2a (by kernel_rfl)),fun _ _=>by kernel_rfl,fun s v w hv=>by
 go_enter g4t,g2v
 go_wp2
 go_ret
 exact⟨rfl,(BN _ w).alloc (Ar _) _⟩⟩
def wsl:List Nat:=[173,319,362,366,370,372,374,386,398,408]
theorem f5w(t:Nat)(h:t∈wsl):∃u,WT t u:=by
 simp only[wsl,List.mem_cons,List.not_mem_nil,or_false] at h;rcases h with rfl|rfl|rfl|rfl|rfl|rfl|rfl|rfl|rfl|rfl
 ·exact⟨_,g5d⟩
 ·exact⟨_,g4s⟩
 ·exact⟨_,g4c⟩
 ·exact⟨_,g3g⟩
 ·exact⟨_,g3r⟩
 ·exact⟨_,g4i⟩
 ·exact⟨_,g4u⟩
 ·exact⟨_,g4d⟩
 ·exact⟨_,g2u⟩
 ·exact⟨_,g4g⟩
theorem S48(A:Amb)(hA:HA A)(n:Nat):a6z A P cH 48 s48 (a2s n) :=
 e9r (ws:=wsl) hA g0h f7f f5e (fun t h=>(f5w t h).elim fun _ q=>g1t q) (fun t h=>(f5w t h).elim fun _ q=>g2h q)
theorem T48(A:Amb)(hA:HA A)(n:Nat):b5f A P cH (48,⟨s48,a2s n⟩):=⟨g1p,S48 A hA n⟩
def s323:Sig:=⟨[.val (.sl .own 32 kq3),.val tI,.val kq25],[.val (.sl .own 32 kq3)]⟩
def a0x(_n:Nat)(x:(List Dq12)×Int×(List Dq12)×Unit):Option (Dq23×(Unit)):=insF 32 kq3 x
theorem f5h:DT.ntmps=95:=by kernel_rfl
theorem f4e:P.funcs[323]?=some DT:=by kernel_rfl
theorem f9t:a2o P 323:=a2a (by kernel_rfl)
theorem f9i:P.underlying 24=some (.slice 137):=by kernel_rfl
theorem g1j:∃I,P.info? 137=some I∧I.size=3:=by
 obtain⟨i,d,h1,_,h3,_⟩:=((tab (C:=cH) rfl) 137 _ rfl).ex;exact⟨i,h1,h3⟩
theorem g3o:P.funcs[340]?=some HN:=by kernel_rfl
theorem g3q(x y:Value)(w w':World)(b:Bool)(h:(Ba #[24,24] #[4] #[x,y]).run P w=.ok (.bool b) w'):(callFunc 340 #[x,y]).run P w=.ok (.value (.bool b)) w':=by
 rw[Be g3o (by kernel_rfl) (by kernel_rfl) (by kernel_rfl) (e:=Ba #[24,24] #[4]) (by kernel_rfl),h];rfl
set_option maxRecDepth 1000000 in
theorem d9o(w:World)(a a2:Option Addr)(n cap cap2 i:Nat)(hin:i≤n)(hn:n≤cap):Calls P 323 #[.slice a n cap,.int .i64 i,.slice a2 0 cap2] w fun e w'=>e=.returned (.slice a n cap)∧w'=w:=by
 go_enter f4e,f5h
 go_wp2
 all_goals (go_ret;exact⟨rfl,rfl⟩)
set_option maxRecDepth 1000000 in
theorem e4k(w W1:World)(a a2:Option Addr)(n cap cap2 m:Nat)(v':Value)(hn:n≤cap)(hm:0<m)(happ:(A2 #[24,24] 24 #[.slice a n cap,.slice a2 m cap2]).run P w=.ok v' W1) :
  Calls P 323 #[.slice a n cap,.int .i64 n,.slice a2 m cap2] w fun e w'=>e=.returned v'∧w'=W1:=by
 have hm0:¬(m=0):=by omega
 go_enter f4e,f5h
 go_upto_region 7 with fail
 refine AT ?_;refine wl rfl (.slice a n cap) (w1:=w) rfl ?_;refine wl rfl (.slice a2 m cap2) (w1:=w) rfl ?_;refine a6k rfl (.tmp 23) (.tmp 24) 24 24 rfl (by simp[Bl,AQ]) (by simp[Bl,AQ]) _ happ ?_;refine wl rfl v' (w1:=W1) rfl (Bk ?_)
 go_wp2
 all_goals (go_ret;exact⟨rfl,rfl⟩)
set_option maxRecDepth 1000000 in
theorem e0e(I:TypeInfo)(hI:P.info? 137=some I)(hIs:I.size=3)(w W1 W2 W3:World)(b b1 n cap cap1 cap2 i m:Nat)(a2:Option Addr)(v2 v3:Value)(hin:i<n)(hn:n≤cap)(hm:0<m)(hcap:cap<n+m)(hr:n+m≤140737488355328)(hc1:n+m≤cap1)
  (h1:(A2 #[24,3] 24 #[.slice (some ⟨b,0,none⟩) i cap,.int .i64 ((n+m - i:Nat):Int)]).run P w=.ok (.slice (some ⟨b1,0,none⟩) (n+m) cap1) W1)
  (h2:(AP #[24,24] 3 #[.slice (some ⟨b1,i*3,none⟩) (n+m - i) (cap1 - i),.slice a2 m cap2]).run P W1=.ok v2 W2)
  (h3:(AP #[24,24] 3 #[.slice (some ⟨b1,(i+m)*3,none⟩) (n+m - (i+m)) (cap1 - (i+m)),.slice (some ⟨b,i*3,none⟩) (n - i) (cap - i)]).run P W2.drew=.ok v3 W3) :
  Calls P 323 #[.slice (some ⟨b,0,none⟩) n cap,.int .i64 i,.slice a2 m cap2] w fun e w'=>e=.returned (.slice (some ⟨b1,0,none⟩) (n+m) cap1)∧w'=W3:=by
 have hm0:¬(m=0):=by omega
 have hin0:¬(i=n):=by omega
 have hic:i≤cap:=by omega
 go_enter f4e,f5h
 go_upto_region 9 with fail
 ·refine AT ?_;refine wl rfl (.slice (some ⟨b,0,none⟩) n cap) (w1:=w) (by kernel_rfl) ?_;refine wl rfl (.int .i64 i) (w1:=w) (by kernel_rfl) ?_;refine b1k f9i hI rfl (.tmp 32) none (some (.tmp 33)) rfl (b:=b) (off:=0) (n:=n) (cap:=cap) (l:=0) (h:=i) (by kernel_rfl) (.inl ⟨rfl,rfl⟩) (.inr (by kernel_rfl)) (A8 _) hic (.inr rfl) (off':=0) (n':=i) ⟨by simp,rfl⟩ ?_;refine wl rfl (.int .i64 n) (w1:=w) (by kernel_rfl) ?_;refine wl rfl (.int .i64 m) (w1:=w) (by kernel_rfl) ?_;refine f0r rfl (.tmp 35) (.tmp 36) 3 3 rfl (p:=n) (q:=m) ((n+m:Nat):Int) (by kernel_rfl) (by kernel_rfl) (by omega) ?_;refine wl rfl (.int .i64 i) (w1:=w) (by kernel_rfl) ?_;refine f1d rfl (.tmp 37) (.tmp 38) 3 3 rfl (p:=((n+m:Nat):Int)) (q:=i) ((n+m - i:Nat):Int) (by kernel_rfl) (by kernel_rfl) (by omega) ?_;refine a6k rfl (.tmp 34) (.tmp 39) 24 3 rfl (by kernel_rfl) (by kernel_rfl) _ h1 ?_;refine wl rfl (.slice (some ⟨b1,0,none⟩) (n+m) cap1) (w1:=W1) (by kernel_rfl) (Bk ?_)
  try simp only[AQ,Ao,A4,A5]
  go_upto_region 10 with fail
  refine AT ?_;refine wl rfl (.slice (some ⟨b1,0,none⟩) (n+m) cap1) (w1:=W1) (by kernel_rfl) ?_;refine wl rfl (.int .i64 i) (w1:=W1) (by kernel_rfl) ?_;refine b1k f9i hI rfl (.tmp 41) (some (.tmp 42)) none rfl (b:=b1) (off:=0) (n:=n+m) (cap:=cap1) (l:=i) (h:=n+m) (by kernel_rfl) (.inr (by kernel_rfl)) (.inl ⟨rfl,rfl⟩) (by omega) hc1 (.inl (by omega)) (off':=i*3) (n':=n+m - i) ⟨by simp[hIs],rfl⟩ ?_;refine wl rfl (.slice a2 m cap2) (w1:=W1) (by kernel_rfl) ?_;refine c3k rfl (.tmp 43) (.tmp 44) 24 24 rfl (by kernel_rfl) (by kernel_rfl) _ h2 (Bk ?_)
  try simp only[AQ,Ao,A4,A5]
  go_upto_region 11 with fail
  have hic1:i+m≤cap1:=by omega
  have hic2:¬(cap1=i+m):=by omega
  have hic3:i+m≤n+m:=by omega
  have hic4:¬(cap=i):=by omega
  have hii:i≤n:=by omega
  have hw:Aa.wrap ((i:Int)+(m:Int))=(i:Int)+(m:Int):=by
   simp only[Bh,Bi,AX,if_true];simp;split <;> omega
  have ht:((i:Int)+(m:Int)).toNat=i+m:=by omega
  have hle:(i:Int)+(m:Int)≤(n:Int)+(m:Int):=by omega
  have hle0:0≤(i:Int)+(m:Int):=by omega
  go_region_law (refine c3n rfl (.tmp 50) (.tmp 53) 24 24 rfl (by simp[Bl,AQ]) (by simp[Bl,AQ]) _ h3 ?_)
  try simp only[AQ,Ao,A4,A5]
  go_wp2
  all_goals (go_ret;exact⟨rfl,rfl⟩)
 all_goals (exfalso;omega)
set_option maxRecDepth 1000000 in
theorem e0d(I:TypeInfo)(hI:P.info? 137=some I)(hIs:I.size=3)(w W1 W2:World)(b n cap cap2 i m:Nat)(a2:Option Addr)(v2 v3:Value)(hin:i<n)(hm:0<m)(hroom:n+m≤cap)(hr:n+m≤140737488355328)
  (hov:(callFunc 340 #[.slice a2 m cap2,.slice (some ⟨b,(i+m)*3,none⟩) (n+m - (i+m)) (cap - (i+m))]).run P w=.ok (.value (.bool false)) w)
  (h1:(AP #[24,24] 3 #[.slice (some ⟨b,(i+m)*3,none⟩) (n+m - (i+m)) (cap - (i+m)),.slice (some ⟨b,i*3,none⟩) (n+m - i) (cap - i)]).run P w.drew=.ok v2 W1)
  (h2:(AP #[24,24] 3 #[.slice (some ⟨b,i*3,none⟩) (n+m - i) (cap - i),.slice a2 m cap2]).run P W1=.ok v3 W2) :
  Calls P 323 #[.slice (some ⟨b,0,none⟩) n cap,.int .i64 i,.slice a2 m cap2] w fun e w'=>e=.returned (.slice (some ⟨b,0,none⟩) (n+m) cap)∧w'=W2:=by
 have hm0:¬(m=0):=by omega
 have hin0:¬(i=n):=by omega
 have hic:i≤cap:=by omega
 have hw1:Aa.wrap ((i:Int)+(m:Int))=(i:Int)+(m:Int):=by
  simp only[Bh,Bi,AX,if_true];simp;split <;> omega
 have hb1:(0:Int)≤(i:Int)+(m:Int):=by omega
 have hii:i≤n:=by omega
 have htn:((i:Int)+(m:Int)).toNat=i+m:=by omega
 have hb2:¬(cap=i+m):=by omega
 have hb3:(i:Int)≤(n:Int)+(m:Int):=by omega
 have hb4:¬(cap=i):=by omega
 have hle:(i:Int)+(m:Int)≤(n:Int)+(m:Int):=by omega
 go_enter f4e,f5h
 go_upto_region 15 with(simp only[hov])
 go_region_law (refine c3n rfl (.tmp 73) (.tmp 76) 24 24 rfl (by simp[Bl,AQ]) (by simp[Bl,AQ]) _ h1 ?_)
 try simp only[AQ,Ao,A4,A5]
 go_upto_region 16 with fail
 refine AT ?_;refine wl rfl (.slice (some ⟨b,0,none⟩) (n+m) cap) (w1:=W1) (by kernel_rfl) ?_;refine wl rfl (.int .i64 i) (w1:=W1) (by kernel_rfl) ?_;refine b1k f9i hI rfl (.tmp 78) (some (.tmp 79)) none rfl (b:=b) (off:=0) (n:=n+m) (cap:=cap) (l:=i) (h:=n+m) (by kernel_rfl) (.inr (by kernel_rfl)) (.inl ⟨rfl,rfl⟩) (by omega) hroom (.inl (by omega)) (off':=i*3) (n':=n+m - i) ⟨by simp[hIs],rfl⟩ ?_;refine wl rfl (.slice a2 m cap2) (w1:=W1) (by kernel_rfl) ?_;refine c3k rfl (.tmp 80) (.tmp 81) 24 24 rfl (by kernel_rfl) (by kernel_rfl) _ h2 (Bk ?_)
 try simp only[AQ,Ao,A4,A5]
 go_wp2
 all_goals (go_ret;exact⟨rfl,rfl⟩)
theorem S323(A:Amb)(n:Nat):a6z A P cH 323 s323 (a0x n):=by
 obtain⟨I,hI,hIs⟩:=g1j;refine b7q (fo:=340) (T:=24) (U:=24) (tb:=4) (tab rfl) rfl rfl (by kernel_rfl) (by decide) (z:=(zeroCells kq3).getD []) rfl g3q d9o e4k ?_ ?_
 ·intro w W1 W2 W3 b b1 n cap cap1 cap2 i m a2 v2 v3 h1 h2 h3 h4 h5 h6 h7 h8 h9;exact e0e I hI hIs w W1 W2 W3 b b1 n cap cap1 cap2 i m a2 v2 v3 h1 h2 h3 h4 h5 h6 h7 h8 h9
 ·intro w W1 W2 b n cap cap2 i m a2 v2 v3 h1 h2 h3 h4 h5 h6 h7;exact e0d I hI hIs w W1 W2 b n cap cap2 i m a2 v2 v3 h1 h2 h3 h4 h5 h6 h7
theorem T323(A:Amb)(n:Nat):b5f A P cH (323,⟨s323,a0x n⟩):=⟨f9t,S323 A n⟩
def s324:Sig:=⟨[.val (.sl .own 8 tI),.val tI,.val kq22],[.val (.sl .own 8 tI)]⟩
def a2x(_n:Nat)(x:List Int×Int×List Int×Unit):Option (Dq10×(Unit)):=insF 8 tI x
theorem f3y:DU.ntmps=95:=by kernel_rfl
theorem f3k:P.funcs[324]?=some DU:=by kernel_rfl
theorem f8b:a2o P 324:=a2a (by kernel_rfl)
theorem f8u:P.underlying 27=some (.slice 3):=by kernel_rfl
theorem g2k:∃I,P.info? 3=some I∧I.size=1:=by
 obtain⟨i,d,h1,_,h3,_⟩:=((tab (C:=cH) rfl) 3 _ rfl).ex;exact⟨i,h1,h3⟩
theorem g5a:P.funcs[342]?=some HO:=by kernel_rfl
theorem g4o(x y:Value)(w w':World)(b:Bool)(h:(Ba #[27,27] #[4] #[x,y]).run P w=.ok (.bool b) w'):(callFunc 342 #[x,y]).run P w=.ok (.value (.bool b)) w':=by
 rw[Be g5a (by kernel_rfl) (by kernel_rfl) (by kernel_rfl) (e:=Ba #[27,27] #[4]) (by kernel_rfl),h];rfl
set_option maxRecDepth 1000000 in
theorem e0b(w:World)(a a2:Option Addr)(n cap cap2 i:Nat)(hin:i≤n)(hn:n≤cap):Calls P 324 #[.slice a n cap,.int .i64 i,.slice a2 0 cap2] w fun e w'=>e=.returned (.slice a n cap)∧w'=w:=by
 go_enter f3k,f3y
 go_wp2
 all_goals (go_ret;exact⟨rfl,rfl⟩)
set_option maxRecDepth 1000000 in
theorem e4o(w W1:World)(a a2:Option Addr)(n cap cap2 m:Nat)(v':Value)(hn:n≤cap)(hm:0<m)(happ:(A2 #[27,27] 27 #[.slice a n cap,.slice a2 m cap2]).run P w=.ok v' W1) :
  Calls P 324 #[.slice a n cap,.int .i64 n,.slice a2 m cap2] w fun e w'=>e=.returned v'∧w'=W1:=by
 have hm0:¬(m=0):=by omega
 go_enter f3k,f3y
 go_upto_region 7 with fail
 refine AT ?_;refine wl rfl (.slice a n cap) (w1:=w) rfl ?_;refine wl rfl (.slice a2 m cap2) (w1:=w) rfl ?_;refine a6k rfl (.tmp 23) (.tmp 24) 27 27 rfl (by simp[Bl,AQ]) (by simp[Bl,AQ]) _ happ ?_;refine wl rfl v' (w1:=W1) rfl (Bk ?_)
 go_wp2
 all_goals (go_ret;exact⟨rfl,rfl⟩)
set_option maxRecDepth 1000000 in
theorem e1k(I:TypeInfo)(hI:P.info? 3=some I)(hIs:I.size=1)(w W1 W2 W3:World)(b b1 n cap cap1 cap2 i m:Nat)(a2:Option Addr)(v2 v3:Value)(hin:i<n)(hn:n≤cap)(hm:0<m)(hcap:cap<n+m)(hr:n+m≤140737488355328)(hc1:n+m≤cap1)
  (h1:(A2 #[27,3] 27 #[.slice (some ⟨b,0,none⟩) i cap,.int .i64 ((n+m - i:Nat):Int)]).run P w=.ok (.slice (some ⟨b1,0,none⟩) (n+m) cap1) W1)
  (h2:(AP #[27,27] 3 #[.slice (some ⟨b1,i,none⟩) (n+m - i) (cap1 - i),.slice a2 m cap2]).run P W1=.ok v2 W2)
  (h3:(AP #[27,27] 3 #[.slice (some ⟨b1,(i+m),none⟩) (n+m - (i+m)) (cap1 - (i+m)),.slice (some ⟨b,i,none⟩) (n - i) (cap - i)]).run P W2.drew=.ok v3 W3) :
  Calls P 324 #[.slice (some ⟨b,0,none⟩) n cap,.int .i64 i,.slice a2 m cap2] w fun e w'=>e=.returned (.slice (some ⟨b1,0,none⟩) (n+m) cap1)∧w'=W3:=by
 have hm0:¬(m=0):=by omega
 have hin0:¬(i=n):=by omega
 have hic:i≤cap:=by omega
 go_enter f3k,f3y
 go_upto_region 9 with fail
 ·refine AT ?_;refine wl rfl (.slice (some ⟨b,0,none⟩) n cap) (w1:=w) (by kernel_rfl) ?_;refine wl rfl (.int .i64 i) (w1:=w) (by kernel_rfl) ?_;refine b1k f8u hI rfl (.tmp 32) none (some (.tmp 33)) rfl (b:=b) (off:=0) (n:=n) (cap:=cap) (l:=0) (h:=i) (by kernel_rfl) (.inl ⟨rfl,rfl⟩) (.inr (by kernel_rfl)) (A8 _) hic (.inr rfl) (off':=0) (n':=i) ⟨by simp,rfl⟩ ?_;refine wl rfl (.int .i64 n) (w1:=w) (by kernel_rfl) ?_;refine wl rfl (.int .i64 m) (w1:=w) (by kernel_rfl) ?_;refine f0r rfl (.tmp 35) (.tmp 36) 3 3 rfl (p:=n) (q:=m) ((n+m:Nat):Int) (by kernel_rfl) (by kernel_rfl) (by omega) ?_;refine wl rfl (.int .i64 i) (w1:=w) (by kernel_rfl) ?_;refine f1d rfl (.tmp 37) (.tmp 38) 3 3 rfl (p:=((n+m:Nat):Int)) (q:=i) ((n+m - i:Nat):Int) (by kernel_rfl) (by kernel_rfl) (by omega) ?_;refine a6k rfl (.tmp 34) (.tmp 39) 27 3 rfl (by kernel_rfl) (by kernel_rfl) _ h1 ?_;refine wl rfl (.slice (some ⟨b1,0,none⟩) (n+m) cap1) (w1:=W1) (by kernel_rfl) (Bk ?_)
  try simp only[AQ,Ao,A4,A5]
  go_upto_region 10 with fail
  refine AT ?_;refine wl rfl (.slice (some ⟨b1,0,none⟩) (n+m) cap1) (w1:=W1) (by kernel_rfl) ?_;refine wl rfl (.int .i64 i) (w1:=W1) (by kernel_rfl) ?_;refine b1k f8u hI rfl (.tmp 41) (some (.tmp 42)) none rfl (b:=b1) (off:=0) (n:=n+m) (cap:=cap1) (l:=i) (h:=n+m) (by kernel_rfl) (.inr (by kernel_rfl)) (.inl ⟨rfl,rfl⟩) (by omega) hc1 (.inl (by omega)) (off':=i) (n':=n+m - i) ⟨by simp[hIs],rfl⟩ ?_;refine wl rfl (.slice a2 m cap2) (w1:=W1) (by kernel_rfl) ?_;refine c3k rfl (.tmp 43) (.tmp 44) 27 27 rfl (by kernel_rfl) (by kernel_rfl) _ h2 (Bk ?_)
  try simp only[AQ,Ao,A4,A5]
  go_upto_region 11 with fail
  have hic1:i+m≤cap1:=by omega
  have hic2:¬(cap1=i+m):=by omega
  have hic3:i+m≤n+m:=by omega
  have hic4:¬(cap=i):=by omega
  have hii:i≤n:=by omega
  have hw:Aa.wrap ((i:Int)+(m:Int))=(i:Int)+(m:Int):=by
   simp only[Bh,Bi,AX,if_true];simp;split <;> omega
  have ht:((i:Int)+(m:Int)).toNat=i+m:=by omega
  have hle:(i:Int)+(m:Int)≤(n:Int)+(m:Int):=by omega
  have hle0:0≤(i:Int)+(m:Int):=by omega
  go_region_law (refine c3n rfl (.tmp 50) (.tmp 53) 27 27 rfl (by simp[Bl,AQ]) (by simp[Bl,AQ]) _ h3 ?_)
  try simp only[AQ,Ao,A4,A5]
  go_wp2
  all_goals (go_ret;exact⟨rfl,rfl⟩)
 all_goals (exfalso;omega)
set_option maxRecDepth 1000000 in
theorem e0h(I:TypeInfo)(hI:P.info? 3=some I)(hIs:I.size=1)(w W1 W2:World)(b n cap cap2 i m:Nat)(a2:Option Addr)(v2 v3:Value)(hin:i<n)(hm:0<m)(hroom:n+m≤cap)(hr:n+m≤140737488355328)
  (hov:(callFunc 342 #[.slice a2 m cap2,.slice (some ⟨b,(i+m),none⟩) (n+m - (i+m)) (cap - (i+m))]).run P w=.ok (.value (.bool false)) w)
  (h1:(AP #[27,27] 3 #[.slice (some ⟨b,(i+m),none⟩) (n+m - (i+m)) (cap - (i+m)),.slice (some ⟨b,i,none⟩) (n+m - i) (cap - i)]).run P w.drew=.ok v2 W1)
  (h2:(AP #[27,27] 3 #[.slice (some ⟨b,i,none⟩) (n+m - i) (cap - i),.slice a2 m cap2]).run P W1=.ok v3 W2) :
  Calls P 324 #[.slice (some ⟨b,0,none⟩) n cap,.int .i64 i,.slice a2 m cap2] w fun e w'=>e=.returned (.slice (some ⟨b,0,none⟩) (n+m) cap)∧w'=W2:=by
 have hm0:¬(m=0):=by omega
 have hin0:¬(i=n):=by omega
 have hic:i≤cap:=by omega
 have hw1:Aa.wrap ((i:Int)+(m:Int))=(i:Int)+(m:Int):=by
  simp only[Bh,Bi,AX,if_true];simp;split <;> omega
 have hb1:(0:Int)≤(i:Int)+(m:Int):=by omega
 have hii:i≤n:=by omega
 have htn:((i:Int)+(m:Int)).toNat=i+m:=by omega
 have hb2:¬(cap=i+m):=by omega
 have hb3:(i:Int)≤(n:Int)+(m:Int):=by omega
 have hb4:¬(cap=i):=by omega
 have hle:(i:Int)+(m:Int)≤(n:Int)+(m:Int):=by omega
 go_enter f3k,f3y
 go_upto_region 15 with(simp only[hov])
 go_region_law (refine c3n rfl (.tmp 73) (.tmp 76) 27 27 rfl (by simp[Bl,AQ]) (by simp[Bl,AQ]) _ h1 ?_)
 try simp only[AQ,Ao,A4,A5]
 go_upto_region 16 with fail
 refine AT ?_;refine wl rfl (.slice (some ⟨b,0,none⟩) (n+m) cap) (w1:=W1) (by kernel_rfl) ?_;refine wl rfl (.int .i64 i) (w1:=W1) (by kernel_rfl) ?_;refine b1k f8u hI rfl (.tmp 78) (some (.tmp 79)) none rfl (b:=b) (off:=0) (n:=n+m) (cap:=cap) (l:=i) (h:=n+m) (by kernel_rfl) (.inr (by kernel_rfl)) (.inl ⟨rfl,rfl⟩) (by omega) hroom (.inl (by omega)) (off':=i) (n':=n+m - i) ⟨by simp[hIs],rfl⟩ ?_;refine wl rfl (.slice a2 m cap2) (w1:=W1) (by kernel_rfl) ?_;refine c3k rfl (.tmp 80) (.tmp 81) 27 27 rfl (by kernel_rfl) (by kernel_rfl) _ h2 (Bk ?_)
 try simp only[AQ,Ao,A4,A5]
 go_wp2
 all_goals (go_ret;exact⟨rfl,rfl⟩)
theorem S324(A:Amb)(n:Nat):a6z A P cH 324 s324 (a2x n):=by
 obtain⟨I,hI,hIs⟩:=g2k;refine b7q (fo:=342) (T:=27) (U:=27) (tb:=4) (tab rfl) rfl rfl (by kernel_rfl) (by decide) (z:=(zeroCells tI).getD []) rfl g4o e0b e4o ?_ ?_
 ·intro w W1 W2 W3 b b1 n cap cap1 cap2 i m a2 v2 v3 h1 h2 h3 h4 h5 h6 h7 h8 h9;exact e1k I hI hIs w W1 W2 W3 b b1 n cap cap1 cap2 i m a2 v2 v3 h1 h2 h3 h4 h5 h6 h7 (by simpa[Ty.size] using h8) (by simpa[Ty.size] using h9)
 ·intro w W1 W2 b n cap cap2 i m a2 v2 v3 h1 h2 h3 h4 h5 h6 h7;exact e0h I hI hIs w W1 W2 b n cap cap2 i m a2 v2 v3 h1 h2 h3 h4 (by simpa[Ty.size] using h5) (by simpa[Ty.size] using h6) (by simpa[Ty.size] using h7)
theorem T324(A:Amb)(n:Nat):b5f A P cH (324,⟨s324,a2x n⟩):=⟨f8b,S324 A n⟩
def s299:Sig:=⟨[.val (.sl .own 32 kq3),.val tI,.val tI],[.val (.sl .own 32 kq3)]⟩
def a0u(_n:Nat)(x:(List Dq12)×Int×Int×Unit):Option (Dq23×(Unit)):=delF kq3 x
theorem g1y:DV.ntmps=33:=by kernel_rfl
theorem g0q:P.funcs[299]?=some DV:=by kernel_rfl
theorem f9a:a2o P 299:=a2a (by kernel_rfl)
set_option maxRecDepth 1000000 in
theorem f0e(w:World)(a:Option Addr)(n cap i:Nat)(hin:i≤n)(hn:n≤cap):Calls P 299 #[.slice a n cap,.int .i64 i,.int .i64 i] w fun e w'=>e=.returned (.slice a n cap)∧w'=w:=by
 go_enter g0q,g1y
 go_wp2
 all_goals (go_ret;exact⟨rfl,rfl⟩)
set_option maxRecDepth 1000000 in
theorem e9z(w W1 W2:World)(b n cap i j k:Nat)(hij:i<j)(hjn:j≤n)(hn:n≤cap)(hk:k<n)
  (happ:(A2 #[24,24] 24 #[.slice (some ⟨b,0,none⟩) i cap,.slice (if cap=j then some ⟨b,0,none⟩ else some ⟨b,j*3,none⟩) (n - j) (cap - j)]).run P w.drew=.ok (.slice (some ⟨b,0,none⟩) k cap) W1)
  (hcl:(B3 #[24] 0 #[.slice (some ⟨b,k*3,none⟩) (n - k) (cap - k)]).run P W1=.ok (.tuple #[]) W2) :
  Calls P 299 #[.slice (some ⟨b,0,none⟩) n cap,.int .i64 i,.int .i64 j] w fun e w'=>e=.returned (.slice (some ⟨b,0,none⟩) k cap)∧w'=W2:=by
 go_enter g0q,g1y
 have hic:i≤cap:=by omega
 have hjc:j≤cap:=by omega
 go_upto_region 5 with fail
 go_region_law (refine c6s rfl (.tmp 22) (.tmp 25) 24 24 rfl (by simp[Bl,AQ]) (by simp[Bl,AQ]) _ happ ?_)
 go_upto_region 6 with fail
 have h1:k≤n:=by omega
 have h3:¬(cap=k):=by omega
 refine AT ?_;refine wl rfl (.slice (some ⟨b,0,none⟩) k cap) (w1:=W1) rfl ?_;refine wl rfl (.slice (some ⟨b,0,none⟩) k cap) (w1:=W1) rfl ?_;refine wl rfl (.int .i64 (k:Int)) (w1:=W1) (by go_simp) ?_;refine wl rfl (.int .i64 (n:Int)) (w1:=W1) rfl ?_;refine wl rfl (.slice (some ⟨b,k*3,none⟩) (n - k) (cap - k)) (w1:=W1) (by go_simp) ?_;refine d4g rfl (.tmp 31) 24 rfl (by simp[Bl,AQ]) _ hcl (Bk ?_)
 go_wp2
 all_goals (go_ret;exact⟨rfl,rfl⟩)
theorem S299(A:Amb)(n:Nat):a6z A P cH 299 s299 (a0u n) :=
 b7t (T:=24) (tab rfl) rfl (z:=(zeroCells kq3).getD []) rfl f0e fun w W1 W2 b n cap i j k h1 h2 h3 h4 h5 h6=>e9z w W1 W2 b n cap i j k h1 h2 h3 h4 h5 h6
theorem T299(A:Amb)(n:Nat):b5f A P cH (299,⟨s299,a0u n⟩):=⟨f9a,S299 A n⟩
def s300:Sig:=⟨[.val (.sl .own 8 tI),.val tI,.val tI],[.val (.sl .own 8 tI)]⟩
def a2y(_n:Nat)(x:List Int×Int×Int×Unit):Option (Dq10×(Unit)):=delF tI x
theorem g0e:DW.ntmps=33:=by kernel_rfl
theorem g1f:P.funcs[300]?=some DW:=by kernel_rfl
theorem f7r:a2o P 300:=a2a (by kernel_rfl)
set_option maxRecDepth 1000000 in
theorem e8o(w:World)(a:Option Addr)(n cap i:Nat)(hin:i≤n)(hn:n≤cap):Calls P 300 #[.slice a n cap,.int .i64 i,.int .i64 i] w fun e w'=>e=.returned (.slice a n cap)∧w'=w:=by
 go_enter g1f,g0e
 go_wp2
 all_goals (go_ret;exact⟨rfl,rfl⟩)
set_option maxRecDepth 1000000 in
theorem e9m(w W1 W2:World)(b n cap i j k:Nat)(hij:i<j)(hjn:j≤n)(hn:n≤cap)(hk:k<n)
  (happ:(A2 #[27,27] 27 #[.slice (some ⟨b,0,none⟩) i cap,.slice (if cap=j then some ⟨b,0,none⟩ else some ⟨b,j,none⟩) (n - j) (cap - j)]).run P w.drew=.ok (.slice (some ⟨b,0,none⟩) k cap) W1)
  (hcl:(B3 #[27] 0 #[.slice (some ⟨b,k,none⟩) (n - k) (cap - k)]).run P W1=.ok (.tuple #[]) W2) :
  Calls P 300 #[.slice (some ⟨b,0,none⟩) n cap,.int .i64 i,.int .i64 j] w fun e w'=>e=.returned (.slice (some ⟨b,0,none⟩) k cap)∧w'=W2:=by
 go_enter g1f,g0e
 have hic:i≤cap:=by omega
 have hjc:j≤cap:=by omega
 go_upto_region 5 with fail
 go_region_law (refine c6s rfl (.tmp 22) (.tmp 25) 27 27 rfl (by simp[Bl,AQ]) (by simp[Bl,AQ]) _ happ ?_)
 go_upto_region 6 with fail
 have h1:k≤n:=by omega
 have h3:¬(cap=k):=by omega
 refine AT ?_;refine wl rfl (.slice (some ⟨b,0,none⟩) k cap) (w1:=W1) rfl ?_;refine wl rfl (.slice (some ⟨b,0,none⟩) k cap) (w1:=W1) rfl ?_;refine wl rfl (.int .i64 (k:Int)) (w1:=W1) (by go_simp) ?_;refine wl rfl (.int .i64 (n:Int)) (w1:=W1) rfl ?_;refine wl rfl (.slice (some ⟨b,k,none⟩) (n - k) (cap - k)) (w1:=W1) (by go_simp) ?_;refine d4g rfl (.tmp 31) 27 rfl (by simp[Bl,AQ]) _ hcl (Bk ?_)
 go_wp2
 all_goals (go_ret;exact⟨rfl,rfl⟩)
theorem S300(A:Amb)(n:Nat):a6z A P cH 300 s300 (a2y n) :=
 b7t (T:=27) (tab rfl) rfl (z:=(zeroCells tI).getD []) rfl e8o fun w W1 W2 b n cap i j k h1 h2 h3 h4 h5 h6=>e9m w W1 W2 b n cap i j k h1 h2 h3 h4 (by simpa[Ty.size] using h5) (by simpa[Ty.size] using h6)
theorem T300(A:Amb)(n:Nat):b5f A P cH (300,⟨s300,a2y n⟩):=⟨f7r,S300 A n⟩
def s186:Sig:=⟨[.val kq14],[.val kq24]⟩
def a0o(_n:Nat)(x:(List Dq3)×Unit):Option (Dq22×(Unit)):=some ((x.1,()),())
theorem g2q:DX.ntmps=8:=by kernel_rfl
theorem g1d:P.funcs[186]?=some DX:=by kernel_rfl
theorem f7h:a2o P 186:=a2a (by kernel_rfl)
theorem f9b:P.underlying 62=some (.slice 33):=by kernel_rfl
set_option maxRecDepth 1000000 in
theorem d5f(w:World)(n cap:Nat):Calls P 186 #[.slice none n cap] w fun e w'=>e=.returned (.slice none 0 0)∧w'=w:=by
 go_enter g1d,g2q
 go_wp2
 rw[AY _ _ _ _ _ _ _ _ f9b]
 go_wp2
 go_ret
 exact⟨rfl,rfl⟩
set_option maxRecDepth 1000000 in
theorem d3f(w:World)(ad:Addr)(n cap:Nat)(v':Value)(w':World)(happ:(A2 #[62,62] 62 #[.slice (some ⟨w.heap.size,0,none⟩) 0 0,.slice (some ad) n cap]).run P (w.alloc (.cells #[] 33))=.ok v' w') :
  Calls P 186 #[.slice (some ad) n cap] w fun e w''=>e=.returned v'∧w''=w':=by
 go_enter g1d,g2q
 go_upto_region 3 with fail
 rw[AY _ _ _ _ _ _ _ _ f9b]
 go_upto_region 3 with fail
 refine AT ?_;refine wl rfl (.slice (some ⟨w.heap.size,0,none⟩) 0 0) (w1:=w.alloc (.cells #[] 33)) (by go_simp) ?_;refine wl rfl (.slice (some ad) n cap) (w1:=w.alloc (.cells #[] 33)) rfl ?_;refine a6k rfl (.tmp 5) (.tmp 6) 62 62 rfl rfl rfl v' happ ?_;refine wl rfl v' (w1:=w') rfl (Bk ?_)
 go_wp2
 go_ret
 exact⟨rfl,rfl⟩
theorem S186(A:Amb)(n:Nat):a6z A P cH 186 s186 (a0o n) :=
 b0x (T:=62) (tab rfl) rfl (z:=(zeroCells kq2).getD []) rfl d5f fun w w' el ad n cap v' h1 h2=>by
  rw[f9b] at h1;cases h1;exact d3f w ad n cap v' w' h2
theorem T186(A:Amb)(n:Nat):b5f A P cH (186,⟨s186,a0o n⟩):=⟨f7h,S186 A n⟩
def s301:Sig:=⟨[.val kq24,.val tI,.val tI],[.val kq24]⟩
def a0t(_n:Nat)(x:(List Dq3)×Int×Int×Unit):Option (Dq22×(Unit)):=delF kq2 x
theorem g2j:DY.ntmps=33:=by kernel_rfl
theorem g2a:P.funcs[301]?=some DY:=by kernel_rfl
theorem f9y:a2o P 301:=a2a (by kernel_rfl)
set_option maxRecDepth 1000000 in
theorem e8e(w:World)(a:Option Addr)(n cap i:Nat)(hin:i≤n)(hn:n≤cap):Calls P 301 #[.slice a n cap,.int .i64 i,.int .i64 i] w fun e w'=>e=.returned (.slice a n cap)∧w'=w:=by
 go_enter g2a,g2j
 go_wp2
 all_goals (go_ret;exact⟨rfl,rfl⟩)
set_option maxRecDepth 1000000 in
theorem e7w(w W1 W2:World)(b n cap i j k:Nat)(hij:i<j)(hjn:j≤n)(hn:n≤cap)(hk:k<n)
  (happ:(A2 #[62,62] 62 #[.slice (some ⟨b,0,none⟩) i cap,.slice (if cap=j then some ⟨b,0,none⟩ else some ⟨b,j*3,none⟩) (n - j) (cap - j)]).run P w.drew=.ok (.slice (some ⟨b,0,none⟩) k cap) W1)
  (hcl:(B3 #[62] 0 #[.slice (some ⟨b,k*3,none⟩) (n - k) (cap - k)]).run P W1=.ok (.tuple #[]) W2) :
  Calls P 301 #[.slice (some ⟨b,0,none⟩) n cap,.int .i64 i,.int .i64 j] w fun e w'=>e=.returned (.slice (some ⟨b,0,none⟩) k cap)∧w'=W2:=by
 go_enter g2a,g2j
 have hic:i≤cap:=by omega
 have hjc:j≤cap:=by omega
 go_upto_region 5 with fail
 go_region_law (refine c6s rfl (.tmp 22) (.tmp 25) 62 62 rfl (by simp[Bl,AQ]) (by simp[Bl,AQ]) _ happ ?_)
 go_upto_region 6 with fail
 have h1:k≤n:=by omega
 have h3:¬(cap=k):=by omega
 refine AT ?_;refine wl rfl (.slice (some ⟨b,0,none⟩) k cap) (w1:=W1) rfl ?_;refine wl rfl (.slice (some ⟨b,0,none⟩) k cap) (w1:=W1) rfl ?_;refine wl rfl (.int .i64 (k:Int)) (w1:=W1) (by go_simp) ?_;refine wl rfl (.int .i64 (n:Int)) (w1:=W1) rfl ?_;refine wl rfl (.slice (some ⟨b,k*3,none⟩) (n - k) (cap - k)) (w1:=W1) (by go_simp) ?_;refine d4g rfl (.tmp 31) 62 rfl (by simp[Bl,AQ]) _ hcl (Bk ?_)
 go_wp2
 all_goals (go_ret;exact⟨rfl,rfl⟩)
theorem S301(A:Amb)(n:Nat):a6z A P cH 301 s301 (a0t n) :=
 b7t (T:=62) (tab rfl) rfl (z:=(zeroCells kq2).getD []) rfl e8e fun w W1 W2 b n cap i j k h1 h2 h3 h4 h5 h6=>e7w w W1 W2 b n cap i j k h1 h2 h3 h4 h5 h6
theorem T301(A:Amb)(n:Nat):b5f A P cH (301,⟨s301,a0t n⟩):=⟨f9y,S301 A n⟩
def s325:Sig:=⟨[.val .str,.val tB],[.val tI]⟩
def a4x(_n:Nat)(x:List Int×Int×Unit):Option (Dq13×(Unit)):=ixF x
theorem g2z:DZ.ntmps=8:=by kernel_rfl
theorem g3x:P.funcs[325]?=some DZ:=by kernel_rfl
theorem f9o:a2o P 325:=a2a (by kernel_rfl)
theorem g3d:Ea.ntmps=8:=by kernel_rfl
theorem g3j:P.funcs[344]?=some Ea:=by kernel_rfl
theorem g3m:P.funcs[353]?=some HP:=by kernel_rfl
set_option maxRecDepth 1000000 in
theorem g1o(s:ByteArray)(c:Int)(w:World):Calls P 344 #[.string s,.int .u8 c] w fun e w'=>e=.returned (.int .i64 (D6 s.data.toList c.toNat.toUInt8))∧w'=w:=by
 go_enter g3j,g3d
 go_wp2
 rw[Be g3m (by kernel_rfl) (by kernel_rfl) (by kernel_rfl) (e:=EB) (by kernel_rfl),Lib.run_indexByteString];simp only[Result.andThen];rw[Oper.upon_value]
 go_wp2
 go_ret
 exact⟨rfl,rfl⟩
set_option maxRecDepth 1000000 in
theorem g1g(s:ByteArray)(c:Int)(w:World):Calls P 325 #[.string s,.int .u8 c] w fun e w'=>e=.returned (.int .i64 (D6 s.data.toList c.toNat.toUInt8))∧w'=w:=by
 go_enter g3x,g2z
 go_wp2_with (go_at_call 344;refine(g1o _ _ _).mono ?_;rintro e w' ⟨rfl,rfl⟩)
 go_ret
 exact⟨rfl,rfl⟩
theorem S325(A:Amb)(n:Nat):a6z A P cH 325 s325 (a4x n):=c7m g1g
theorem T325(A:Amb)(n:Nat):b5f A P cH (325,⟨s325,a4x n⟩):=⟨f9o,S325 A n⟩
def s304:Sig:=⟨[.val kq24,.val tI,.val kq14],[.val kq24]⟩
def a0s(_n:Nat)(x:(List Dq3)×Int×(List Dq3)×Unit):Option (Dq22×(Unit)):=insF 32 kq2 x
theorem f5v:Eb.ntmps=95:=by kernel_rfl
theorem f2q:P.funcs[304]?=some Eb:=by kernel_rfl
theorem f8k:a2o P 304:=a2a (by kernel_rfl)
theorem f9c:P.underlying 62=some (.slice 33):=by kernel_rfl
theorem g1u:∃I,P.info? 33=some I∧I.size=3:=by
 obtain⟨i,d,h1,_,h3,_⟩:=((tab (C:=cH) rfl) 33 _ rfl).ex;exact⟨i,h1,h3⟩
theorem g3p:P.funcs[326]?=some HQ:=by kernel_rfl
theorem g3u(x y:Value)(w w':World)(b:Bool)(h:(Ba #[61,61] #[4] #[x,y]).run P w=.ok (.bool b) w'):(callFunc 326 #[x,y]).run P w=.ok (.value (.bool b)) w':=by
 rw[Be g3p (by kernel_rfl) (by kernel_rfl) (by kernel_rfl) (e:=Ba #[61,61] #[4]) (by kernel_rfl),h];rfl
set_option maxRecDepth 1000000 in
theorem e0w(w:World)(a a2:Option Addr)(n cap cap2 i:Nat)(hin:i≤n)(hn:n≤cap):Calls P 304 #[.slice a n cap,.int .i64 i,.slice a2 0 cap2] w fun e w'=>e=.returned (.slice a n cap)∧w'=w:=by
 go_enter f2q,f5v
 go_wp2
 all_goals (go_ret;exact⟨rfl,rfl⟩)
set_option maxRecDepth 1000000 in
theorem e6b(w W1:World)(a a2:Option Addr)(n cap cap2 m:Nat)(v':Value)(hn:n≤cap)(hm:0<m)(happ:(A2 #[62,61] 62 #[.slice a n cap,.slice a2 m cap2]).run P w=.ok v' W1) :
  Calls P 304 #[.slice a n cap,.int .i64 n,.slice a2 m cap2] w fun e w'=>e=.returned v'∧w'=W1:=by
 have hm0:¬(m=0):=by omega
 go_enter f2q,f5v
 go_upto_region 7 with fail
 refine AT ?_;refine wl rfl (.slice a n cap) (w1:=w) rfl ?_;refine wl rfl (.slice a2 m cap2) (w1:=w) rfl ?_;refine a6k rfl (.tmp 23) (.tmp 24) 62 61 rfl (by simp[Bl,AQ]) (by simp[Bl,AQ]) _ happ ?_;refine wl rfl v' (w1:=W1) rfl (Bk ?_)
 go_wp2
 all_goals (go_ret;exact⟨rfl,rfl⟩)
set_option maxRecDepth 1000000 in
theorem d9z(I:TypeInfo)(hI:P.info? 33=some I)(hIs:I.size=3)(w W1 W2 W3:World)(b b1 n cap cap1 cap2 i m:Nat)(a2:Option Addr)(v2 v3:Value)(hin:i<n)(hn:n≤cap)(hm:0<m)(hcap:cap<n+m)(hr:n+m≤140737488355328)(hc1:n+m≤cap1)
  (h1:(A2 #[62,3] 62 #[.slice (some ⟨b,0,none⟩) i cap,.int .i64 ((n+m - i:Nat):Int)]).run P w=.ok (.slice (some ⟨b1,0,none⟩) (n+m) cap1) W1)
  (h2:(AP #[62,61] 3 #[.slice (some ⟨b1,i*3,none⟩) (n+m - i) (cap1 - i),.slice a2 m cap2]).run P W1=.ok v2 W2)
  (h3:(AP #[62,62] 3 #[.slice (some ⟨b1,(i+m)*3,none⟩) (n+m - (i+m)) (cap1 - (i+m)),.slice (some ⟨b,i*3,none⟩) (n - i) (cap - i)]).run P W2.drew=.ok v3 W3) :
  Calls P 304 #[.slice (some ⟨b,0,none⟩) n cap,.int .i64 i,.slice a2 m cap2] w fun e w'=>e=.returned (.slice (some ⟨b1,0,none⟩) (n+m) cap1)∧w'=W3:=by
 have hm0:¬(m=0):=by omega
 have hin0:¬(i=n):=by omega
 have hic:i≤cap:=by omega
 go_enter f2q,f5v
 go_upto_region 9 with fail
 ·refine AT ?_;refine wl rfl (.slice (some ⟨b,0,none⟩) n cap) (w1:=w) (by kernel_rfl) ?_;refine wl rfl (.int .i64 i) (w1:=w) (by kernel_rfl) ?_;refine b1k f9c hI rfl (.tmp 32) none (some (.tmp 33)) rfl (b:=b) (off:=0) (n:=n) (cap:=cap) (l:=0) (h:=i) (by kernel_rfl) (.inl ⟨rfl,rfl⟩) (.inr (by kernel_rfl)) (A8 _) hic (.inr rfl) (off':=0) (n':=i) ⟨by simp,rfl⟩ ?_;refine wl rfl (.int .i64 n) (w1:=w) (by kernel_rfl) ?_;refine wl rfl (.int .i64 m) (w1:=w) (by kernel_rfl) ?_;refine f0r rfl (.tmp 35) (.tmp 36) 3 3 rfl (p:=n) (q:=m) ((n+m:Nat):Int) (by kernel_rfl) (by kernel_rfl) (by omega) ?_;refine wl rfl (.int .i64 i) (w1:=w) (by kernel_rfl) ?_;refine f1d rfl (.tmp 37) (.tmp 38) 3 3 rfl (p:=((n+m:Nat):Int)) (q:=i) ((n+m - i:Nat):Int) (by kernel_rfl) (by kernel_rfl) (by omega) ?_;refine a6k rfl (.tmp 34) (.tmp 39) 62 3 rfl (by kernel_rfl) (by kernel_rfl) _ h1 ?_;refine wl rfl (.slice (some ⟨b1,0,none⟩) (n+m) cap1) (w1:=W1) (by kernel_rfl) (Bk ?_)
  try simp only[AQ,Ao,A4,A5]
  go_upto_region 10 with fail
  refine AT ?_;refine wl rfl (.slice (some ⟨b1,0,none⟩) (n+m) cap1) (w1:=W1) (by kernel_rfl) ?_;refine wl rfl (.int .i64 i) (w1:=W1) (by kernel_rfl) ?_;refine b1k f9c hI rfl (.tmp 41) (some (.tmp 42)) none rfl (b:=b1) (off:=0) (n:=n+m) (cap:=cap1) (l:=i) (h:=n+m) (by kernel_rfl) (.inr (by kernel_rfl)) (.inl ⟨rfl,rfl⟩) (by omega) hc1 (.inl (by omega)) (off':=i*3) (n':=n+m - i) ⟨by simp[hIs],rfl⟩ ?_;refine wl rfl (.slice a2 m cap2) (w1:=W1) (by kernel_rfl) ?_;refine c3k rfl (.tmp 43) (.tmp 44) 62 61 rfl (by kernel_rfl) (by kernel_rfl) _ h2 (Bk ?_)
  try simp only[AQ,Ao,A4,A5]
  go_upto_region 11 with fail
  have hic1:i+m≤cap1:=by omega
  have hic2:¬(cap1=i+m):=by omega
  have hic3:i+m≤n+m:=by omega
  have hic4:¬(cap=i):=by omega
  have hii:i≤n:=by omega
  have hw:Aa.wrap ((i:Int)+(m:Int))=(i:Int)+(m:Int):=by
   simp only[Bh,Bi,AX,if_true];simp;split <;> omega
  have ht:((i:Int)+(m:Int)).toNat=i+m:=by omega
  have hle:(i:Int)+(m:Int)≤(n:Int)+(m:Int):=by omega
  have hle0:0≤(i:Int)+(m:Int):=by omega
  go_region_law (refine c3n rfl (.tmp 50) (.tmp 53) 62 62 rfl (by simp[Bl,AQ]) (by simp[Bl,AQ]) _ h3 ?_)
  try simp only[AQ,Ao,A4,A5]
  go_wp2
  all_goals (go_ret;exact⟨rfl,rfl⟩)
 all_goals (exfalso;omega)
set_option maxRecDepth 1000000 in
theorem e0i(I:TypeInfo)(hI:P.info? 33=some I)(hIs:I.size=3)(w W1 W2:World)(b n cap cap2 i m:Nat)(a2:Option Addr)(v2 v3:Value)(hin:i<n)(hm:0<m)(hroom:n+m≤cap)(hr:n+m≤140737488355328)
  (hov:(callFunc 326 #[.slice a2 m cap2,.slice (some ⟨b,(i+m)*3,none⟩) (n+m - (i+m)) (cap - (i+m))]).run P w=.ok (.value (.bool false)) w)
  (h1:(AP #[62,62] 3 #[.slice (some ⟨b,(i+m)*3,none⟩) (n+m - (i+m)) (cap - (i+m)),.slice (some ⟨b,i*3,none⟩) (n+m - i) (cap - i)]).run P w.drew=.ok v2 W1)
  (h2:(AP #[62,61] 3 #[.slice (some ⟨b,i*3,none⟩) (n+m - i) (cap - i),.slice a2 m cap2]).run P W1=.ok v3 W2) :
  Calls P 304 #[.slice (some ⟨b,0,none⟩) n cap,.int .i64 i,.slice a2 m cap2] w fun e w'=>e=.returned (.slice (some ⟨b,0,none⟩) (n+m) cap)∧w'=W2:=by
 have hm0:¬(m=0):=by omega
 have hin0:¬(i=n):=by omega
 have hic:i≤cap:=by omega
 have hw1:Aa.wrap ((i:Int)+(m:Int))=(i:Int)+(m:Int):=by
  simp only[Bh,Bi,AX,if_true];simp;split <;> omega
 have hb1:(0:Int)≤(i:Int)+(m:Int):=by omega
 have hii:i≤n:=by omega
 have htn:((i:Int)+(m:Int)).toNat=i+m:=by omega
 have hb2:¬(cap=i+m):=by omega
 have hb3:(i:Int)≤(n:Int)+(m:Int):=by omega
 have hb4:¬(cap=i):=by omega
 have hle:(i:Int)+(m:Int)≤(n:Int)+(m:Int):=by omega
 go_enter f2q,f5v
 go_upto_region 15 with(simp only[hov])
 go_region_law (refine c3n rfl (.tmp 73) (.tmp 76) 62 62 rfl (by simp[Bl,AQ]) (by simp[Bl,AQ]) _ h1 ?_)
 try simp only[AQ,Ao,A4,A5]
 go_upto_region 16 with fail
 refine AT ?_;refine wl rfl (.slice (some ⟨b,0,none⟩) (n+m) cap) (w1:=W1) (by kernel_rfl) ?_;refine wl rfl (.int .i64 i) (w1:=W1) (by kernel_rfl) ?_;refine b1k f9c hI rfl (.tmp 78) (some (.tmp 79)) none rfl (b:=b) (off:=0) (n:=n+m) (cap:=cap) (l:=i) (h:=n+m) (by kernel_rfl) (.inr (by kernel_rfl)) (.inl ⟨rfl,rfl⟩) (by omega) hroom (.inl (by omega)) (off':=i*3) (n':=n+m - i) ⟨by simp[hIs],rfl⟩ ?_;refine wl rfl (.slice a2 m cap2) (w1:=W1) (by kernel_rfl) ?_;refine c3k rfl (.tmp 80) (.tmp 81) 62 61 rfl (by kernel_rfl) (by kernel_rfl) _ h2 (Bk ?_)
 try simp only[AQ,Ao,A4,A5]
 go_wp2
 all_goals (go_ret;exact⟨rfl,rfl⟩)
theorem S304(A:Amb)(n:Nat):a6z A P cH 304 s304 (a0s n):=by
 obtain⟨I,hI,hIs⟩:=g1u;refine b7q (fo:=326) (T:=62) (U:=61) (tb:=4) (tab rfl) rfl rfl (by kernel_rfl) (by decide) (z:=(zeroCells kq2).getD []) rfl g3u e0w e6b ?_ ?_
 ·intro w W1 W2 W3 b b1 n cap cap1 cap2 i m a2 v2 v3 h1 h2 h3 h4 h5 h6 h7 h8 h9;exact d9z I hI hIs w W1 W2 W3 b b1 n cap cap1 cap2 i m a2 v2 v3 h1 h2 h3 h4 h5 h6 h7 h8 h9
 ·intro w W1 W2 b n cap cap2 i m a2 v2 v3 h1 h2 h3 h4 h5 h6 h7;exact e0i I hI hIs w W1 W2 b n cap cap2 i m a2 v2 v3 h1 h2 h3 h4 h5 h6 h7
theorem T304(A:Amb)(n:Nat):b5f A P cH (304,⟨s304,a0s n⟩):=⟨f8k,S304 A n⟩
def s111:Sig:=⟨[.val kq20],[.val kq21]⟩
def a0w(_n:Nat)(x:(List Dq4)×Unit):Option (Dq19×(Unit)):=some ((x.1,()),())
theorem g0p:Ec.ntmps=8:=by kernel_rfl
theorem g1s:P.funcs[111]?=some Ec:=by kernel_rfl
theorem f7z:a2o P 111:=a2a (by kernel_rfl)
theorem f7g:P.underlying 31=some (.slice 64):=by kernel_rfl
set_option maxRecDepth 1000000 in
theorem d8m(w:World)(n cap:Nat):Calls P 111 #[.slice none n cap] w fun e w'=>e=.returned (.slice none 0 0)∧w'=w:=by
 go_enter g1s,g0p
 go_wp2
 rw[AY _ _ _ _ _ _ _ _ f7g]
 go_wp2
 go_ret
 exact⟨rfl,rfl⟩
set_option maxRecDepth 1000000 in
theorem d3a(w:World)(ad:Addr)(n cap:Nat)(v':Value)(w':World)(happ:(A2 #[31,31] 31 #[.slice (some ⟨w.heap.size,0,none⟩) 0 0,.slice (some ad) n cap]).run P (w.alloc (.cells #[] 64))=.ok v' w') :
  Calls P 111 #[.slice (some ad) n cap] w fun e w''=>e=.returned v'∧w''=w':=by
 go_enter g1s,g0p
 go_upto_region 3 with fail
 rw[AY _ _ _ _ _ _ _ _ f7g]
 go_upto_region 3 with fail
 refine AT ?_;refine wl rfl (.slice (some ⟨w.heap.size,0,none⟩) 0 0) (w1:=w.alloc (.cells #[] 64)) (by go_simp) ?_;refine wl rfl (.slice (some ad) n cap) (w1:=w.alloc (.cells #[] 64)) rfl ?_;refine a6k rfl (.tmp 5) (.tmp 6) 31 31 rfl rfl rfl v' happ ?_;refine wl rfl v' (w1:=w') rfl (Bk ?_)
 go_wp2
 go_ret
 exact⟨rfl,rfl⟩
theorem S111(A:Amb)(n:Nat):a6z A P cH 111 s111 (a0w n) :=
 b0x (T:=31) (tab rfl) rfl (z:=(zeroCells kq4).getD []) rfl d8m fun w w' el ad n cap v' h1 h2=>by
  rw[f7g] at h1;cases h1;exact d3a w ad n cap v' w' h2
theorem T111(A:Amb)(n:Nat):b5f A P cH (111,⟨s111,a0w n⟩):=⟨f7z,S111 A n⟩
def s70:Sig:=⟨[.val kq19],[.val (.sl .own 1 tB)]⟩
def a2k(_n:Nat)(x:List Int×Unit):Option (Dq10×(Unit)):=some ((x.1,()),())
theorem nt70:Ep.ntmps=8:=by kernel_rfl
theorem fn70:P.funcs[70]?=some Ep:=by kernel_rfl
theorem g0c:a2o P 70:=a2a (by kernel_rfl)
theorem uT70:P.underlying 22=some (.slice 5):=by kernel_rfl
set_option maxRecDepth 1000000 in
theorem e1o(w:World)(n cap:Nat):Calls P 70 #[.slice none n cap] w fun e w'=>e=.returned (.slice none 0 0)∧w'=w:=by
 go_enter fn70,nt70
 go_wp2
 rw[AY _ _ _ _ _ _ _ _ uT70]
 go_wp2
 go_ret
 exact⟨rfl,rfl⟩
set_option maxRecDepth 1000000 in
theorem d5i(w:World)(ad:Addr)(n cap:Nat)(v':Value)(w':World)(happ:(A2 #[22,22] 22 #[.slice (some ⟨w.heap.size,0,none⟩) 0 0,.slice (some ad) n cap]).run P (w.alloc (.cells #[] 5))=.ok v' w') :
  Calls P 70 #[.slice (some ad) n cap] w fun e w''=>e=.returned v'∧w''=w':=by
 go_enter fn70,nt70
 go_upto_region 3 with fail
 rw[AY _ _ _ _ _ _ _ _ uT70]
 go_upto_region 3 with fail
 refine AT ?_;refine wl rfl (.slice (some ⟨w.heap.size,0,none⟩) 0 0) (w1:=w.alloc (.cells #[] 5)) (by go_simp) ?_;refine wl rfl (.slice (some ad) n cap) (w1:=w.alloc (.cells #[] 5)) rfl ?_;refine a6k rfl (.tmp 5) (.tmp 6) 22 22 rfl rfl rfl v' happ ?_;refine wl rfl v' (w1:=w') rfl (Bk ?_)
 go_wp2
 go_ret
 exact⟨rfl,rfl⟩
theorem S70(A:Amb)(n:Nat):a6z A P cH 70 s70 (a2k n) :=
 b0x (T:=22) (tab rfl) rfl (z:=(zeroCells tB).getD []) rfl e1o fun w w' el ad n cap v' h1 h2=>by
  rw[uT70] at h1;cases h1;exact d5i w ad n cap v' w' h2
theorem T70(A:Amb)(n:Nat):b5f A P cH (70,⟨s70,a2k n⟩):=⟨g0c,S70 A n⟩
end Go.Rb.R7
