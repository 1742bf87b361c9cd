/- Rb: the translator's functions hand on whatever their continuation makes. Own work. -/
import Derived.Test.YthkgkalebkbndaaGreatDoorRbA
import Derived.Test.YthkgkalebkbndaaGreatDoorRbC
set_option autoImplicit false
set_option linter.unusedVariables false
set_option linter.unusedSimpArgs false
open And renaming left->GO
open Array renaming all_eq_true'->FM,getD_eq_getD_getElem?->Bt,getElem?_eq_none->Bc,getElem?_toList->Cp
open Bool renaming and_eq_true->Af,not_eq_true'->A8
open Go.Region renaming binds->Dw,ready->Fg,wanted->Cg
open Go.Region.Mode renaming any->Fp,gc->Jw,text->Jv
open HEq renaming rfl->DA
open List renaming all_eq_true->AK,filterMap_cons->CZ,mem_append_left->Aw,mem_append_right->Au,mem_cons->Az,mem_cons_of_mem->Ar,mem_cons_self->C9,mem_filter->Ck,mem_filterMap->FX,mem_map->Bu,mem_range->Bz,mem_reverse->CI
open Nat renaming beq->AF,le_of_lt->Eb,le_refl->Av,le_total->Jd,lt_or_ge->AY,lt_succ_iff_lt_or_eq->Ds,ne_of_lt->DC,zero_le->BF
open Option renaming getD_some->DW,map_some->C2
open Option.some renaming inj->Ai,injEq->Ad
open Prod.mk renaming injEq->Ak
namespace Go.Rb
variable {R R':Type} {Φ:Option R→Option R'→Prop}
theorem a8b(h0:Φ none none){a b:Ty}{x:a.den}{k:b.den→Option R}{k':b.den→Option R'}(hk:∀y,Φ (k y) (k' y)):Φ (b0f a b x k) (b0f a b x k'):=by
 unfold b0f
 repeat' split
 all_goals first|exact h0|exact hk _
theorem d3b(h0:Φ none none){a b:Ty}{x:a.den}{k:b.den→Option R}{k':b.den→Option R'}(hk:∀y,Φ (k y) (k' y)):Φ (e5y a b x k) (e5y a b x k'):=by
 unfold e5y;split
 ·exact hk _
 ·exact hk _
 ·rename_i hne1 hne2;split
  ·exact(hne1 _ _ rfl DA rfl DA).elim
  ·exact(hne2 _ _ rfl DA rfl DA).elim
  ·exact a8b h0 hk
theorem b4y(h0:Φ none none){a b:Ty}{x:a.den}{k:b.den→Option R}{k':b.den→Option R'}(hk:∀y,Φ (k y) (k' y)):Φ (d0d a b x k) (d0d a b x k'):=by
 unfold d0d
 repeat' split
 all_goals first|exact h0|exact hk _
theorem c3g(h0:Φ none none):∀{t:Ty} {x:t.den} {i:Nat} {k:(t':Ty)→t'.den→Option R} {k':(t':Ty)→t'.den→Option R'},(∀t y,Φ (k t y) (k' t y))→Φ (comp t x i k) (comp t x i k'):=by
 intro t
 induction t with
 |pair a b iha ihb =>
  intro x i k k' hk;cases i with
  |zero=>exact hk _ _
  |succ i=>exact ihb hk
 |_=>intro x i k k' hk;exact h0
theorem b0t(h0:Φ none none):∀{p:List Stp} {t:Ty} {x:t.den} {k:(t':Ty)→t'.den→Option R} {k':(t':Ty)→t'.den→Option R'},(∀t y,Φ (k t y) (k' t y))→Φ (b3q p t x k) (b3q p t x k')
 |[],t,x,k,k',hk=>hk _ _
 |.f i::p,t,x,k,k',hk=>by
  cases t <;> first|exact h0|exact c3g h0 fun _ _=>b0t (p:=p) h0 hk
 |.a j::p,t,x,k,k',hk=>by
  cases t <;> first|exact h0|exact b0t (p:=p) h0 hk
theorem b0u(h0:Φ none none){p:Pl}{t:Ty}{x:t.den}{k:(t':Ty)→t'.den→Option R}{k':(t':Ty)→t'.den→Option R'}(hk:∀t y,Φ (k t y) (k' t y)):Φ (a3w p t x k) (a3w p t x k'):=by
 unfold a3w;refine b0t h0 fun t y=>?_
 repeat' split
 all_goals first|exact h0|exact hk _ _|exact b0t h0 hk
theorem e6w(h0:Φ none none):∀{t:Ty} {x:t.den} {i:Nat} {t2:Ty} {y:t2.den} {k:(t':Ty)→t'.den→Option R} {k':(t':Ty)→t'.den→Option R'},(∀t y,Φ (k t y) (k' t y))→Φ (f4n t x i t2 y k) (f4n t x i t2 y k'):=by
 intro t
 induction t with
 |pair a b iha ihb =>
  intro x i t2 y k k' hk;cases i with
  |zero=>exact hk _ _
  |succ i=>exact ihb fun _ _=>hk _ _
 |_=>intro x i t2 y k k' hk;exact h0
theorem b2b(h0:Φ none none):∀{p:List Stp} {t:Ty} {x:t.den} {t2:Ty} {y:t2.den} {k:(t':Ty)→t'.den→Option R} {k':(t':Ty)→t'.den→Option R'},(∀t y,Φ (k t y) (k' t y))→Φ (b7z p t x t2 y k) (b7z p t x t2 y k')
 |[],t,x,t2,y,k,k',hk=>hk _ _
 |.f i::p,t,x,t2,y,k,k',hk=>by
  cases t <;> first|exact h0|exact c3g h0 fun _ _=>b2b (p:=p) h0 fun _ _=>e6w h0 fun _ _=>hk _ _
 |.a j::p,t,x,t2,y,k,k',hk=>by
  cases t <;> first|exact h0|exact b2b (p:=p) h0 fun _ _=>b4y h0 fun _=>hk _ _
theorem e3f(h0:Φ none none){t2:Ty}{y:t2.den}{p:Pl}{t:Ty}{x:t.den}{k:(t':Ty)→t'.den→Option R}{k':(t':Ty)→t'.den→Option R'}(hk:∀t y,Φ (k t y) (k' t y)):Φ (c5g t2 y p t x k) (c5g t2 y p t x k'):=by
 unfold c5g;refine b0t h0 fun t y=>?_
 split
 ·split
  ·exact b2b h0 hk
  ·exact h0
 ·split
  ·refine b0t h0 fun _ _=>?_
   split
   ·exact b2b h0 fun _ _=>b4y h0 fun _=>b2b h0 hk
   ·exact h0
  ·split
   ·refine b4y h0 fun _=>?_
    split
    ·exact b2b h0 hk
    ·exact h0
   ·exact h0
  ·exact h0
theorem d7q(h0:Φ none none){p:Pl}{t:Ty}{x:t.den}{k:(t':Ty)→t'.den→Option R}{k':(t':Ty)→t'.den→Option R'}(hk:∀t y,Φ (k t y) (k' t y)):Φ (b9w p t x k) (b9w p t x k'):=by
 unfold b9w;refine b0t h0 fun t y=>?_
 repeat' split
 all_goals first|exact h0|exact b2b h0 hk
theorem b3d(h0:Φ none none){r:Nat→Ent}{p:Pl}{v c:Nat}{k:(t':Ty)→t'.den→Option R}{k':(t':Ty)→t'.den→Option R'}(hk:∀t y,Φ (k t y) (k' t y)):Φ (c6j r p v c k) (c6j r p v c k'):=by
 unfold c6j
 repeat' split
 all_goals first|exact h0|exact hk _ _
theorem f8m(h0:Φ none none){c:Value}{k:(t':Ty)→t'.den→Option R}{k':(t':Ty)→t'.den→Option R'}(hk:∀t y,Φ (k t y) (k' t y)):Φ (lit c k) (lit c k'):=by
 unfold lit
 repeat' split
 all_goals first|exact h0|exact hk _ _
theorem a2k(h0:Φ none none){r:Nat→Ent}{o:Operand}{k:(t':Ty)→t'.den→Org→Option R}{k':(t':Ty)→t'.den→Org→Option R'}(hk:∀t y g,Φ (k t y g) (k' t y g)):Φ (view r o k) (view r o k'):=by
 unfold view;split
 ·exact f8m h0 fun _ _=>hk _ _ _
 ·split
  ·exact hk _ _ _
  ·exact b3d h0 fun _ _=>b0u h0 fun _ _=>hk _ _ _
  ·exact hk _ _ _
  ·exact hk _ _ _
  ·exact h0
 ·exact h0
theorem d1d(h0:Φ none none){r:Nat→Ent}{p:Pl}{b:Bump}{t:Ty}{x:t.den}{k:List Up→Option R}{k':List Up→Option R'}(hk:∀us,Φ (k us) (k' us)):Φ (putK r p b t x k) (putK r p b t x k'):=by
 unfold putK;split
 ·exact e3f h0 fun _ _=>hk _
 ·exact e3f h0 fun _ _=>hk _
 ·exact h0
theorem g1m(h0:Φ none none){r:Nat→Ent}{t:Ty}{x:t.den}{o:Org}{k:List Up→Option R}{k':List Up→Option R'}(hk:∀us,Φ (k us) (k' us)):Φ (frzK r t x o k) (frzK r t x o k'):=by
 unfold frzK;split
 ·exact hk _
 ·refine a8b h0 fun _=>?_
  split
  ·exact hk _
  ·exact d1d h0 hk
  ·exact h0
theorem c0w(h0:Φ none none){r:Nat→Ent}{o:Org}{k:List Up→Option R}{k':List Up→Option R'}(hk:∀us,Φ (k us) (k' us)):Φ (c8s r o k) (c8s r o k'):=by
 unfold c8s;split
 ·exact hk _
 ·split
  ·exact d7q h0 fun _ _=>hk _
  ·exact d7q h0 fun _ _=>hk _
  ·exact h0
 ·exact h0
theorem f6g(h0:Φ none none){C:Ctx}{f:Nat}{t:Ty}{k:t.den→Option R}{k':t.den→Option R'}(hk:∀y,Φ (k y) (k' y)):Φ (f4q C f t k) (f4q C f t k'):=by
 unfold f4q;split
 ·split
  ·exact a8b h0 hk
  ·exact h0
 ·split
  ·exact a8b h0 hk
  ·exact h0
 ·exact h0
theorem f7x(h0:Φ none none){C:Ctx}{f:Nat}{t:Ty}{k:t.den→Option R}{k':t.den→Option R'}(hk:∀y,Φ (k y) (k' y)):Φ (fnT C f t k) (fnT C f t k'):=by
 unfold fnT;split
 ·split
  ·exact hk _
  ·exact h0
 ·rename_i hne;split
  ·exact(hne _ _ rfl DA).elim
  ·exact f6g h0 hk
theorem g2m(h0:Φ none none){r:Nat→Ent}{p:Pl}{v c:Nat}{lo hi:Int}{t:Ty}{k:t.den→List Up→Option R}{k':t.den→List Up→Option R'}(hk:∀y us,Φ (k y us) (k' y us)):Φ (subT r p v c lo hi t k) (subT r p v c lo hi t k'):=by
 unfold subT;split
 ·refine b3d h0 fun _ _=>b0u h0 fun _ _=>?_
  split
  ·exact c0w h0 fun _=>a8b h0 fun _=>hk _ _
  ·exact h0
 ·exact h0
theorem d0y(h0:Φ none none){C:Ctx}{r:Nat→Ent}{o:Operand}{t:Ty}{k:t.den→List Up→Option R}{k':t.den→List Up→Option R'}(hk:∀y us,Φ (k y us) (k' y us)):Φ (asT0 C r o t k) (asT0 C r o t k'):=by
 have hgo:Φ (asT0.go r o t k) (asT0.go r o t k'):=by
  unfold asT0.go;refine a2k h0 fun _ _ _=>d3b h0 fun _=>?_
  split
  ·exact c0w h0 fun _=>hk _ _
  ·exact g1m h0 fun _=>hk _ _
 unfold asT0;split
 ·exact f7x h0 fun _=>hk _ _
 ·cases t <;> first|exact h0|exact hk _ _
 ·split
  ·cases t <;> first|exact h0|exact hk _ _
  ·exact f7x h0 fun _=>hk _ _
  ·exact g2m h0 hk
  ·exact hgo
 ·exact hgo
theorem b8y(h0:Φ none none){C:Ctx}{r:Nat→Ent}{o:Operand}{t:Ty}{k:t.den→List Up→Option R}{k':t.den→List Up→Option R'}(hk:∀y us,Φ (k y us) (k' y us)):Φ (asT C r o t k) (asT C r o t k'):=by
 by_cases h1:t=.lf .nil0
 ·subst h1;unfold asT;dsimp only;split
  ·exact hk _ _
  ·exact d0y h0 hk
 by_cases h2:t=.lf .nlb
 ·subst h2;unfold asT;dsimp only;split
  ·exact hk _ _
  ·exact d0y h0 hk
  ·refine d0y h0 fun y us=>?_
   split
   ·exact h0
   ·exact hk _ _
 ·have e:∀{R:Type} (k:t.den→List Up→Option R),asT C r o t k=asT0 C r o t k:=by
   intro R k;unfold asT;split
   ·exact absurd rfl h1
   ·exact absurd rfl h2
   ·rfl
  rw[e,e];exact d0y h0 hk
end Go.Rb

namespace Go.Rb
variable {R R':Type} {Φ:Option R→Option R'→Prop}
theorem d9q(h0:Φ none none){α:Type}{x:Option α}{k:α→Option R}{k':α→Option R'}(hk:∀y,Φ (k y) (k' y)):Φ (x.bind k) (x.bind k'):=by
 cases x with
 |none=>exact h0
 |some y=>exact hk y
theorem a4t{dst:Option Nat}{s:SV}{us:List Up}{k:List Up→Option R}{k':List Up→Option R'}(hk:∀us,Φ (k us) (k' us)):Φ (fin dst s us k) (fin dst s us k'):=by
 unfold fin;split <;> exact hk _
theorem b8k(h0:Φ none none){C:Ctx}{r:Nat→Ent}{o:Operand}{kp:(t:Ty)→t.den→Option R}{kp':(t:Ty)→t.den→Option R'}{kl:Pl→Nat→Nat→(t:Ty)→t.den→Option R}{kl':Pl→Nat→Nat→(t:Ty)→t.den→Option R'}
  (hp:∀t y,Φ (kp t y) (kp' t y)) (hl:∀p v c t y,Φ (kl p v c t y) (kl' p v c t y)):Φ (locK C r o kp kl) (locK C r o kp' kl'):=by
 unfold locK;split
 ·split
  ·exact hp _ _
  ·exact h0
 ·split
  ·exact hp _ _
  ·exact hl _ _ _ _ _
  ·split
   ·split
    ·exact b0u h0 fun _ _=>hl _ _ _ _ _
    ·exact b0u h0 fun _ _=>hl _ _ _ _ _
    ·exact h0
   ·exact h0
  ·exact h0
 ·exact h0
theorem f7j(h0:Φ none none){op:BinOp}{kd:IntKind}{x y:Int}{k:(t:Ty)→t.den→Option R}{k':(t:Ty)→t.den→Option R'}(hk:∀t y,Φ (k t y) (k' t y)):Φ (f4h op kd x y k) (f4h op kd x y k'):=by
 cases op <;> unfold f4h <;> dsimp only <;> first|exact hk _ _|(split <;> first|exact h0|exact hk _ _)
theorem f5i(h0:Φ none none){op:BinOp}{x y:List Int}{k:(t:Ty)→t.den→Option R}{k':(t:Ty)→t.den→Option R'}(hk:∀t y,Φ (k t y) (k' t y)):Φ (f2y op x y k) (f2y op x y k'):=by
 cases op <;> unfold f2y <;> dsimp only <;> first|exact h0|exact hk _ _|(split <;> first|exact h0|exact hk _ _)
theorem g1t(h0:Φ none none){C:Ctx}{op:BinOp}{T:Nat}{con:Bool}{t:Ty}{x:t.den}{t':Ty}{y:t'.den}{k:(t:Ty)→t.den→Option R}{k':(t:Ty)→t.den→Option R'}(hk:∀t y,Φ (k t y) (k' t y)) :
  Φ (binK C op T con t x t' y k) (binK C op T con t x t' y k'):=by
 unfold binK;split
 ·split
  ·exact f7j h0 hk
  ·exact h0
 ·exact f5i h0 hk
 ·split
  ·split <;> first|exact h0|exact hk _ _
  ·exact h0
 ·split
  ·split <;> first|exact h0|exact hk _ _
  ·exact h0
 ·split
  ·split
   ·refine b4y h0 fun _=>?_
    split
    ·split <;> first|exact h0|exact hk _ _
    ·exact h0
   ·exact h0
  ·exact h0
 ·exact h0
theorem g4x(h0:Φ none none){op:UnOp}{t:Ty}{x:t.den}{k:(t:Ty)→t.den→Option R}{k':(t:Ty)→t.den→Option R'}(hk:∀t y,Φ (k t y) (k' t y)):Φ (unK op t x k) (unK op t x k'):=by
 unfold unK;split <;> first|exact h0|exact hk _ _
theorem d1e(h0:Φ none none){C:Ctx}{r:Nat→Ent}{o:Operand}{want:Option Ty}{k:(t:Ty)→t.den→List Up→Option R}{k':(t:Ty)→t.den→List Up→Option R'}(hk:∀t y us,Φ (k t y us) (k' t y us)):Φ (anyT C r o want k) (anyT C r o want k'):=by
 have hgo:Φ (anyT.go r o k) (anyT.go r o k'):=by
  unfold anyT.go;refine a2k h0 fun _ _ _=>?_
  split
  ·exact hk _ _ _
  ·exact c0w h0 fun _=>hk _ _ _
 unfold anyT;split
 ·split <;> first|exact h0|exact hk _ _ _
 ·split
  ·split <;> first|exact h0|exact hk _ _ _
  ·exact hgo
 ·exact hgo
theorem d7j(h0:Φ none none){C:Ctx}:∀{ps:List (Nat×Operand)} {r:Nat→Ent} {us:List Up} {t:Ty} {x:t.den} {k:(t:Ty)→t.den→List Up→Option R} {k':(t:Ty)→t.den→List Up→Option R'},(∀t y us,Φ (k t y us) (k' t y us))→Φ (d1u C ps r us t x k) (d1u C ps r us t x k')
 |[],r,us,t,x,k,k',hk=>hk _ _ _
 |(i,o)::ps,r,us,t,x,k,k',hk=>by
  unfold d1u;refine d1e h0 fun _ _ _=>c3g h0 fun _ _=>?_
  split
  ·exact e6w h0 fun _ _=>d7j (ps:=ps) h0 hk
  ·exact h0
theorem d7u(h0:Φ none none){C:Ctx}{te:Ty}{n:Nat}:∀{ps:List (Nat×Operand)} {r:Nat→Ent} {us:List Up} {l:List te.den} {k:List te.den→List Up→Option R} {k':List te.den→List Up→Option R'},(∀l us,Φ (k l us) (k' l us))→Φ (d5n C te n ps r us l k) (d5n C te n ps r us l k')
 |[],r,us,l,k,k',hk=>hk _ _
 |(i,o)::ps,r,us,l,k,k',hk=>by
  unfold d5n;split
  ·exact b8y h0 fun _ _=>d7u (ps:=ps) h0 hk
  ·exact h0
theorem d5u(h0:Φ none none){C:Ctx}:∀{ps:List PS} {os:List Operand} {r:Nat→Ent} {us:List Up} {k:a2o ps→List Up→Option R} {k':a2o ps→List Up→Option R'},(∀z us,Φ (k z us) (k' z us))→Φ (a9h C ps os r us k) (a9h C ps os r us k')
 |[],os,r,us,k,k',hk=>by
  cases os with
  |nil=>exact hk _ _
  |cons=>exact h0
 |.val t::ps,os,r,us,k,k',hk=>by
  cases os with
  |nil=>cases t <;> exact h0
  |cons o os =>
   cases t with
   |ptr t =>
    unfold a9h;split
    ·refine b8k h0 (fun _ _=>a8b h0 fun _=>d5u (ps:=ps) h0 fun _ _=>hk _ _) fun _ _ _ _ _=>?_
     split
     ·exact a8b h0 fun _=>d5u (ps:=ps) h0 fun _ _=>hk _ _
     ·exact h0
    ·exact h0
   |_=>exact h0
 |.io t::ps,os,r,us,k,k',hk=>by cases os <;> exact h0
 |.sio t::ps,os,r,us,k,k',hk=>by cases os <;> exact h0
theorem f7w(h0:Φ none none){C:Ctx}{f:Nat}{caps:List Operand}{r:Nat→Ent}{k:(t:Ty)→t.den→List Up→Option R}{k':(t:Ty)→t.den→List Up→Option R'}(hk:∀t y us,Φ (k t y us) (k' t y us)):Φ (f3u C f caps r k) (f3u C f caps r k'):=by
 unfold f3u;split <;> first|exact h0|(split <;> first|exact h0|exact d5u h0 fun _ _=>hk _ _ _|exact hk _ _ _)
theorem e8y(h0:Φ none none){C:Ctx}{t:Ty}{o:Operand}{r:Nat→Ent}{k:t.den→List Up→List Nat→Option R}{k':t.den→List Up→List Nat→Option R'}(hk:∀y us b,Φ (k y us b) (k' y us b)):Φ (c7w C t o r k) (c7w C t o r k'):=by
 unfold c7w;split
 ·split
  ·exact d3b h0 fun _=>hk _ _ _
  ·exact b3d h0 fun _ _=>b0u h0 fun _ _=>d3b h0 fun _=>hk _ _ _
  ·exact b8y h0 fun _ _=>hk _ _ _
 ·exact b8y h0 fun _ _=>hk _ _ _
theorem b7u(h0:Φ none none){C:Ctx}{flat:Bool}:∀{ps:List PS} {os:List Operand} {r:Nat→Ent} {us:List Up} {bs qs:List Nat} {k:a2o ps→List Up→List Nat→Option R} {k':a2o ps→List Up→List Nat→Option R'},
  (∀z us qs,Φ (k z us qs) (k' z us qs))→Φ (b8a C flat ps os r us bs qs k) (b8a C flat ps os r us bs qs k')
 |[],os,r,us,bs,qs,k,k',hk=>by
  cases os with
  |nil=>exact hk _ _ _
  |cons=>exact h0
 |.val t::ps,os,r,us,bs,qs,k,k',hk=>by
  cases os with
  |nil=>exact h0
  |cons o os =>
   unfold b8a;split
   ·refine e8y h0 fun _ _ _=>?_
    split
    ·exact b7u (ps:=ps) h0 fun _ _ _=>hk _ _ _
    ·exact h0
   ·refine b8y h0 fun _ _=>?_
    split
    ·exact b7u (ps:=ps) h0 fun _ _ _=>hk _ _ _
    ·exact h0
 |.io t::ps,os,r,us,bs,qs,k,k',hk=>by
  cases os with
  |nil=>exact h0
  |cons o os =>
   unfold b8a;refine b8k h0 (fun _ _=>h0) fun _ _ _ _ _=>?_
   split
   ·split
    ·exact b4y h0 fun _=>b7u (ps:=ps) h0 fun _ _ _=>hk _ _ _
    ·exact h0
   ·exact h0
 |.sio t::ps,os,r,us,bs,qs,k,k',hk=>by
  cases os with
  |nil=>exact h0
  |cons o os =>
   unfold b8a;split
   ·split
    ·split
     ·exact b4y h0 fun _=>b7u (ps:=ps) h0 fun _ _ _=>hk _ _ _
     ·exact h0
    ·split
     ·refine b3d h0 fun _ _=>?_
      split
      ·exact b4y h0 fun _=>b7u (ps:=ps) h0 fun _ _ _=>hk _ _ _
      ·exact h0
     ·exact h0
    ·exact h0
   ·exact h0
theorem g6o(h0:Φ none none){dst:Option Nat}{rs:List RS}{y:b5t rs}{us:List Up}{k:List Up→Option R}{k':List Up→Option R'}(hk:∀us,Φ (k us) (k' us)):Φ (rsK dst rs y us k) (rsK dst rs y us k'):=by
 unfold rsK;split
 ·exact a4t hk
 ·exact a4t hk
 ·exact a4t hk
 ·split
  ·exact a4t hk
  ·exact h0
theorem e4w(h0:Φ none none){C:Ctx}{f:Nat}{args:List Operand}{dst:Option Nat}{r:Nat→Ent}{k:List Up→Option R}{k':List Up→Option R'}(hk:∀us,Φ (k us) (k' us)):Φ (e1t C f args dst r k) (e1t C f args dst r k'):=by
 unfold e1t;split
 ·exact b7u h0 fun _ _ _=>d9q h0 fun _=>g6o h0 hk
 ·exact h0
theorem g2g(h0:Φ none none){t:Ty}{x:t.den}{k:Int→Option R}{k':Int→Option R'}(hk:∀n,Φ (k n) (k' n)):Φ (lenK t x k) (lenK t x k'):=by
 unfold lenK;split <;> first|exact h0|exact hk _|(split <;> first|exact h0|exact hk _)
theorem f1o(h0:Φ none none){sok:Bool}{t t':Ty}{x:t'.den}{k:List t.den→Option R}{k':List t.den→Option R'}(hk:∀l,Φ (k l) (k' l)):Φ (appK.src2 sok t t' x k) (appK.src2 sok t t' x k'):=by
 unfold appK.src2;split
 ·exact a8b h0 hk
 ·split
  ·exact a8b h0 hk
  ·exact h0
 ·split
  ·exact a8b h0 hk
  ·exact h0
 ·exact h0
theorem d9y(h0:Φ none none){sok:Bool}{t:Ty}{b:Operand}{r:Nat→Ent}{k:List t.den→Option R}{k':List t.den→Option R'}(hk:∀l,Φ (k l) (k' l)):Φ (appK.srcK sok t b r k) (appK.srcK sok t b r k'):=by
 unfold appK.srcK;split
 ·exact hk _
 ·split
  ·exact hk _
  ·refine b3d h0 fun _ _=>b0u h0 fun _ _=>?_
   split
   ·split
    ·exact a8b h0 hk
    ·exact h0
   ·exact h0
  ·exact a2k h0 fun _ _ _=>f1o h0 hk
 ·exact a2k h0 fun _ _ _=>f1o h0 hk
theorem f1s(h0:Φ none none){C:Ctx}{args:List Operand}{T:Nat}{dst:Option Nat}{r:Nat→Ent}{k:List Up→Option R}{k':List Up→Option R'}(hk:∀us,Φ (k us) (k' us)):Φ (appK C args T dst r k) (appK C args T dst r k'):=by
 unfold appK;split
 ·rename_i a b m e0 te0 hT;have hput:∀(e:Nat) (t:Ty) (l:List t.den) (us:List Up),Φ
    (match decide (t.imm=te0.imm)&&AF e e0&&(zeroCells te0).isSome with
     |true=>appK.srcK true t b (upd r []) fun m=>if(l.length+m.length)*e≤room then fin dst (.val (.sl .own e t) (l++m)) us k else none
     |false=>none)
    (match decide (t.imm=te0.imm)&&AF e e0&&(zeroCells te0).isSome with
     |true=>appK.srcK true t b (upd r []) fun m=>if(l.length+m.length)*e≤room then fin dst (.val (.sl .own e t) (l++m)) us k' else none
     |false=>none):=by
   intro e t l us;split
   ·refine d9y h0 fun _=>?_
    split
    ·exact a4t hk
    ·exact h0
   ·exact h0
  dsimp only;split
  ·split
   ·exact hput _ _ _ _
   ·split
    ·refine b3d h0 fun _ _=>b0u h0 fun _ _=>?_
     split
     ·exact c0w h0 fun _=>hput _ _ _ _
     ·exact h0
    ·exact h0
   ·refine a2k h0 fun _ _ _=>?_
    split
    ·exact c0w h0 fun _=>hput _ _ _ _
    ·exact h0
  ·exact hput _ _ _ _
  ·exact h0
 ·exact h0
theorem f2h(h0:Φ none none){mx:Bool}{args:List Operand}{dst:Option Nat}{r:Nat→Ent}{k:List Up→Option R}{k':List Up→Option R'}(hk:∀us,Φ (k us) (k' us)):Φ (minK mx args dst r k) (minK mx args dst r k'):=by
 unfold minK;split
 ·refine a2k h0 fun _ _ _=>a2k h0 fun _ _ _=>?_
  split
  ·split
   ·split <;> exact a4t hk
   ·exact h0
  ·exact h0
 ·exact h0
theorem d2s(h0:Φ none none){o:Org}{k:Pl→Option R}{k':Pl→Option R'}(hk:∀p,Φ (k p) (k' p)):Φ (d0s o k) (d0s o k'):=by
 unfold d0s;split
 ·exact hk _
 ·split
  ·exact h0
  ·exact hk _
 ·exact h0
theorem e2p(h0:Φ none none){r:Nat→Ent}{o:Option Operand}{k:Option Int→Option R}{k':Option Int→Option R'}(hk:∀x,Φ (k x) (k' x)):Φ (cutK.bound r o k) (cutK.bound r o k'):=by
 unfold cutK.bound;split
 ·exact hk _
 ·refine a2k h0 fun _ _ _=>?_
  split
  ·exact hk _
  ·exact h0
theorem d5a(h0:Φ none none){l h:Option Int}{n:Nat}{k:Int→Int→Option R}{k':Int→Int→Option R'}(hk:∀x y,Φ (k x y) (k' x y)):Φ (cutK.range l h n k) (cutK.range l h n k'):=by
 unfold cutK.range;split <;> first|exact hk _ _|(split <;> first|exact h0|exact hk _ _)
theorem g3e(h0:Φ none none){C:Ctx}{T:Nat}{x:Operand}{lo hi:Option Operand}{dst:Option Nat}{r:Nat→Ent}{k:List Up→Option R}{k':List Up→Option R'}(hk:∀us,Φ (k us) (k' us)):Φ (cutK C T x lo hi dst r k) (cutK C T x lo hi dst r k'):=by
 unfold cutK;refine e2p h0 fun _=>e2p h0 fun _=>a2k h0 fun _ _ _=>?_
 split
 ·exact h0
 ·split
  ·exact d5a h0 fun _ _=>a4t hk
  ·exact d5a h0 fun _ _=>a4t hk
  ·exact d2s h0 fun _=>d5a h0 fun _ _=>a4t hk
  ·exact h0
theorem c4r(h0:Φ none none){i:Int}{n:Nat}{x:Option R}{x':Option R'}(hx:Φ x x'):Φ (atI i n x) (atI i n x'):=by
 unfold atI;split
 ·exact hx
 ·exact h0
theorem d2b(h0:Φ none none){p:Pl}{t:Ty}{x:t.den}{k:Ty→Option R}{k':Ty→Option R'}(hk:∀t,Φ (k t) (k' t)):Φ (c4z p t x k) (c4z p t x k'):=by
 unfold c4z;refine b0t h0 fun _ _=>?_
 split
 ·exact hk _
 ·split
  ·exact b0t h0 fun _ _=>hk _
  ·split
   ·exact hk _
   ·exact h0
  ·exact h0
theorem d3y(h0:Φ none none){r:Nat→Ent}{a:Operand}{k:Pl→Ty→Option R}{k':Pl→Ty→Option R'}(hk:∀p t,Φ (k p t) (k' p t)):Φ (storeAt r a k) (storeAt r a k'):=by
 unfold storeAt;split
 ·split
  ·exact hk _ _
  ·split
   ·split
    ·exact d2b h0 fun _=>hk _ _
    ·exact d2b h0 fun _=>hk _ _
    ·exact h0
   ·exact h0
  ·exact h0
 ·exact h0
theorem e2t(h0:Φ none none){C:Ctx}{dst:Option Nat}{r:Nat→Ent}{x:Operand}{asg:Bool}{k:List Up→Option R}{k':List Up→Option R'}(hk:∀us,Φ (k us) (k' us)):Φ (sem.moveK C dst r k x asg) (sem.moveK C dst r k' x asg):=by
 unfold sem.moveK;split
 ·exact a4t hk
 ·exact a4t hk
 ·exact f8m h0 fun _ _=>a4t hk
 ·exact a4t hk
 ·split
  ·exact a4t hk
  ·exact h0
 ·split
  ·exact h0
  ·split
   ·exact a4t hk
   ·split
    ·split
     ·exact h0
     ·exact hk _
    ·exact a4t hk
  ·split
   ·split
    ·exact h0
    ·exact hk _
   ·exact a4t hk
  ·split
   ·split
    ·exact h0
    ·exact hk _
   ·exact h0
  ·split
   ·split
    ·exact hk _
    ·exact a4t hk
   ·exact a4t hk
  ·exact a4t hk
theorem f6i(h0:Φ none none){dst:Option Nat}{r:Nat→Ent}{o:Operand}{k:List Up→Option R}{k':List Up→Option R'}(hk:∀us,Φ (k us) (k' us)):Φ (sem.pickK dst r k o) (sem.pickK dst r k' o):=by
 unfold sem.pickK;refine a2k h0 fun _ _ _=>?_
 split
 ·exact a4t hk
 ·exact h0
theorem c7e(h0:Φ none none){r:Nat→Ent}{o:Operand}{k:Int→Option R}{k':Int→Option R'}(hk:∀n,Φ (k n) (k' n)):Φ (sem.idxK r o k) (sem.idxK r o k'):=by
 unfold sem.idxK;refine a2k h0 fun _ _ _=>?_
 split
 ·exact hk _
 ·exact h0
theorem f0g(h0:Φ none none){C:Ctx}{r:Nat→Ent}{t:Nat}{a:Operand}{t':Ty}{y:t'.den}{us:List Up}{k:List Up→Option R}{k':List Up→Option R'}(hk:∀us,Φ (k us) (k' us)):Φ (sem.put2 C r k t a t' y us) (sem.put2 C r k' t a t' y us):=by
 unfold sem.put2;refine d3y h0 fun _ _=>?_
 split
 ·exact d1d h0 fun _=>hk _
 ·exact h0
end Go.Rb

namespace Go.Rb
variable {R R':Type} {Φ:Option R→Option R'→Prop}
theorem g1p(h0:Φ none none){l:List (Int×Nat)}{x:Int}{k:Nat→Option R}{k':Nat→Option R'}(hk:∀f,Φ (k f) (k' f)):Φ (cfsK l x k) (cfsK l x k'):=by
 induction l with
 |nil=>exact h0
 |cons q l ih =>
  obtain⟨q,f⟩:=q;unfold cfsK;split
  ·exact hk _
  ·exact ih
theorem f2m(h0:Φ none none){C:Ctx}{T:Nat}{x:Operand}{dst:Option Nat}{r:Nat→Ent}{k:List Up→Option R}{k':List Up→Option R'}(hk:∀us,Φ (k us) (k' us)):Φ (e3t C T x dst r k) (e3t C T x dst r k'):=by
 unfold e3t;split
 ·split
  ·refine b3d h0 fun _ _=>b0u h0 fun _ _=>?_
   split
   ·split
    ·split
     ·exact d1d h0 fun _=>a4t hk
     ·exact h0
    ·exact h0
   ·exact h0
  ·exact h0
 ·exact h0
theorem f5x(h0:Φ none none){r:Nat→Ent}{x:Operand}{k:Pl→Nat→(t:Ty)→List t.den→Int→Int→Option R}{k':Pl→Nat→(t:Ty)→List t.den→Int→Int→Option R'}(hk:∀p e t l lo hi,Φ (k p e t l lo hi) (k' p e t l lo hi)):Φ (f4k r x k) (f4k r x k'):=by
 unfold f4k;split
 ·split
  ·refine b3d h0 fun _ _=>b0u h0 fun _ _=>?_
   split
   ·exact hk _ _ _ _ _ _
   ·exact h0
  ·refine a2k h0 fun _ _ _=>?_
   split
   ·exact d2s h0 fun _=>hk _ _ _ _ _ _
   ·exact h0
 ·exact h0
theorem f8h(h0:Φ none none){C:Ctx}{T:Nat}{x y:Operand}{dst:Option Nat}{r:Nat→Ent}{k:List Up→Option R}{k':List Up→Option R'}(hk:∀us,Φ (k us) (k' us)):Φ (f7m C T x y dst r k) (f7m C T x y dst r k'):=by
 unfold f7m;split
 ·refine f5x h0 fun _ _ _ _ _ _=>?_
  split
  ·refine d9y h0 fun _=>?_
   split
   ·exact d1d h0 fun _=>a4t hk
   ·exact h0
  ·exact h0
 ·exact h0
theorem f8w(h0:Φ none none){C:Ctx}{op:Op}{ty:Nat}{dst:Option Nat}{r:Nat→Ent}{k:List Up→Option R}{k':List Up→Option R'}(hk:∀us,Φ (k us) (k' us)):Φ (sem C op ty dst r k) (sem C op ty dst r k'):=by
 have hf:∀{s:SV} {us:List Up},Φ (fin dst s us k) (fin dst s us k'):=fun {s us}=>a4t hk
 unfold sem;split
 ·exact e2t h0 hk
 ·exact e2t h0 hk
 ·refine a2k h0 fun _ _ _=>?_
  split
  ·split <;> exact f6i h0 hk
  ·exact h0
 ·split
  ·split
   ·exact hf
   ·exact h0
  ·exact h0
 ·split
  ·split
   ·exact b8y h0 fun _ _=>hf
   ·exact h0
  ·exact d1e h0 fun _ _ _=>hf
 ·split
  ·split
   ·exact h0
   ·exact d7j h0 fun _ _ _=>hf
  ·exact h0
 ·split
  ·split <;> first|exact h0|exact hf
  split
  ·dsimp only;split
   ·exact d7u h0 fun _ _=>hf
   ·exact h0
  ·exact h0
 ·split
  ·refine b8k h0 (fun _ _=>h0) fun _ _ _ _ _=>?_
   split <;> first|exact h0|exact hf
  split
  ·split <;> first|exact h0|exact hf
  refine b8k h0 (fun _ _=>?_) fun _ _ _ _ _=>?_
  ·split
   ·exact hf
   ·exact h0
  ·split <;> first|exact h0|exact hf
 ·split
  ·exact h0
  ·refine d3y h0 fun _ _=>?_
   split
   ·exact d1e h0 fun _ _ _=>f0g h0 hk
   ·exact b8y h0 fun _ _=>f0g h0 hk
 ·split
  ·split
   ·exact hf
   ·exact b8k h0 (fun _ _=>h0) fun _ _ _ _ _=>hf
   ·exact hf
   ·exact h0
  ·exact h0
 ·refine b8k h0 (fun _ _=>?_) fun _ _ _ _ _=>?_
  ·split
   ·split
    ·exact c3g h0 fun _ _=>hf
    ·exact h0
   ·exact h0
  ·split
   ·split
    ·exact c3g h0 fun _ _=>hf
    ·exact h0
   ·exact h0
 ·refine a2k h0 fun _ _ _=>?_
  split
  ·split
   ·refine c3g h0 fun _ _=>?_
    split <;> first|exact h0|exact hf
   ·exact h0
  ·exact h0
 ·split
  ·split
   ·exact c7e h0 fun _=>c4r h0 hf
   ·exact h0
  refine c7e h0 fun _=>?_
  split
  ·refine b8k h0 (fun _ _=>?_) fun _ _ _ _ _=>?_
   ·split
    ·split
     ·exact c4r h0 hf
     ·exact h0
    ·exact h0
   ·split
    ·split
     ·exact c4r h0 hf
     ·exact h0
    ·exact h0
  ·refine a2k h0 fun _ _ _=>?_
   split
   ·split <;> first|exact h0|exact c4r h0 hf|exact d2s h0 fun _=>c4r h0 hf
   ·exact h0
 ·refine c7e h0 fun _=>a2k h0 fun _ _ _=>?_
  split
  ·split
   ·exact c4r h0 hf
   ·split
    ·exact c4r h0 hf
    ·exact h0
   ·exact h0
  ·exact h0
 ·split
  ·split
   ·refine a2k h0 fun _ _ _=>?_
    unfold f9a;split <;> first|exact h0|exact hf
   ·exact h0
  ·exact a2k h0 fun _ _ _=>a2k h0 fun _ _ _=>g1t h0 fun _ _=>hf
 ·exact a2k h0 fun _ _ _=>g4x h0 fun _ _=>hf
 ·split
  ·refine a2k h0 fun _ _ _=>?_
   split <;> first|exact h0|exact hf
  ·refine a2k h0 fun _ _ _=>?_
   split <;> first|exact h0|exact hf
  ·exact d9y h0 fun _=>hf
  ·split
   ·refine d1e h0 fun _ _ _=>?_
    split
    ·split <;> first|exact h0|exact hf
    ·exact h0
   ·exact h0
  ·exact h0
 ·refine a2k h0 fun _ _ _=>?_
  split
  ·split
   ·exact hf
   ·exact h0
  ·exact h0
 ·split
  ·exact f7w h0 fun _ _ _=>hf
  ·exact h0
 ·split
  ·dsimp only;split
   ·exact h0
   ·refine c7e h0 fun _=>c7e h0 fun _=>?_
    split
    ·exact hf
    ·exact h0
  ·exact h0
 ·exact g3e h0 hk
 ·split
  ·split
   ·split
    ·exact h0
    ·split
     ·exact hf
     ·exact hf
    ·exact h0
   ·exact h0
  ·exact h0
 ·refine a2k h0 fun _ _ _=>?_
  split
  ·split
   ·refine a2k h0 fun _ _ _=>?_
    split
    ·split <;> exact hf
    ·exact h0
   ·exact h0
  ·exact h0
 ·split
  ·exact e4w h0 hk
  ·refine a2k h0 fun _ _ _=>?_
   split
   ·exact g1p h0 fun _=>e4w h0 hk
   ·split
    ·exact b8y h0 fun _ _=>d9q h0 fun _=>hf
    ·exact h0
   ·split
    ·exact b8y h0 fun _ _=>b8y h0 fun _ _=>d9q h0 fun _=>hf
    ·exact h0
   ·exact h0
  ·split
   ·split
    ·split <;> first|exact h0|exact hf
    split
    ·split <;> first|exact h0|exact hf
    ·refine a2k h0 fun _ _ _=>?_
     split
     ·exact g2g h0 fun _=>hf
     ·exact h0
   ·exact h0
  ·split
   ·split
    ·exact f1s h0 hk
    ·exact f1s h0 hk
    ·exact h0
   ·exact h0
  ·split
   ·exact f2m h0 hk
   ·exact h0
  ·split
   ·exact f8h h0 hk
   ·exact h0
  ·exact f2h h0 hk
  ·exact f2h h0 hk
  ·exact h0
 ·exact h0
theorem d8q{isG:Bool}{dst:Option Nat}{r:Nat→Ent}{us:List Up}{k:List Up→Option R}{k':List Up→Option R'}(hk:∀us,Φ (k us) (k' us)):Φ (e4t isG dst r us k) (e4t isG dst r us k'):=by
 unfold e4t;split
 ·split
  ·split <;> exact hk _
  ·exact hk _
 ·exact hk _
theorem e6f(h0:Φ none none){C:Ctx}{gd:Nat→Option Nat}{isG:Bool}{o:Oper}{e:En}{k:List Nat×List Nat→List Up→Option R}{k':List Nat×List Nat→List Up→Option R'}(hk:∀ins us,Φ (k ins us) (k' ins us)) :
  Φ (a5i C gd isG o e k) (a5i C gd isG o e k'):=by
 have hgo:∀g,Φ (a5i.go C isG o e k g) (a5i.go C isG o e k' g):=fun g=>f8w h0 fun _=>d8q fun _=>hk _ _
 unfold a5i;split
 ·exact h0
 ·split
  ·exact hgo _
  ·split
   ·split
    ·exact hk _ _
    ·split
     ·exact hgo _
     ·exact hk _ _
    ·exact h0
   ·exact h0
theorem e6g{C:Ctx}{gd:Nat→Option Nat}{isG:Bool}{o:Oper}{e:En}{k:List Nat×List Nat→List Up→Option R}{res:R}(hk:a5i C gd isG o e k=some res) :
  ∃ins us,k ins us=some res∧a5i (R:=(List Nat×List Nat)×List Up) C gd isG o e (fun ins us=>some (ins,us))=some (ins,us):=by
 have h1:=e6f (Φ:=fun(x:Option R) (y:Option ((List Nat×List Nat)×List Up))=>x=y.bind fun z=>k z.1 z.2) rfl (C:=C) (gd:=gd) (isG:=isG) (o:=o) (e:=e) (k:=k) (k':=fun ins us=>some (ins,us)) fun ins us=>rfl
 rw[hk] at h1;obtain⟨⟨ins,us⟩,h2,h3⟩:=Option.bind_eq_some_iff.1 h1.symm;exact⟨ins,us,h3,h2⟩
end Go.Rb

namespace Go.Rb
variable {A:Amb} {P:Program} {Z Z':Nat→Prop} {h h':Array Obj} {R:Type} {C:Ctx} {B:Base} {e e':En} {a:Act} {w w':World} {F F0:Nat→List Nat} {X X0:List Nat} {r:Nat→Ent} {o:Oper}
abbrev DOut:=(List Nat×List Nat)×List Up
def f3q(C:Ctx)(gd:Nat→Option Nat)(isG:Bool)(o:Oper)(e:En):Option DOut:=a5i C gd isG o e fun ins us=>some (ins,us)
theorem Rel.congr(hrel:Rel A P C B e a w Z F X)(he:∀i,e'.get i=e.get i):Rel A P C B e' a w Z F X:=by
 have hr:∀{s:SV} {v:Value},Ref e a.tm w.heap s v→Ref e' a.tm w.heap s v:=fun {s v} h=>a9o (F:=F) hrel.own h (fun _ _ _ _ _ _=>rfl) fun p=>.inl ⟨he p,rfl,fun _ _=>rfl⟩
 exact { hrel with own:=fun i=>by rw[he];exact hrel.own i,ref:=fun i=>by rw[he];exact hr (hrel.ref i) }
theorem f8x:∀{us:List Up} {r:Nat→Ent} {e:En} {d:Nat},r d=e.get d→upd r us d=(e.app us).get d
 |[],_,_,_,h=>h
 |u::us,r,e,d,hd=>by
  rw[d1j];refine f8x (us:=us) ?_;rw[d2q,b4b];cases hb:AF u.d d with
  |true =>
   have hb':=a1q hb;rw[if_pos hb'];simp only[hb];rw[hb',hd]
  |false=>rw[if_neg (b3b hb)];simp only[hb];exact hd
theorem Snd.mono{us us':List Up}(hs:Snd A P C B e a w us o)(hm:∀a' w' Z' F',Rel A P C B (e.app us) a' w' Z' F' []→∃F'',Rel A P C B (e.app us') a' w' Z' F'' []):Snd A P C B e a w us' o:=by
 intro next Q hn;refine hs next Q fun a' w' Z' F' hr=>?_
 obtain⟨F'',h1⟩:=hm _ _ _ _ hr;exact hn _ _ _ _ h1
theorem e9d(htab:a3q P C)(hft:FtOK A P C)(hfix:c5i C B)(hrel:Rel A P C B e a w Z F []){ops:Array Oper}{isG:Bool}{ins:List Nat×List Nat}{us:List Up}
  (hk:f3q C (a7f ops.toList) isG o e=some (ins,us)):d8a A P C B ops o a w (e.app us):=by
 unfold f3q a5i at hk;split at hk
 ·simp at hk
 ·rename_i hok;have hd:∀d,o.dst=some d→a4o C B d:=fun d hdd=>c3j hfix hok hdd
  have hgo:∀g,a5i.go C isG o e (fun ins us=>some (ins,us)) g=some (ins,us)→Snd A P C B e a w us o:=by
   intro g hk;unfold a5i.go at hk;obtain⟨us0,hk,hs⟩:=e0i htab hft hfix hrel hok hk;unfold e4t at hk;cases isG with
   |false =>
    simp only[Ad,Ak] at hk;rw[←hk.2];exact hs
   |true =>
   cases hdst:o.dst with
   |none =>
    rw[hdst] at hk;simp only[Ad,Ak] at hk;rw[←hk.2];exact hs
   |some d =>
    have hdd:upd (e.look (a1r C e o.op o.dst)) us0 d=(e.app us0).get d:=f8x (b6x (e3q hdst));rw[hdst] at hk hdd;dsimp only at hk;rw[hdd] at hk;split at hk
    ·rename_i b hb;have key:∀b',b=b'→us=us0++[⟨d,.slot,.kb b'⟩]→Snd A P C B e a w us o:=by
      rintro b' rfl rfl;refine hs.mono fun a' w' Z' F' hr=>?_
      have ho:=hr.own d;rw[hb] at ho;obtain⟨cs,g1,g2⟩:=ho;obtain⟨_,rfl⟩:=g2;obtain⟨F'',g3⟩:=c6o hr (x:=.tmp d) (b:=b) (a0w rfl g1);refine⟨F'',?_⟩;have hkn:(e.app us0).know (.tmp d) b=(e.app us0).app [⟨d,.slot,.kb b⟩]:=by unfold En.know;simp only[hb]
      rw[hkn,←a2b] at g3;exact g3
     split at hk
     ·rename_i hbt;simp only[Ad,Ak] at hk;exact key true hbt hk.2.symm
     ·rename_i hbt;simp only[Ad,Ak] at hk;exact key false (by simpa using hbt) hk.2.symm
    ·simp only[Ad,Ak] at hk;rw[←hk.2];exact hs
  split at hk
  ·rename_i hg;exact c5x (by unfold Cg;rw[hg]) (hgo _ hk)
  ·rename_i j want hg;have hwant:∀y,yielded ops a.tmps j=y→Cg o (yielded ops a.tmps)=(y==some want):=by
    intro y hy;unfold Cg;rw[hg,←hy]
   split at hk
   ·rename_i g hgs;split at hk
    ·rename_i hu;have ho:=hrel.own g;rw[hu] at ho;simp only[Ad,Ak] at hk;rw[←hk.2];exact b9g hrel hd (by rw[hwant none (d2o hgs ho.2)];cases want <;> rfl)
    ·rename_i b hu;have ho:=hrel.own g;rw[hu] at ho;have hy:=hwant (some b) (c9e hgs ho.2);split at hk
     ·rename_i hb;exact c5x (by rw[hy];simpa using hb) (hgo _ hk)
     ·rename_i hb;simp only[Ad,Ak] at hk;rw[←hk.2];exact b9g hrel hd (by rw[hy];simpa using hb)
    ·simp at hk
   ·simp at hk
def En.wk(e:En)(q:Nat):Ent:=if q % 2=0 then(e.get (q / 2)).mask else(e.get (q / 2)).maskC
theorem e0p{i:Nat}:e.wk (2*i)=(e.get i).mask:=by
 unfold En.wk;rw[if_pos (by omega),show 2*i / 2=i by omega]
theorem f0t{i:Nat}:e.wk (2*i+1)=(e.get i).maskC:=by
 unfold En.wk;rw[if_neg (by omega),show(2*i+1) / 2=i by omega]
def Same(e e':En)(ins:List Nat×List Nat):Prop:=(∀i,i∈ins.1→e'.get i=e.get i)∧∀q,q∈ins.2→e'.wk q=e.wk q
theorem Same.mask{ins:List Nat×List Nat}(h:Same e e' ins){i:Nat}(hi:2*i∈ins.2):(e'.get i).mask=(e.get i).mask:=by
 have:=h.2 _ hi;rwa [e0p,e0p] at this
theorem g0d{l:List Nat×List Nat}(hs:Same e e' l):e'.look l=e.look l:=by
 funext i;by_cases h1:i∈l.1
 ·rw[b6x h1,b6x h1,hs.1 i h1]
 ·by_cases h2:2*i∈l.2
  ·rw[d4g h1 h2,d4g h1 h2,hs.mask h2]
  ·by_cases h3:2*i+1∈l.2
   ·have:=hs.2 _ h3;rw[f0t,f0t] at this;rw[c8i h1 h2 h3,c8i h1 h2 h3,this]
   ·rw[d9u h1 h2 h3,d9u h1 h2 h3]
theorem c4x{x y:Ent}{t:Ty}{z:t.den}(hx:x.s=.box t z)(hm:y.mask=x.mask):∃t' z',y.s=.box t' z':=by
 rw[b6m hx] at hm;cases hs:y.s with
 |box t' z'=>exact⟨t',z',rfl⟩
 |val t' z' =>
  cases hp:t'.pure with
  |true=>rw[d4f hs hp] at hm;rw[hm] at hs;simp at hs
  |false=>rw[c3b hs hp] at hm;simp at hm
 |_=>rw[show y.mask=⟨0,0,.none⟩ from by unfold Ent.mask;rw[hs]] at hm;simp at hm
theorem e8b{x y:Ent}{t:Ty}{z:t.den}(hx:x.s=.val t z)(hp:t.pure=false)(hm:y.mask=x.mask):∃t' z',y.s=.val t' z'∧t'.pure=false:=by
 rw[c3b hx hp] at hm;cases hs:y.s with
 |box t' z'=>rw[b6m hs] at hm;simp at hm
 |val t' z' =>
  refine⟨t',z',rfl,?_⟩;cases hp':t'.pure with
  |true =>
   rw[d4f hs hp'] at hm;rw[hm] at hs;simp only[SV.val.injEq] at hs;obtain⟨rfl,_⟩:=hs;simp[Ty.pure] at hp'
  |false=>rfl
 |_=>rw[show y.mask=⟨0,0,.none⟩ from by unfold Ent.mask;rw[hs]] at hm;simp at hm
theorem c4f{α β:Type}{f g:α→Option β}:∀{l:List α},(∀i,i∈l→f i=g i)→l.filterMap f=l.filterMap g
 |[],_=>rfl
 |x::l,h=>by rw[CZ,CZ,h x (by simp),c4f fun i hi=>h i (by simp[hi])]
def tmOf(op:Op):List Nat:=(match op with|.call c=>c.operands|op=>op.operands).toList.filterMap fun|Operand.tmp i=>some i|_=>none
def f7b(s:SV):Option Nat :=
 match s with
 |.ptr p _ _|.ali p _ _|.sub p _ _ _ _=>some p.root
 |_=>none
theorem d1z{op:Op}{dst:Option Nat}(h1:∀i,op≠.move (.tmp i))(h2:∀i,op≠.nilCheck (.tmp i))(h3:∀t i f,op≠.fieldAddr t (.tmp i) f)(h4:∀t i,op≠.load t (.tmp i)) :
  a1r C e op dst=(dst.toList++(tmOf op++(tmOf op).filterMap fun i=>f7b (e.get i).s),[]):=by
 unfold a1r;split
 ·exact absurd rfl (h4 _ _)
 ·exact absurd rfl (h1 _)
 ·exact absurd rfl (h2 _)
 ·exact absurd rfl (h3 _ _ _)
 ·rfl
theorem f4c{op:Op}{dst:Option Nat}(hs:Same e e' (a1r C e op dst)):a1r C e' op dst=a1r C e op dst:=by
 have hdef:(∀i,op≠.move (.tmp i))→(∀i,op≠.nilCheck (.tmp i))→(∀t i f,op≠.fieldAddr t (.tmp i) f)→(∀t i,op≠.load t (.tmp i))→a1r C e' op dst=a1r C e op dst:=by
  intro h1 h2 h3 h4;rw[d1z h1 h2 h3 h4] at hs;rw[d1z h1 h2 h3 h4,d1z h1 h2 h3 h4];rw[c4f (f:=fun i=>f7b (e'.get i).s) (g:=fun i=>f7b (e.get i).s) fun i hi=>by
   rw[hs.1 i (Au _ (Aw _ hi))]]
 by_cases h1:∃i,op=.move (.tmp i)
 ·obtain⟨i,rfl⟩:=h1;cases hi:(e.get i).s with
  |box t y =>
   have hl:a1r C e (.move (.tmp i)) dst=(dst.toList,[2*i]):=by simp[a1r,hi]
   rw[hl] at hs ⊢;obtain⟨t',z',h2⟩:=c4x hi (hs.mask (by simp));simp[a1r,h2]
  |val t y =>
   cases hp:t.pure with
   |true =>
    have hl:a1r C e (.move (.tmp i)) dst=(i::dst.toList,[]):=by simp[a1r,hi,hp]
    rw[hl] at hs ⊢;simp[a1r,hs.1 i (by simp),hi,hp]
   |false =>
    have hl:a1r C e (.move (.tmp i)) dst=(dst.toList,[2*i]):=by simp[a1r,hi,hp]
    rw[hl] at hs ⊢;obtain⟨t',z',h2,h3⟩:=e8b hi hp (hs.mask (by simp));simp[a1r,h2,h3]
  |_ =>
   have hl:a1r C e (.move (.tmp i)) dst=(i::dst.toList,[]):=by simp[a1r,hi]
   rw[hl] at hs ⊢;simp[a1r,hs.1 i (by simp),hi]
 by_cases h2:∃i,op=.nilCheck (.tmp i)
 ·obtain⟨i,rfl⟩:=h2;cases hi:(e.get i).s with
  |box t y =>
   have hl:a1r C e (.nilCheck (.tmp i)) dst=(dst.toList,[2*i]):=by simp[a1r,hi]
   rw[hl] at hs ⊢;obtain⟨t',z',h2⟩:=c4x hi (hs.mask (by simp));simp[a1r,h2]
  |_ =>
   have hm:i∈(a1r C e (.nilCheck (.tmp i)) dst).1:=by
    simp only[a1r,hi]
    try split
    all_goals simp
   have he:=hs.1 i hm;simp only[a1r,he]
 by_cases h3:∃t i f,op=.fieldAddr t (.tmp i) f
 ·obtain⟨s,i,f,rfl⟩:=h3;cases hi:(e.get i).s with
  |box t y =>
   have hl:a1r C e (.fieldAddr s (.tmp i) f) dst=(dst.toList,[2*i]):=by simp[a1r,hi]
   rw[hl] at hs ⊢;obtain⟨t',z',h2⟩:=c4x hi (hs.mask (by simp));simp[a1r,h2]
  |_ =>
   have hm:i∈(a1r C e (.fieldAddr s (.tmp i) f) dst).1:=by
    simp only[a1r,hi]
    try split
    all_goals simp
   have he:=hs.1 i hm;simp only[a1r,he]
 by_cases h4:∃t i,op=.load t (.tmp i)
 ·obtain⟨t,i,rfl⟩:=h4;have hm:i∈(a1r C e (.load t (.tmp i)) dst).1:=by
   simp only[a1r]
   repeat' split
   all_goals simp
  have he:=hs.1 i hm;simp only[a1r,he]
 ·exact hdef (fun i h=>h1 ⟨i,h⟩) (fun i h=>h2 ⟨i,h⟩) (fun t i f h=>h3 ⟨t,i,f,h⟩) fun t i h=>h4 ⟨t,i,h⟩
theorem f3h{gd:Nat→Option Nat}{isG:Bool}{ins:List Nat×List Nat}{us:List Up}(hk:f3q C gd isG o e=some (ins,us))(hs:Same e e' ins):f3q C gd isG o e'=some (ins,us):=by
 have hgo:∀g,a5i.go C isG o e (fun ins us=>some (ins,us)) g=some (ins,us)→g ⊆ ins.1∧a5i.go C isG o e' (fun ins us=>some (ins,us)) g=some (ins,us):=by
  intro g hk;have hins:∀y,a5i.go C isG o e (fun ins us=>some (ins,us)) g=some y→y.1=(g++(a1r C e o.op o.dst).1,(a1r C e o.op o.dst).2):=by
   unfold a5i.go;exact f8w (Φ:=fun(x:Option DOut) (_:Option Unit)=>∀y,x=some y→y.1=(g++(a1r C e o.op o.dst).1,(a1r C e o.op o.dst).2)) (k':=fun _=>none) (by simp)
    (fun us=>d8q (Φ:=fun(x:Option DOut) (_:Option Unit)=>∀y,x=some y→y.1=(g++(a1r C e o.op o.dst).1,(a1r C e o.op o.dst).2)) (isG:=isG) (dst:=o.dst) (r:=e.look (a1r C e o.op o.dst)) (us:=us) (k':=fun _=>none) fun us' y hy=>by
     simp only[Ad] at hy;rw[←hy])
  have h1:=hins _ hk;dsimp only at h1;subst h1;have hsame:Same e e' (a1r C e o.op o.dst):=⟨fun i hi=>hs.1 i (Au _ hi),hs.2⟩
  refine⟨fun i hi=>Aw _ hi,?_⟩;unfold a5i.go at hk ⊢;rw[f4c hsame,g0d hsame];exact hk
 unfold f3q a5i at hk ⊢;split at hk
 ·simp at hk
 ·rename_i hok;simp only[hok];split at hk
  ·rename_i hg;exact(hgo _ hk).2
  ·rename_i j want hg;split at hk
   ·rename_i g hgs;have key:g∈ins.1→e'.get g=e.get g:=hs.1 g;split at hk
    ·rename_i hu;simp only[Ad,Ak] at hk;obtain⟨rfl,rfl⟩:=hk;rw[key (by simp),hu]
    ·rename_i b hu;split at hk
     ·rename_i hb;obtain⟨h1,h2⟩:=hgo _ hk;rw[key (h1 (by simp)),hu];dsimp only;rw[hb];exact h2
     ·rename_i hb;simp only[Ad,Ak] at hk;obtain⟨rfl,rfl⟩:=hk;rw[key (by simp),hu];dsimp only;rw[hb]
    ·simp at hk
   ·simp at hk
end Go.Rb

namespace Go.Rb
variable {A:Amb} {P:Program} {Z Z':Nat→Prop} {h h':Array Obj} {R:Type} {C:Ctx} {B:Base} {e e':En} {a:Act} {w w':World} {F F0:Nat→List Nat} {X X0:List Nat} {r:Nat→Ent} {o:Oper}
structure Run (C:Ctx) (gd:Nat→Option Nat) (all:List Oper) (I:Nat→List Nat×List Nat) (U:Nat→List Up) (E:Nat→En) (bef:Nat→List Nat) (j:Nat):Prop where
 ex:∃o,all[j]?=some o∧f3q C gd (f7v all j) o (E j)=some (I j,U j)∧(∀m,m∈c2b o→m<j)∧bef j=c5j bef (c2b o).reverse []
 next:E (j+1)=(E j).app (U j)
 apart:∀m,m<j→m∈bef j∨c2q (c1j (E m) (I m) (U m)) (c1j (E j) (I j) (U j))=true
theorem f0d{x:Nat}:∀{l:List Nat},hasN x l=true→x∈l
 |[],h=>by simp[hasN] at h
 |y::l,h=>by
  unfold hasN at h;split at h
  ·rename_i hb;rw[Nat.eq_of_beq_eq_true hb];exact C9
  ·exact Ar _ (f0d h)
theorem c7q{x:Nat}:∀{l acc:List Nat},x∈e5d l acc→x∈l∨x∈acc
 |[],acc,h=>.inr h
 |y::l,acc,h=>by
  unfold e5d at h;split at h
  ·exact(c7q h).imp (Ar _) id
  ·rcases c7q h with h|h
   ·exact .inl (Ar _ h)
   ·rcases Az.1 h with rfl|h
    ·exact .inl C9
    ·exact .inr h
theorem d2a{x:Nat}{b:Nat→List Nat}:∀{es acc:List Nat},x∈c5j b es acc→(∃m,m∈es∧(x=m∨x∈b m))∨x∈acc
 |[],acc,h=>.inr h
 |m::es,acc,h=>by
  unfold c5j at h;split at h
  ·rcases d2a h with⟨q,h1,h2⟩|h
   ·exact .inl ⟨q,Ar _ h1,h2⟩
   ·exact .inr h
  ·rcases d2a h with⟨q,h1,h2⟩|h
   ·exact .inl ⟨q,Ar _ h1,h2⟩
   ·rcases c7q h with h|h
    ·exact .inl ⟨m,C9,Az.1 h⟩
    ·exact .inr h
theorem c0i{b b':Nat→List Nat}:∀{es acc:List Nat},(∀i,i∈es→b i=b' i)→c5j b es acc=c5j b' es acc
 |[],_,_=>rfl
 |m::es,acc,h=>by
  unfold c5j;rw[h m C9];split
  ·exact c0i fun i hi=>h i (Ar _ hi)
  ·exact c0i fun i hi=>h i (Ar _ hi)
theorem f4r{α:Type}{l:List α}{f:α×Nat→Bool}(h:l.zipIdx.all f=true):∀(i:Nat) (x:α),l[i]?=some x→f (x,i)=true:=by
 intro i x hx;rw[AK] at h;exact h (x,i) (by rw[List.mem_zipIdx_iff_getElem?];exact hx)
theorem c9n{gd:Nat→Option Nat}{all:List Oper}{k:En→Option R}{res:R}:∀(os:List Oper) (i:Nat) (e:En) (done:List Foot) (befs:List (List Nat)) (I:Nat→List Nat×List Nat) (U:Nat→List Up) (E:Nat→En) (bef:Nat→List Nat),
  all.drop i=os→i≤all.length→done.length=i→E i=e→(∀j,j<i→Run C gd all I U E bef j)→(∀j,j<i→done[i - 1 - j]?=some (c1j (E j) (I j) (U j)))→(∀j,j<i→befs.getD (i - 1 - j) []=bef j) →
  d2u C gd all os e done befs k=some res →
  ∃(I':Nat→List Nat×List Nat) (U':Nat→List Up) (E':Nat→En) (bef':Nat→List Nat),(∀j,j<all.length→Run C gd all I' U' E' bef' j)∧(∀j,j≤i→E' j=E j)∧k (E' all.length)=some res
 |[],i,e,done,befs,I,U,E,bef,hos,hile,hlen,hE,hrun,hdone,hbefs,hk=>by
  have hi:i=all.length:=by
   have:=congrArg List.length hos;simp at this;omega
  subst hi;exact⟨I,U,E,bef,hrun,fun _ _=>rfl,by rw[hE];exact hk⟩
 |o::os,i,e,done,befs,I,U,E,bef,hos,hile,hlen,hE,hrun,hdone,hbefs,hk=>by
  have hget:all[i]?=some o:=by
   have h0:(all.drop i)[0]?=some o:=by rw[hos];rfl
   rw[List.getElem?_drop] at h0;simpa using h0
  have hil:i<all.length:=by
   rcases AY i all.length with h|h
   ·exact h
   ·rw[List.getElem?_eq_none h] at hget;simp at hget
  have hdr:all.drop (i+1)=os:=by rw[←List.drop_drop,hos];rfl
  unfold d2u at hk;rw[hlen] at hk;obtain⟨ins,us,hk,hd⟩:=e6g hk;dsimp only at hk;split at hk
  ·rename_i hc;rw[Af] at hc;obtain⟨hc1,hc2⟩:=hc;have hedge:∀m,m∈c2b o→m<i:=fun m hm=>by
    have:=AK.1 hc1 m hm;exact Nat.blt_eq.mp this
   have hbefeq:c5j (fun j=>befs.getD (i - 1 - j) []) (c2b o).reverse []=c5j bef (c2b o).reverse [] :=
    c0i fun m hm=>hbefs m (hedge m (CI.1 hm))
   rw[hbefeq] at hk hc2;have hupI:∀{α:Type} (f:Nat→α) (x:α) (j:Nat),j<i→(if j=i then x else f j)=f j:=fun f x j hj=>by simp[DC hj]
   have hupE:∀(j:Nat),j≤i→(if j=i+1 then e.app us else E j)=E j:=fun j hj=>by simp[show j≠i+1 by omega]
   have hn1:∀j,j<i+1→Run C gd all (fun m=>if m=i then ins else I m) (fun m=>if m=i then us else U m) (fun m=>if m=i+1 then e.app us else E m) (fun m=>if m=i then c5j bef (c2b o).reverse [] else bef m) j:=by
    intro j hj;rcases Ds.1 hj with hj|rfl
    ·obtain⟨⟨o',q1,q2,q3,q4⟩,q5,q6⟩:=hrun j hj;refine⟨⟨o',q1,?_,q3,?_⟩,?_,fun m hm=>?_⟩
     ·simp only[hupI _ _ j hj,hupE j (by omega)];exact q2
     ·simp only[hupI _ _ j hj];rw[q4];refine c0i fun m hm=>?_
      have hmj:=q3 m (CI.1 hm);rw[if_neg (by omega:¬m=i)]
     ·simp only[hupI _ _ j hj,hupE j (by omega),hupE (j+1) (by omega)];exact q5
     ·simp only[hupI _ _ j hj,hupI _ _ m (Nat.lt_trans hm hj),hupE j (by omega),hupE m (by omega)];exact q6 m hm
    ·have hEj:(if j=j+1 then e.app us else E j)=e:=(hupE j (Av _)).trans hE;refine⟨⟨o,hget,?_,hedge,?_⟩,?_,fun m hm=>?_⟩
     ·simp only[if_true,hEj];exact hd
     ·simp only[if_true];refine c0i fun m hm=>?_
      rw[if_neg (DC (hedge m (CI.1 hm)))]
     ·simp only[if_true,hEj]
     ·simp only[if_true,hupI _ _ m hm,hEj,hupE m (by omega)];have:=f4r hc2 (j - 1 - m) _ (hdone m hm);rw[Bool.or_eq_true] at this;refine this.imp (fun h=>?_) id;have hmm:j - 1 - (j - 1 - m)=m:=by omega
      rw[hmm] at h;simpa using f0d h
   have hn2:∀j,j<i+1→(c1j e ins us::done)[i+1 - 1 - j]?=some (c1j ((fun m=>if m=i+1 then e.app us else E m) j) ((fun m=>if m=i then ins else I m) j) ((fun m=>if m=i then us else U m) j)):=by
    intro j hj;rcases Ds.1 hj with hj|rfl
    ·simp only[hupI _ _ j hj,hupE j (by omega)];have:i+1 - 1 - j=(i - 1 - j)+1:=by omega
     rw[this,List.getElem?_cons_succ];exact hdone j hj
    ·simp only[if_true,hupE j (Av _),hE];simp
   have hn3:∀j,j<i+1→(c5j bef (c2b o).reverse []::befs).getD (i+1 - 1 - j) []=(fun m=>if m=i then c5j bef (c2b o).reverse [] else bef m) j:=by
    intro j hj;rcases Ds.1 hj with hj|rfl
    ·simp only[hupI _ _ j hj];have:i+1 - 1 - j=(i - 1 - j)+1:=by omega
     rw[this,List.getD_cons_succ];exact hbefs j hj
    ·simp
   obtain⟨I',U',E',bef',g1,g2,g3⟩:=c9n os (i+1) (e.app us) _ _ (fun m=>if m=i then ins else I m) (fun m=>if m=i then us else U m) (fun m=>if m=i+1 then e.app us else E m) (fun m=>if m=i then c5j bef (c2b o).reverse [] else bef m) hdr hil (by simp[hlen]) (by simp) hn1 hn2 hn3 hk;exact⟨I',U',E',bef',g1,fun j hj=>by rw[g2 j (by omega)];exact hupE j hj,g3⟩
  ·simp at hk
theorem c6z:∀{us:List Up} {e e':En} {d:Nat},e.get d=e'.get d→(e.app us).get d=(e'.app us).get d
 |[],_,_,_,h=>h
 |u::us,e,e',d,hd=>by
  rw[d1j,d1j];refine c6z (us:=us) ?_;show En.get ((u.d,(e.get u.d).bump u.b u.s)::e) d=En.get ((u.d,(e'.get u.d).bump u.b u.s)::e') d;rw[b4b,b4b];by_cases hb:u.d=d
  ·rw[if_pos hb,if_pos hb,hb,hd]
  ·rw[if_neg hb,if_neg hb,hd]
theorem e5c{x y:Ent}(hw:c1d x y=true):y.mask=x.mask:=by
 unfold c1d at hw;rw[Af] at hw;obtain⟨hv,hw⟩:=hw;have hv:=a1q hv;split at hw
 ·rename_i t z t' z' hx hy;rw[b6m hx,b6m hy];have:t.imm=t'.imm:=by simpa using hw
  rw[this,hv]
 ·rename_i t z t' z' hx hy;simp only[Af,A8] at hw;rw[c3b hx hw.1.2,c3b hy hw.2,hv,a1q hw.1.1]
 ·simp at hw
def b0p(U:Nat→List Up)(k d:Nat):Prop:=∃u,u∈U k∧u.d=d
theorem c8k{e:En}{ins:List Nat×List Nat}{us:List Up}{d:Nat}:(∃u,u∈us∧u.d=d)↔d∈(c1j e ins us).outs∨(d∈(c1j e ins us).cont∧c1d (e.get d) ((e.app us).get d)=true):=by
 unfold c1j;dsimp only;simp only[Ck,Bu,A8];cases hw:c1d (e.get d) ((e.app us).get d) with
 |true=>simp
 |false=>simp
theorem d9t{x y:Ent}(hw:c2i x y=true):y.maskC=x.maskC:=by
 unfold c2i at hw;simp only[Af] at hw;obtain⟨⟨hw,hc⟩,hb⟩:=hw;have hc:=a1q hc;split at hb
 ·rename_i t z hx;unfold c1d at hw;rw[Af] at hw;obtain⟨hv,hw⟩:=hw;have hv:=a1q hv;rw[hx] at hw;split at hw
  ·rename_i t1 z1 t' z' hx' hy;have:t1.imm=t'.imm:=by simpa using hw
   cases hx';rw[d5b hx,d5b hy,this,hv,hc]
  ·rename_i hx' _;cases hx'
  ·simp at hw
 ·cases hb
theorem c6p{a b:List Nat}(h:g4r a b=true){d:Nat}(ha:d∈a):2*d∉b∧2*d+1∉b:=by
 have:=AK.1 h d ha;simp at this;exact this
theorem c6e{a b:List Nat}(h:g5m a b=true){d:Nat}(ha:d∈a):2*d+1∉b:=by
 have:=AK.1 h d ha;simp at this;exact this
theorem d8f{e:En}{ins:List Nat×List Nat}{us:List Up}{d:Nat}(h:∃u,u∈us∧u.d=d)(hn:d∉(c1j e ins us).contC):c2i (e.get d) ((e.app us).get d)=true:=by
 unfold c1j at hn;dsimp only at hn;simp only[Ck,Bu,A8] at hn;cases hw:c2i (e.get d) ((e.app us).get d) with
 |true=>rfl
 |false=>exact absurd ⟨h,hw⟩ hn
theorem b2y{a b:List Nat}(h:e1d a b=true){d:Nat}(ha:d∈a)(hb:d∈b):False:=by
 have:=AK.1 h d ha;simp[hb] at this
theorem d4h{a b:Foot}(h:c2q a b=true){d:Nat}(ha:d∈a.outs∨d∈a.cont):d∉b.ins∧d∉b.outs∧d∉b.cont∧(d∈a.outs→2*d∉b.weak)∧(d∈a.contC→2*d+1∉b.weak):=by
 unfold c2q at h;simp only[Af] at h;obtain⟨⟨⟨⟨⟨⟨⟨h1,h2⟩,h3⟩,h4⟩,h5⟩,h6⟩,h11⟩,⟨⟨⟨h7,h8⟩,h9⟩,h10⟩,h12⟩:=h;rcases ha with ha|ha
 ·exact⟨fun hb=>b2y h1 ha hb,fun hb=>b2y h3 ha hb,fun hb=>b2y h4 ha hb,fun ho=>(c6p h2 ho).1,c6e h11⟩
 ·exact⟨fun hb=>b2y h5 ha hb,fun hb=>b2y h9 hb ha,fun hb=>b2y h6 ha hb,fun ho=>(c6p h2 ho).1,c6e h11⟩
theorem e4q{a b:Foot}(h:c2q a b=true){d:Nat}(hb:d∈b.outs∨d∈b.cont):d∉a.ins∧(d∈b.outs→2*d∉a.weak)∧(d∈b.contC→2*d+1∉a.weak):=by
 unfold c2q at h;simp only[Af] at h;obtain⟨⟨⟨⟨⟨⟨⟨h1,h2⟩,h3⟩,h4⟩,h5⟩,h6⟩,h11⟩,⟨⟨⟨h7,h8⟩,h9⟩,h10⟩,h12⟩:=h;rcases hb with hb|hb
 ·exact⟨fun ha=>b2y h7 hb ha,fun ho=>(c6p h8 ho).1,c6e h12⟩
 ·exact⟨fun ha=>b2y h10 hb ha,fun ho=>(c6p h8 ho).1,c6e h12⟩
section
variable {gd:Nat→Option Nat} {all:List Oper} {I:Nat→List Nat×List Nat} {U:Nat→List Up} {E:Nat→En} {bef:Nat→List Nat}
theorem f2d(hrun:∀j,j<all.length→Run C gd all I U E bef j){m j d:Nat}(hm:m<j)(hj:j<all.length)(h1:b0p U m d)(h2:b0p U j d):m∈bef j:=by
 rcases(hrun j hj).apart m hm with h|h
 ·exact h
 ·exfalso;have t1:=(c8k (e:=E m) (ins:=I m)).1 h1;have t2:=(c8k (e:=E j) (ins:=I j)).1 h2;obtain⟨_,q2,q3,_⟩:=d4h h (d:=d) (t1.imp id GO);exact t2.elim q2 fun t=>q3 t.1
theorem e7y(hrun:∀j,j<all.length→Run C gd all I U E bef j){d:Nat}:∀(n i:Nat),i+n≤all.length→(∀k,i≤k→k<i+n→¬b0p U k d)→(E (i+n)).get d=(E i).get d
 |0,i,_,_=>rfl
 |n+1,i,hl,hn=>by
  rw[show i+(n+1)=(i+n)+1 from rfl,(hrun (i+n) (by omega)).next,a8v fun u hu hd=>hn (i+n) (by omega) (by omega) ⟨u,hu,hd⟩];exact e7y hrun n i (by omega) fun k h1 h2=>hn k h1 (by omega)
theorem c1h(hrun:∀j,j<all.length→Run C gd all I U E bef j)(f:Ent→Ent){d:Nat}:∀(n i:Nat),i+n≤all.length→(∀k,i≤k→k<i+n→b0p U k d→f ((E (k+1)).get d)=f ((E k).get d)) →
  f ((E (i+n)).get d)=f ((E i).get d)
 |0,i,_,_=>rfl
 |n+1,i,hl,hn=>by
  rw[show i+(n+1)=(i+n)+1 from rfl];refine Eq.trans ?_ (c1h hrun f n i (by omega) fun k h1 h2=>hn k h1 (by omega));by_cases ht:b0p U (i+n) d
  ·exact hn (i+n) (by omega) (by omega) ht
  ·rw[(hrun (i+n) (by omega)).next,a8v fun u hu hd=>ht ⟨u,hu,hd⟩]
def At2(n:Nat)(U:Nat→List Up)(E:Nat→En)(S:Nat→Prop)(e:En):Prop :=
 ∀d,∃j,j≤n∧e.get d=(E j).get d∧∀k,k<n→b0p U k d→(S k↔k<j)
theorem f9y(hrun:∀j,j<all.length→Run C gd all I U E bef j){d i j:Nat}(hi:i≤all.length)(hj:j≤all.length)(hn:∀k,k<all.length→(i≤k∧k<j)∨(j≤k∧k<i)→¬b0p U k d):(E i).get d=(E j).get d:=by
 rcases Jd i j with h|h
 ·have:=e7y hrun (d:=d) (j - i) i (by omega) fun k h1 h2=>hn k (by omega) (.inl ⟨h1,by omega⟩)
  rw[show i+(j - i)=j by omega] at this;exact this.symm
 ·have:=e7y hrun (d:=d) (i - j) j (by omega) fun k h1 h2=>hn k (by omega) (.inr ⟨h1,by omega⟩)
  rw[show j+(i - j)=i by omega] at this;exact this
theorem d4a(hrun:∀j,j<all.length→Run C gd all I U E bef j)(f:Ent→Ent){d i j:Nat}(hi:i≤all.length)(hj:j≤all.length)
  (hn:∀k,k<all.length→(i≤k∧k<j)∨(j≤k∧k<i)→b0p U k d→f ((E (k+1)).get d)=f ((E k).get d)):f ((E i).get d)=f ((E j).get d):=by
 rcases Jd i j with h|h
 ·have:=c1h hrun f (d:=d) (j - i) i (by omega) fun k h1 h2=>hn k (by omega) (.inl ⟨h1,by omega⟩)
  rw[show i+(j - i)=j by omega] at this;exact this.symm
 ·have:=c1h hrun f (d:=d) (i - j) j (by omega) fun k h1 h2=>hn k (by omega) (.inr ⟨h1,by omega⟩)
  rw[show j+(i - j)=i by omega] at this;exact this
theorem g2u(hrun:∀j,j<all.length→Run C gd all I U E bef j){S:Nat→Prop}(hat:At2 all.length U E S e)(hS:∀k,S k→∀m,m∈bef k→S m){i:Nat}(hi:i<all.length)(hni:¬S i)(hb:∀m,m∈bef i→S m):Same (E i) e (I i):=by
 have key:∀{d j k:Nat},(∀k,k<all.length→b0p U k d→(S k↔k<j))→k<all.length→(j≤k∧k<i)∨(i≤k∧k<j)→b0p U k d →
   k=i∨(d∉(I i).1∧(2*d∈(I i).2→c1d ((E k).get d) ((E (k+1)).get d)=true)∧(2*d+1∈(I i).2→c2i ((E k).get d) ((E (k+1)).get d)=true)):=by
  intro d j k hj hk hcase ht;have t:=(c8k (e:=E k) (ins:=I k)).1 ht;by_cases hki:k=i
  ·exact .inl hki
  ·refine .inr ?_;rcases hcase with⟨h1,h2⟩|⟨h1,h2⟩
   ·have hkS:¬S k:=fun hs=>by have:=(hj k hk ht).1 hs;omega
    rcases(hrun i hi).apart k h2 with h|h
    ·exact absurd (hb k h) hkS
    ·obtain⟨q1,_,_,q4,q5⟩:=d4h h (d:=d) (t.imp id GO);refine⟨q1,fun hw=>?_,fun hw=>?_⟩
     ·rw[(hrun k hk).next];exact t.elim (fun h=>absurd hw (q4 h)) And.right
     ·rw[(hrun k hk).next];exact d8f ht fun hc=>q5 hc hw
   ·have hkS:S k:=(hj k hk ht).2 h2;rcases(hrun k hk).apart i (by omega) with h|h
    ·exact absurd (hS k hkS i h) hni
    ·obtain⟨q1,q4,q5⟩:=e4q h (d:=d) (t.imp id GO);refine⟨q1,fun hw=>?_,fun hw=>?_⟩
     ·rw[(hrun k hk).next];exact t.elim (fun h=>absurd hw (q4 h)) And.right
     ·rw[(hrun k hk).next];exact d8f ht fun hc=>q5 hc hw
 have hself:∀{d j:Nat},(∀k,k<all.length→b0p U k d→(S k↔k<j))→b0p U i d→¬i<j:=fun hj ht hlt=>hni ((hj i hi ht).2 hlt)
 refine⟨fun d hd=>?_,fun d hd=>?_⟩
 ·obtain⟨j,hjl,he,hj⟩:=hat d;rw[he];refine f9y hrun hjl (Eb hi) fun k hk hc ht=>?_
  rcases key hj hk hc ht with rfl|⟨h,_⟩
  ·rcases hc with⟨h1,h2⟩|⟨h1,h2⟩
   ·omega
   ·exact hself hj ht h2
  ·exact h hd
 ·obtain⟨q,hq⟩:∃q,d=2*q∨d=2*q+1:=⟨d / 2,by omega⟩
  obtain⟨j,hjl,he,hj⟩:=hat q;rcases hq with rfl|rfl
  ·rw[e0p,e0p,he];refine d4a hrun Ent.mask hjl (Eb hi) fun k hk hc ht=>?_
   rcases key hj hk hc ht with rfl|⟨_,h,_⟩
   ·rcases hc with⟨h1,h2⟩|⟨h1,h2⟩
    ·omega
    ·exact absurd h2 (hself hj ht)
   ·exact e5c (h hd)
  ·rw[f0t,f0t,he];refine d4a hrun Ent.maskC hjl (Eb hi) fun k hk hc ht=>?_
   rcases key hj hk hc ht with rfl|⟨_,_,h⟩
   ·rcases hc with⟨h1,h2⟩|⟨h1,h2⟩
    ·omega
    ·exact absurd h2 (hself hj ht)
   ·exact d9t (h hd)
theorem g1e(hrun:∀j,j<all.length→Run C gd all I U E bef j){S:Nat→Prop}(hat:At2 all.length U E S e)(hS:∀k,S k→∀m,m∈bef k→S m){i:Nat}(hi:i<all.length)(hni:¬S i)(hb:∀m,m∈bef i→S m) :
  At2 all.length U E (fun k=>S k∨k=i) (e.app (U i)):=by
 intro d;obtain⟨j,hjl,he,hj⟩:=hat d;by_cases ht:b0p U i d
 ·have hik:∀k,k<all.length→b0p U k d→k≠i→(S k↔k<i):=by
   intro k hk htk hne;rcases Nat.lt_or_gt_of_ne hne with h|h
   ·exact⟨fun _=>h,fun _=>hb k (f2d hrun h hi htk ht)⟩
   ·exact⟨fun hs=>absurd (hS k hs i (f2d hrun h hk ht htk)) hni,fun h'=>by omega⟩
  refine⟨i+1,hi,?_,fun k hk htk=>?_⟩
  ·rw[(hrun i hi).next];refine c6z ?_;rw[he];refine f9y hrun hjl (Eb hi) fun k hk hc htk=>?_
   by_cases hki:k=i
   ·subst hki;have:¬k<j:=fun h=>hni ((hj k hk htk).2 h)
    omega
   ·have h1:=hj k hk htk;have h2:=hik k hk htk hki;rcases hc with⟨h3,h4⟩|⟨h3,h4⟩
    ·exact absurd (h1.1 (h2.2 h4)) (by omega)
    ·exact absurd (h2.1 (h1.2 h4)) (by omega)
  ·by_cases hki:k=i
   ·subst hki;exact⟨fun _=>by omega,fun _=>.inr rfl⟩
   ·show(S k∨k=i)↔_;rw[show(S k∨k=i)↔S k from⟨fun h=>h.resolve_right hki,.inl⟩,hik k hk htk hki];omega
 ·refine⟨j,hjl,?_,fun k hk htk=>?_⟩
  ·rw[a8v fun u hu hd=>ht ⟨u,hu,hd⟩];exact he
  ·have hki:k≠i:=fun h=>ht (h ▸ htk)
   show(S k∨k=i)↔_;rw[show(S k∨k=i)↔S k from⟨fun h=>h.resolve_right hki,.inl⟩];exact hj k hk htk
end
end Go.Rb

namespace Go.Rb
variable {A:Amb} {P:Program} {Z Z':Nat→Prop} {h h':Array Obj} {R:Type} {C:Ctx} {B:Base} {e e':En} {a:Act} {w w':World} {F F0:Nat→List Nat} {X X0:List Nat} {r:Nat→Ent} {o:Oper}
theorem Rel.drawn(hrel:Rel A P C B e a w Z F X)(n:Nat):Rel A P C B e a { w with drawn:=n } Z F X :=
 ⟨hrel.own,hrel.ref,hrel.nodup,hrel.disj,hrel.notZ,hrel.fb,hrel.fnew,hrel.xnodup,hrel.xdisj,hrel.xnotZ,hrel.xb,hrel.xnew,hrel.zb,hrel.z,hrel.znew,hrel.hs,hrel.keep,hrel.os,hrel.out,hrel.tape,hrel.defs,hrel.nt,hrel.glob,hrel.fix⟩
def unl(n:Nat)(listed:Array Bool):List Nat:=(List.range n).filter fun i=>!listed.getD i true
theorem c4t{l:Array Bool}{i:Nat}(hi:i<l.size):l.getD i true=l.getD i false:=by
 simp[Bt,hi]
theorem f3o{o:Oper}{m:Nat}(hm:m∈c2b o):∃e,e∈o.after.toList∧e.on=m∧Dw .any e=true:=by
 unfold c2b at hm;obtain⟨e,h1,h2⟩:=FX.1 hm;refine⟨e,h1,?_⟩;unfold Dw;cases hg:e.ground <;> rw[hg] at h2 <;> simp at h2 ⊢ <;> exact h2
theorem f3r{o:Oper}{e:Edge}(he:e∈o.after.toList)(hb:Dw .any e=true):e.on∈c2b o:=by
 unfold c2b;refine FX.2 ⟨e,he,?_⟩;unfold Dw at hb;cases hg:e.ground <;> rw[hg] at hb <;> first|rfl|exact absurd hb (by simp only[show(Fp==Jv)=false from rfl,show(Fp==Jw)=false from rfl];simp)
theorem d3s{ops:Array Oper}{listed:Array Bool}(hsz:listed.size=ops.size){i:Nat}:i∈Fg .any ops listed↔∃o,ops[i]?=some o∧listed.getD i false=false∧∀m,m∈c2b o→listed.getD m false=true:=by
 unfold Fg;rw[Ck,Bz];constructor
 ·rintro⟨hi,h⟩;rw[Af] at h;obtain⟨h1,h2⟩:=h;rw[c4t (by omega)] at h1;refine⟨ops[i],by simp[hi],by simpa using h1,fun m hm=>?_⟩;obtain⟨e,g1,rfl,g3⟩:=f3o hm;rw[Array.getElem?_eq_getElem hi] at h2;simp only[C2,DW] at h2;have:=FM.1 h2 e (by simpa using g1);rw[g3] at this;simpa using this
 ·rintro⟨o,h1,h2,h3⟩;have hi:i<ops.size:=by
   rcases AY i ops.size with h|h
   ·exact h
   ·rw[Bc h] at h1;simp at h1
  refine⟨hi,?_⟩;rw[Af,c4t (by omega),h2];refine⟨rfl,?_⟩;rw[h1];simp only[C2,DW];refine FM.2 fun e he=>?_
  cases hb:Dw .any e with
  |false=>rfl
  |true=>rw[h3 e.on (f3r (by simpa using he) hb)];rfl
theorem c2j{l:Array Bool}{i k:Nat}(hi:i<l.size):(l.setIfInBounds i true).getD k false=true↔(l.getD k false=true∨k=i):=by
 rw[Bt,Bt];by_cases hk:k=i
 ·subst hk;simp[hi]
 ·rw[Array.getElem?_setIfInBounds_ne (Ne.symm hk)];simp[hk]
theorem g4q{n i:Nat}{listed:Array Bool}(hsz:listed.size=n)(hi:i<n)(hl:listed.getD i false=false){f:Nat}(hu:(unl n listed).length=f+1):(unl n (listed.setIfInBounds i true)).length=f:=by
 have hmem:i∈unl n listed:=by
  unfold unl;rw[Ck,Bz];exact⟨hi,by rw[c4t (by omega),hl];rfl⟩
 have heq:unl n (listed.setIfInBounds i true)=(unl n listed).erase i:=by
  have hnd:(unl n listed).Nodup:=List.Nodup.sublist List.filter_sublist List.nodup_range;rw[hnd.erase_eq_filter];unfold unl;rw[List.filter_filter];refine List.filter_congr fun k hk=>?_
  have hkn:=Bz.1 hk;rw[c4t (by simp;omega),c4t (by omega)];have:=c2j (l:=listed) (k:=k) (by omega:i<listed.size);by_cases hki:k=i
  ·subst hki;rw[this.2 (.inr rfl)];simp
  ·have hb:(listed.setIfInBounds i true).getD k false=listed.getD k false:=by
    cases h1:listed.getD k false with
    |true=>exact this.2 (.inl h1)
    |false =>
     cases h2:(listed.setIfInBounds i true).getD k false with
     |false=>rfl
     |true =>
          rcases this.1 h2 with h|h
          ·rw[h1] at h;exact absurd h (by simp)
          ·exact absurd h hki
   rw[hb];simp[hki]
 rw[heq,List.length_erase_of_mem hmem,hu];rfl
section
variable {ops:Array Oper} {I:Nat→List Nat×List Nat} {U:Nat→List Up} {E:Nat→En} {bef:Nat→List Nat}
theorem f1r(hrun:∀j,j<ops.toList.length→Run C (a7f ops.toList) ops.toList I U E bef j){listed:Array Bool}(hsz:listed.size=ops.size):∀n i,i<n→i<ops.size→listed.getD i false=false→∃j,j∈Fg .any ops listed
 |0,i,hn,_,_=>by omega
 |n+1,i,hn,hi,hl=>by
  obtain⟨⟨o,g1,g2,g3,g4⟩,_,_⟩:=hrun i (by simpa using hi);rw[Cp] at g1;by_cases hall:∀m,m∈c2b o→listed.getD m false=true
  ·exact⟨i,(d3s hsz).2 ⟨o,g1,hl,hall⟩⟩
  ·obtain⟨m,hm⟩:=Classical.not_forall.1 hall;obtain⟨hm1,hm2⟩:=Classical.not_imp.1 hm;have hmi:=g3 m hm1;exact f1r hrun hsz n m (by omega) (by omega) (by simpa using hm2)
theorem d7p(htab:a3q P C)(hft:FtOK A P C)(hfix:c5i C B)(hrun:∀j,j<ops.toList.length→Run C (a7f ops.toList) ops.toList I U E bef j){Q:Exit→Act→World→Prop}
  (hq:∀a w Z F,Rel A P C B (E ops.toList.length) a w Z F []→Q .normal a w):∀(fuel:Nat) (listed:Array Bool) (e:En) (a:Act) (w:World) (Z:Nat→Prop) (F:Nat→List Nat),
  listed.size=ops.size→(unl ops.size listed).length=fuel→At2 ops.toList.length U E (fun k=>listed.getD k false=true) e→(∀k,listed.getD k false=true→∀m,m∈bef k→listed.getD m false=true) →
  Rel A P C B e a w Z F []→wpAny P .any ops Q fuel listed a w
 |0,listed,e,a,w,Z,F,hsz,hu,hat,hcl,hrel=>by
  have hall:∀k,k<ops.size→listed.getD k false=true:=by
   intro k hk;cases hl:listed.getD k false with
   |true=>rfl
   |false =>
    have:k∈unl ops.size listed:=by
     unfold unl;rw[Ck,Bz];exact⟨hk,by rw[c4t (by omega),hl];rfl⟩
    rw[List.length_eq_zero_iff.1 hu] at this;simp at this
  refine⟨?_,hq a w Z F (hrel.congr fun d=>?_)⟩
  ·rw[List.eq_nil_iff_forall_not_mem];intro i hi;obtain⟨o,h1,h2,_⟩:=(d3s hsz).1 hi;have hi':i<ops.size:=by
    rcases AY i ops.size with h|h
    ·exact h
    ·rw[Bc h] at h1;simp at h1
   rw[hall i hi'] at h2;simp at h2
  ·obtain⟨j,hjl,he,hj⟩:=hat d;rw[he];refine(f9y hrun hjl (Av _) fun k hk hc ht=>?_).symm;have:=(hj k hk ht).1 (hall k (by simpa using hk));omega
 |fuel+1,listed,e,a,w,Z,F,hsz,hu,hat,hcl,hrel=>by
  refine⟨fun hr=>?_,fun i hi=>?_⟩
  ·exfalso;obtain⟨i,hi⟩:∃i,i∈unl ops.size listed:=by
    cases hul:unl ops.size listed with
    |nil=>rw[hul] at hu;simp at hu
    |cons i _=>exact⟨i,by simp⟩
   unfold unl at hi;rw[Ck,Bz] at hi;obtain⟨h1,h2⟩:=hi;rw[c4t (by omega)] at h2;obtain⟨j,hj⟩:=f1r hrun hsz (i+1) i (by omega) h1 (by simpa using h2);rw[hr] at hj;simp at hj
  ·obtain⟨o,h1,h2,h3⟩:=(d3s hsz).1 hi;have hin:i<ops.size:=by
    rcases AY i ops.size with h|h
    ·exact h
    ·rw[Bc h] at h1;simp at h1
   have hin':i<ops.toList.length:=by simpa using hin
   obtain⟨⟨o',g1,g2,g3,g4⟩,_,_⟩:=hrun i hin';rw[Cp,h1] at g1;obtain rfl:=Ai g1;have hni:¬listed.getD i false=true:=by rw[h2];simp
   have hb:∀m,m∈bef i→listed.getD m false=true:=by
    intro m hm;rw[g4] at hm;rcases d2a hm with⟨q,hq1,hq2⟩|hm
    ·rcases hq2 with rfl|hq2
     ·exact h3 _ (CI.1 hq1)
     ·exact hcl q (h3 q (CI.1 hq1)) m hq2
    ·simp at hm
   have hstep:=e9d htab hft hfix hrel (ops:=ops) (f3h g2 (g2u hrun hat hcl hin' hni hb));unfold wpOp;rw[h1];refine hstep _ Q fun a' w' Z' F' hr'=>?_
   refine d7p htab hft hfix hrun hq fuel (listed.setIfInBounds i true) _ a' w' Z' F' (by simpa using hsz) (g4q hsz hin h2 hu) ?_ ?_ hr'
   ·have:=g1e hrun hat hcl hin' hni hb;intro d;obtain⟨j,q1,q2,q3⟩:=this d;exact⟨j,q1,q2,fun k hk ht=>(c2j (by omega)).trans (q3 k hk ht)⟩
   ·intro k hk m hm;rw[c2j (by omega)] at hk ⊢;rcases hk with hk|rfl
    ·exact .inl (hcl k hk m hm)
    ·exact .inl (hb m hm)
end
theorem f4v(hmix:P.follows .mixedOrders=true)(htab:a3q P C)(hft:FtOK A P C)(hfix:c5i C B)(hrel:Rel A P C B e a w Z F []){id:Nat}{ops:Array Oper}{k:En→Option R}{res:R}{Q:Exit→Act→World→Prop}
  (hk:d2u C (a7f ops.toList) ops.toList ops.toList e [] [] k=some res) (hq:∀e a w Z F,k e=some res→Rel A P C B e a w Z F []→Q .normal a w):(Code.region id ops true).wp P Q a w:=by
 obtain⟨I,U,E,bef,g1,g2,g3⟩:=c9n ops.toList 0 e [] [] (fun _=>([],[])) (fun _=>[]) (fun _=>e) (fun _=>[]) rfl (BF _) rfl rfl (fun j hj=>absurd hj (by omega)) (fun j hj=>absurd hj (by omega)) (fun j hj=>absurd hj (by omega)) hk;refine wp_region_any hmix ?_;refine d7p htab hft hfix g1 (fun a w Z F hr=>hq _ a w Z F g3 hr) ops.size (Array.replicate ops.size false) e a _ Z F (by simp) ?_ ?_ ?_ (hrel.drawn _)
 ·unfold unl;rw[List.filter_eq_self.2]
  ·simp
  ·intro i hi;rw[Bz] at hi;simp[Bt,hi]
 ·intro d;refine⟨0,BF _,by rw[g2 0 (Av _)],fun k hk _=>⟨fun h=>?_,fun h=>absurd h (by omega)⟩⟩;dsimp only at h;rw[Bt] at h;have hk':k<ops.size:=by simpa using hk
  simp[hk'] at h
 ·intro k hk;rw[Bt] at hk;by_cases hk':k<ops.size
  ·simp[hk'] at hk
  ·simp[hk'] at hk
end Go.Rb
