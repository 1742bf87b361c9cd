/- Rb: the translator's functions hand on whatever their continuation makes. Own work. -/
import Derived.Test.YthkgkalebkbndaaGreatDoorRbA
import Derived.Test.YthkgkalebkbndaaGreatDoorRbC
set_option autoImplicit false
set_option linter.unusedVariables false
set_option linter.unusedSimpArgs false
open And renaming left->FT
open Array renaming all_eq_true'->EO,getD_eq_getD_getElem?->Bp,getElem?_eq_none->Cn,getElem?_toList->BU
open Bool renaming and_eq_true->Af,not_eq_true'->B2
open Go.Region renaming binds->CZ,ready->E2,wanted->Bs
open Go.Region.Mode renaming any->E7,gc->Is,text->Ir
open HEq renaming rfl->Dg
open List renaming all_eq_true->BZ,filterMap_cons->EN,mem_append_left->Am,mem_append_right->Al,mem_cons->A3,mem_cons_of_mem->AE,mem_cons_self->Cf,mem_filter->Cb,mem_filterMap->EU,mem_map->Cs,mem_range->Cm,mem_reverse->Cr
open Nat renaming beq->AB,le_of_lt->D5,le_refl->Ar,le_total->Ia,lt_or_ge->BQ,lt_succ_iff_lt_or_eq->CY,ne_of_lt->HZ,zero_le->A8
open Option renaming getD_some->Dw,map_some->Ca
open Option.some renaming inj->Ag,injEq->Ad
open Prod.mk renaming injEq->Aj
namespace Go.Rb
variable {R R':Type} {Φ:Option R→Option R'→Prop}
theorem a7u(h0:Φ none none){a b:Ty}{x:a.den}{k:b.den→Option R}{k':b.den→Option R'}(hk:∀y,Φ (k y) (k' y)):Φ (b0f a b x k) (b0f a b x k'):=by
 unfold b0f
 repeat' split
 all_goals first|exact h0|exact hk _
theorem c8r(h0:Φ none none){a b:Ty}{x:a.den}{k:b.den→Option R}{k':b.den→Option R'}(hk:∀y,Φ (k y) (k' y)):Φ (d6r a b x k) (d6r a b x k'):=by
 unfold d6r;split
 ·exact hk _
 ·exact hk _
 ·rename_i hne1 hne2;split
  ·exact(hne1 _ _ rfl Dg rfl Dg).elim
  ·exact(hne2 _ _ rfl Dg rfl Dg).elim
  ·exact a7u h0 hk
theorem b3z(h0:Φ none none){a b:Ty}{x:a.den}{k:b.den→Option R}{k':b.den→Option R'}(hk:∀y,Φ (k y) (k' y)):Φ (c5u a b x k) (c5u a b x k'):=by
 unfold c5u
 repeat' split
 all_goals first|exact h0|exact hk _
theorem b9h(h0:Φ none none):∀{t:Ty} {x:t.den} {i:Nat} {k:(t':Ty)→t'.den→Option R} {k':(t':Ty)→t'.den→Option R'},(∀t y,Φ (k t y) (k' t y))→Φ (comp t x i k) (comp t x i k'):=by
 intro t
 induction t with
 |pair a b iha ihb =>
  intro x i k k' hk;cases i with
  |zero=>exact hk _ _
  |succ i=>exact ihb hk
 |_=>intro x i k k' hk;exact h0
theorem b0h(h0:Φ none none):∀{p:List Stp} {t:Ty} {x:t.den} {k:(t':Ty)→t'.den→Option R} {k':(t':Ty)→t'.den→Option R'},(∀t y,Φ (k t y) (k' t y))→Φ (b2z p t x k) (b2z p t x k')
 |[],t,x,k,k',hk=>hk _ _
 |.f i::p,t,x,k,k',hk=>by
  cases t <;> first|exact h0|exact b9h h0 fun _ _=>b0h (p:=p) h0 hk
 |.a j::p,t,x,k,k',hk=>by
  cases t <;> first|exact h0|exact b0h (p:=p) h0 hk
theorem b0j(h0:Φ none none){p:Pl}{t:Ty}{x:t.den}{k:(t':Ty)→t'.den→Option R}{k':(t':Ty)→t'.den→Option R'}(hk:∀t y,Φ (k t y) (k' t y)):Φ (a3m p t x k) (a3m p t x k'):=by
 unfold a3m;refine b0h h0 fun t y=>?_
 repeat' split
 all_goals first|exact h0|exact hk _ _|exact b0h h0 hk
theorem d7q(h0:Φ none none):∀{t:Ty} {x:t.den} {i:Nat} {t2:Ty} {y:t2.den} {k:(t':Ty)→t'.den→Option R} {k':(t':Ty)→t'.den→Option R'},(∀t y,Φ (k t y) (k' t y))→Φ (e7d t x i t2 y k) (e7d t x i t2 y k'):=by
 intro t
 induction t with
 |pair a b iha ihb =>
  intro x i t2 y k k' hk;cases i with
  |zero=>exact hk _ _
  |succ i=>exact ihb fun _ _=>hk _ _
 |_=>intro x i t2 y k k' hk;exact h0
theorem b1b(h0:Φ none none):∀{p:List Stp} {t:Ty} {x:t.den} {t2:Ty} {y:t2.den} {k:(t':Ty)→t'.den→Option R} {k':(t':Ty)→t'.den→Option R'},(∀t y,Φ (k t y) (k' t y))→Φ (b5s p t x t2 y k) (b5s p t x t2 y k')
 |[],t,x,t2,y,k,k',hk=>hk _ _
 |.f i::p,t,x,t2,y,k,k',hk=>by
  cases t <;> first|exact h0|exact b9h h0 fun _ _=>b1b (p:=p) h0 fun _ _=>d7q h0 fun _ _=>hk _ _
 |.a j::p,t,x,t2,y,k,k',hk=>by
  cases t <;> first|exact h0|exact b1b (p:=p) h0 fun _ _=>b3z h0 fun _=>hk _ _
theorem d5p(h0:Φ none none){t2:Ty}{y:t2.den}{p:Pl}{t:Ty}{x:t.den}{k:(t':Ty)→t'.den→Option R}{k':(t':Ty)→t'.den→Option R'}(hk:∀t y,Φ (k t y) (k' t y)):Φ (c0p t2 y p t x k) (c0p t2 y p t x k'):=by
 unfold c0p;refine b0h h0 fun t y=>?_
 split
 ·split
  ·exact b1b h0 hk
  ·exact h0
 ·split
  ·refine b0h h0 fun _ _=>?_
   split
   ·exact b1b h0 fun _ _=>b3z h0 fun _=>b1b h0 hk
   ·exact h0
  ·split
   ·refine b3z h0 fun _=>?_
    split
    ·exact b1b h0 hk
    ·exact h0
   ·exact h0
  ·exact h0
theorem d1t(h0:Φ none none){p:Pl}{t:Ty}{x:t.den}{k:(t':Ty)→t'.den→Option R}{k':(t':Ty)→t'.den→Option R'}(hk:∀t y,Φ (k t y) (k' t y)):Φ (b6p p t x k) (b6p p t x k'):=by
 unfold b6p;refine b0h h0 fun t y=>?_
 repeat' split
 all_goals first|exact h0|exact b1b h0 hk
theorem b2e(h0:Φ none none){r:Nat→Ent}{p:Pl}{v c:Nat}{k:(t':Ty)→t'.den→Option R}{k':(t':Ty)→t'.den→Option R'}(hk:∀t y,Φ (k t y) (k' t y)):Φ (c2s r p v c k) (c2s r p v c k'):=by
 unfold c2s
 repeat' split
 all_goals first|exact h0|exact hk _ _
theorem e9g(h0:Φ none none){c:Value}{k:(t':Ty)→t'.den→Option R}{k':(t':Ty)→t'.den→Option R'}(hk:∀t y,Φ (k t y) (k' t y)):Φ (lit c k) (lit c k'):=by
 unfold lit
 repeat' split
 all_goals first|exact h0|exact hk _ _
theorem a2i(h0:Φ none none){r:Nat→Ent}{o:Operand}{k:(t':Ty)→t'.den→Org→Option R}{k':(t':Ty)→t'.den→Org→Option R'}(hk:∀t y g,Φ (k t y g) (k' t y g)):Φ (view r o k) (view r o k'):=by
 unfold view;split
 ·exact e9g h0 fun _ _=>hk _ _ _
 ·split
  ·exact hk _ _ _
  ·exact b2e h0 fun _ _=>b0j h0 fun _ _=>hk _ _ _
  ·exact hk _ _ _
  ·exact hk _ _ _
  ·exact h0
 ·exact h0
theorem c6g(h0:Φ none none){r:Nat→Ent}{p:Pl}{b:Bump}{t:Ty}{x:t.den}{k:List Up→Option R}{k':List Up→Option R'}(hk:∀us,Φ (k us) (k' us)):Φ (putK r p b t x k) (putK r p b t x k'):=by
 unfold putK;split
 ·exact d5p h0 fun _ _=>hk _
 ·exact d5p h0 fun _ _=>hk _
 ·exact h0
theorem f5j(h0:Φ none none){r:Nat→Ent}{t:Ty}{x:t.den}{o:Org}{k:List Up→Option R}{k':List Up→Option R'}(hk:∀us,Φ (k us) (k' us)):Φ (frzK r t x o k) (frzK r t x o k'):=by
 unfold frzK;split
 ·exact hk _
 ·refine a7u h0 fun _=>?_
  split
  ·exact hk _
  ·exact c6g h0 hk
  ·exact h0
theorem b7w(h0:Φ none none){r:Nat→Ent}{o:Org}{k:List Up→Option R}{k':List Up→Option R'}(hk:∀us,Φ (k us) (k' us)):Φ (c4o r o k) (c4o r o k'):=by
 unfold c4o;split
 ·exact hk _
 ·split
  ·exact d1t h0 fun _ _=>hk _
  ·exact d1t h0 fun _ _=>hk _
  ·exact h0
 ·exact h0
theorem f1h(h0:Φ none none){C:Ctx}{f:Nat}{t:Ty}{k:t.den→Option R}{k':t.den→Option R'}(hk:∀y,Φ (k y) (k' y)):Φ (e6m C f t k) (e6m C f t k'):=by
 unfold e6m;split
 ·split
  ·exact a7u h0 hk
  ·exact h0
 ·split
  ·exact a7u h0 hk
  ·exact h0
 ·exact h0
theorem f1x(h0:Φ none none){C:Ctx}{f:Nat}{t:Ty}{k:t.den→Option R}{k':t.den→Option R'}(hk:∀y,Φ (k y) (k' y)):Φ (fnT C f t k) (fnT C f t k'):=by
 unfold fnT;split
 ·split
  ·exact hk _
  ·exact h0
 ·rename_i hne;split
  ·exact(hne _ _ rfl Dg).elim
  ·exact f1h h0 hk
theorem f4f(h0:Φ none none){r:Nat→Ent}{p:Pl}{v c:Nat}{lo hi:Int}{t:Ty}{k:t.den→List Up→Option R}{k':t.den→List Up→Option R'}(hk:∀y us,Φ (k y us) (k' y us)):Φ (subT r p v c lo hi t k) (subT r p v c lo hi t k'):=by
 unfold subT;split
 ·refine b2e h0 fun _ _=>b0j h0 fun _ _=>?_
  split
  ·exact b7w h0 fun _=>a7u h0 fun _=>hk _ _
  ·exact h0
 ·exact h0
theorem c6q(h0:Φ none none){C:Ctx}{r:Nat→Ent}{o:Operand}{t:Ty}{k:t.den→List Up→Option R}{k':t.den→List Up→Option R'}(hk:∀y us,Φ (k y us) (k' y us)):Φ (asT0 C r o t k) (asT0 C r o t k'):=by
 have hgo:Φ (asT0.go r o t k) (asT0.go r o t k'):=by
  unfold asT0.go;refine a2i h0 fun _ _ _=>c8r h0 fun _=>?_
  split
  ·exact b7w h0 fun _=>hk _ _
  ·exact f5j h0 fun _=>hk _ _
 unfold asT0;split
 ·exact f1x h0 fun _=>hk _ _
 ·cases t <;> first|exact h0|exact hk _ _
 ·split
  ·cases t <;> first|exact h0|exact hk _ _
  ·exact f1x h0 fun _=>hk _ _
  ·exact f4f h0 hk
  ·exact hgo
 ·exact hgo
theorem b6c(h0:Φ none none){C:Ctx}{r:Nat→Ent}{o:Operand}{t:Ty}{k:t.den→List Up→Option R}{k':t.den→List Up→Option R'}(hk:∀y us,Φ (k y us) (k' y us)):Φ (asT C r o t k) (asT C r o t k'):=by
 by_cases h1:t=.lf .nil0
 ·subst h1;unfold asT;dsimp only;split
  ·exact hk _ _
  ·exact c6q h0 hk
 by_cases h2:t=.lf .nlb
 ·subst h2;unfold asT;dsimp only;split
  ·exact hk _ _
  ·exact c6q h0 hk
  ·refine c6q h0 fun y us=>?_
   split
   ·exact h0
   ·exact hk _ _
 ·have e:∀{R:Type} (k:t.den→List Up→Option R),asT C r o t k=asT0 C r o t k:=by
   intro R k;unfold asT;split
   ·exact absurd rfl h1
   ·exact absurd rfl h2
   ·rfl
  rw[e,e];exact c6q h0 hk
end Go.Rb

namespace Go.Rb
variable {R R':Type} {Φ:Option R→Option R'→Prop}
theorem d4t(h0:Φ none none){α:Type}{x:Option α}{k:α→Option R}{k':α→Option R'}(hk:∀y,Φ (k y) (k' y)):Φ (x.bind k) (x.bind k'):=by
 cases x with
 |none=>exact h0
 |some y=>exact hk y
theorem a4g{dst:Option Nat}{s:SV}{us:List Up}{k:List Up→Option R}{k':List Up→Option R'}(hk:∀us,Φ (k us) (k' us)):Φ (fin dst s us k) (fin dst s us k'):=by
 unfold fin;split <;> exact hk _
theorem b6i(h0:Φ none none){C:Ctx}{r:Nat→Ent}{o:Operand}{kp:(t:Ty)→t.den→Option R}{kp':(t:Ty)→t.den→Option R'}{kl:Pl→Nat→Nat→(t:Ty)→t.den→Option R}{kl':Pl→Nat→Nat→(t:Ty)→t.den→Option R'}
  (hp:∀t y,Φ (kp t y) (kp' t y)) (hl:∀p v c t y,Φ (kl p v c t y) (kl' p v c t y)):Φ (locK C r o kp kl) (locK C r o kp' kl'):=by
 unfold locK;split
 ·split
  ·exact hp _ _
  ·exact h0
 ·split
  ·exact hp _ _
  ·exact hl _ _ _ _ _
  ·split
   ·split
    ·exact b0j h0 fun _ _=>hl _ _ _ _ _
    ·exact b0j h0 fun _ _=>hl _ _ _ _ _
    ·exact h0
   ·exact h0
  ·exact h0
 ·exact h0
theorem e8d(h0:Φ none none){op:BinOp}{kd:IntKind}{x y:Int}{k:(t:Ty)→t.den→Option R}{k':(t:Ty)→t.den→Option R'}(hk:∀t y,Φ (k t y) (k' t y)):Φ (e5j op kd x y k) (e5j op kd x y k'):=by
 cases op <;> unfold e5j <;> dsimp only <;> first|exact hk _ _|(split <;> first|exact h0|exact hk _ _)
theorem e9q(h0:Φ none none){op:BinOp}{x y:List Int}{k:(t:Ty)→t.den→Option R}{k':(t:Ty)→t.den→Option R'}(hk:∀t y,Φ (k t y) (k' t y)):Φ (e5e op x y k) (e5e op x y k'):=by
 cases op <;> unfold e5e <;> dsimp only <;> first|exact h0|exact hk _ _|(split <;> first|exact h0|exact hk _ _)
theorem f2x(h0:Φ none none){C:Ctx}{op:BinOp}{T:Nat}{con:Bool}{t:Ty}{x:t.den}{t':Ty}{y:t'.den}{k:(t:Ty)→t.den→Option R}{k':(t:Ty)→t.den→Option R'}(hk:∀t y,Φ (k t y) (k' t y)) :
  Φ (binK C op T con t x t' y k) (binK C op T con t x t' y k'):=by
 unfold binK;split
 ·split
  ·exact e8d h0 hk
  ·exact h0
 ·exact e9q h0 hk
 ·split
  ·split <;> first|exact h0|exact hk _ _
  ·exact h0
 ·split
  ·split <;> first|exact h0|exact hk _ _
  ·exact h0
 ·split
  ·split
   ·refine b3z h0 fun _=>?_
    split
    ·split <;> first|exact h0|exact hk _ _
    ·exact h0
   ·exact h0
  ·exact h0
 ·exact h0
theorem f7a(h0:Φ none none){op:UnOp}{t:Ty}{x:t.den}{k:(t:Ty)→t.den→Option R}{k':(t:Ty)→t.den→Option R'}(hk:∀t y,Φ (k t y) (k' t y)):Φ (unK op t x k) (unK op t x k'):=by
 unfold unK;split <;> first|exact h0|exact hk _ _
theorem c6k(h0:Φ none none){C:Ctx}{r:Nat→Ent}{o:Operand}{want:Option Ty}{k:(t:Ty)→t.den→List Up→Option R}{k':(t:Ty)→t.den→List Up→Option R'}(hk:∀t y us,Φ (k t y us) (k' t y us)):Φ (anyT C r o want k) (anyT C r o want k'):=by
 have hgo:Φ (anyT.go r o k) (anyT.go r o k'):=by
  unfold anyT.go;refine a2i h0 fun _ _ _=>?_
  split
  ·exact hk _ _ _
  ·exact b7w h0 fun _=>hk _ _ _
 unfold anyT;split
 ·split <;> first|exact h0|exact hk _ _ _
 ·split
  ·split <;> first|exact h0|exact hk _ _ _
  ·exact hgo
 ·exact hgo
theorem d1w(h0:Φ none none){C:Ctx}:∀{ps:List (Nat×Operand)} {r:Nat→Ent} {us:List Up} {t:Ty} {x:t.den} {k:(t:Ty)→t.den→List Up→Option R} {k':(t:Ty)→t.den→List Up→Option R'},(∀t y us,Φ (k t y us) (k' t y us))→Φ (c9e C ps r us t x k) (c9e C ps r us t x k')
 |[],r,us,t,x,k,k',hk=>hk _ _ _
 |(i,o)::ps,r,us,t,x,k,k',hk=>by
  unfold c9e;refine c6k h0 fun _ _ _=>b9h h0 fun _ _=>?_
  split
  ·exact d7q h0 fun _ _=>d1w (ps:=ps) h0 hk
  ·exact h0
theorem d1z(h0:Φ none none){C:Ctx}{te:Ty}{n:Nat}:∀{ps:List (Nat×Operand)} {r:Nat→Ent} {us:List Up} {l:List te.den} {k:List te.den→List Up→Option R} {k':List te.den→List Up→Option R'},(∀l us,Φ (k l us) (k' l us))→Φ (c8m C te n ps r us l k) (c8m C te n ps r us l k')
 |[],r,us,l,k,k',hk=>hk _ _
 |(i,o)::ps,r,us,l,k,k',hk=>by
  unfold c8m;split
  ·exact b6c h0 fun _ _=>d1z (ps:=ps) h0 hk
  ·exact h0
theorem c7a(h0:Φ none none){C:Ctx}:∀{ps:List PS} {os:List Operand} {r:Nat→Ent} {us:List Up} {k:a3a ps→List Up→Option R} {k':a3a ps→List Up→Option R'},(∀z us,Φ (k z us) (k' z us))→Φ (a9c C ps os r us k) (a9c C ps os r us k')
 |[],os,r,us,k,k',hk=>by
  cases os with
  |nil=>exact hk _ _
  |cons=>exact h0
 |.val t::ps,os,r,us,k,k',hk=>by
  cases os with
  |nil=>cases t <;> exact h0
  |cons o os =>
   cases t with
   |ptr t =>
    unfold a9c;split
    ·refine b6i h0 (fun _ _=>a7u h0 fun _=>c7a (ps:=ps) h0 fun _ _=>hk _ _) fun _ _ _ _ _=>?_
     split
     ·exact a7u h0 fun _=>c7a (ps:=ps) h0 fun _ _=>hk _ _
     ·exact h0
    ·exact h0
   |_=>exact h0
 |.io t::ps,os,r,us,k,k',hk=>by cases os <;> exact h0
 |.sio t::ps,os,r,us,k,k',hk=>by cases os <;> exact h0
theorem f1e(h0:Φ none none){C:Ctx}{f:Nat}{caps:List Operand}{r:Nat→Ent}{k:(t:Ty)→t.den→List Up→Option R}{k':(t:Ty)→t.den→List Up→Option R'}(hk:∀t y us,Φ (k t y us) (k' t y us)):Φ (e7h C f caps r k) (e7h C f caps r k'):=by
 unfold e7h;split <;> first|exact h0|(split <;> first|exact h0|exact c7a h0 fun _ _=>hk _ _ _|exact hk _ _ _)
theorem e0f(h0:Φ none none){C:Ctx}{t:Ty}{o:Operand}{r:Nat→Ent}{k:t.den→List Up→List Nat→Option R}{k':t.den→List Up→List Nat→Option R'}(hk:∀y us b,Φ (k y us b) (k' y us b)):Φ (c3z C t o r k) (c3z C t o r k'):=by
 unfold c3z;split
 ·split
  ·exact c8r h0 fun _=>hk _ _ _
  ·exact b2e h0 fun _ _=>b0j h0 fun _ _=>c8r h0 fun _=>hk _ _ _
  ·exact b6c h0 fun _ _=>hk _ _ _
 ·exact b6c h0 fun _ _=>hk _ _ _
theorem b5j(h0:Φ none none){C:Ctx}{flat:Bool}:∀{ps:List PS} {os:List Operand} {r:Nat→Ent} {us:List Up} {bs qs:List Nat} {k:a3a ps→List Up→List Nat→Option R} {k':a3a ps→List Up→List Nat→Option R'},
  (∀z us qs,Φ (k z us qs) (k' z us qs))→Φ (b5u C flat ps os r us bs qs k) (b5u C flat ps os r us bs qs k')
 |[],os,r,us,bs,qs,k,k',hk=>by
  cases os with
  |nil=>exact hk _ _ _
  |cons=>exact h0
 |.val t::ps,os,r,us,bs,qs,k,k',hk=>by
  cases os with
  |nil=>exact h0
  |cons o os =>
   unfold b5u;split
   ·refine e0f h0 fun _ _ _=>?_
    split
    ·exact b5j (ps:=ps) h0 fun _ _ _=>hk _ _ _
    ·exact h0
   ·refine b6c h0 fun _ _=>?_
    split
    ·exact b5j (ps:=ps) h0 fun _ _ _=>hk _ _ _
    ·exact h0
 |.io t::ps,os,r,us,bs,qs,k,k',hk=>by
  cases os with
  |nil=>exact h0
  |cons o os =>
   unfold b5u;refine b6i h0 (fun _ _=>h0) fun _ _ _ _ _=>?_
   split
   ·split
    ·exact b3z h0 fun _=>b5j (ps:=ps) h0 fun _ _ _=>hk _ _ _
    ·exact h0
   ·exact h0
 |.sio t::ps,os,r,us,bs,qs,k,k',hk=>by
  cases os with
  |nil=>exact h0
  |cons o os =>
   unfold b5u;split
   ·split
    ·split
     ·exact b3z h0 fun _=>b5j (ps:=ps) h0 fun _ _ _=>hk _ _ _
     ·exact h0
    ·split
     ·refine b2e h0 fun _ _=>?_
      split
      ·exact b3z h0 fun _=>b5j (ps:=ps) h0 fun _ _ _=>hk _ _ _
      ·exact h0
     ·exact h0
    ·exact h0
   ·exact h0
theorem f9w(h0:Φ none none){dst:Option Nat}{rs:List RS}{y:b7i rs}{us:List Up}{k:List Up→Option R}{k':List Up→Option R'}(hk:∀us,Φ (k us) (k' us)):Φ (rsK dst rs y us k) (rsK dst rs y us k'):=by
 unfold rsK;split
 ·exact a4g hk
 ·exact a4g hk
 ·exact a4g hk
 ·split
  ·exact a4g hk
  ·exact h0
theorem d6q(h0:Φ none none){C:Ctx}{f:Nat}{args:List Operand}{dst:Option Nat}{r:Nat→Ent}{k:List Up→Option R}{k':List Up→Option R'}(hk:∀us,Φ (k us) (k' us)):Φ (d7x C f args dst r k) (d7x C f args dst r k'):=by
 unfold d7x;split
 ·exact b5j h0 fun _ _ _=>d4t h0 fun _=>f9w h0 hk
 ·exact h0
theorem f4t(h0:Φ none none){t:Ty}{x:t.den}{k:Int→Option R}{k':Int→Option R'}(hk:∀n,Φ (k n) (k' n)):Φ (lenK t x k) (lenK t x k'):=by
 unfold lenK;split <;> first|exact h0|exact hk _|(split <;> first|exact h0|exact hk _)
theorem e3n(h0:Φ none none){sok:Bool}{t t':Ty}{x:t'.den}{k:List t.den→Option R}{k':List t.den→Option R'}(hk:∀l,Φ (k l) (k' l)):Φ (appK.src2 sok t t' x k) (appK.src2 sok t t' x k'):=by
 unfold appK.src2;split
 ·exact a7u h0 hk
 ·split
  ·exact a7u h0 hk
  ·exact h0
 ·split
  ·exact a7u h0 hk
  ·exact h0
 ·exact h0
theorem d2y(h0:Φ none none){sok:Bool}{t:Ty}{b:Operand}{r:Nat→Ent}{k:List t.den→Option R}{k':List t.den→Option R'}(hk:∀l,Φ (k l) (k' l)):Φ (appK.srcK sok t b r k) (appK.srcK sok t b r k'):=by
 unfold appK.srcK;split
 ·exact hk _
 ·split
  ·exact hk _
  ·refine b2e h0 fun _ _=>b0j h0 fun _ _=>?_
   split
   ·split
    ·exact a7u h0 hk
    ·exact h0
   ·exact h0
  ·exact a2i h0 fun _ _ _=>e3n h0 hk
 ·exact a2i h0 fun _ _ _=>e3n h0 hk
theorem e2n(h0:Φ none none){C:Ctx}{args:List Operand}{T:Nat}{dst:Option Nat}{r:Nat→Ent}{k:List Up→Option R}{k':List Up→Option R'}(hk:∀us,Φ (k us) (k' us)):Φ (appK C args T dst r k) (appK C args T dst r k'):=by
 unfold appK;split
 ·rename_i a b m e0 te0 hT;have hput:∀(e:Nat) (t:Ty) (l:List t.den) (us:List Up),Φ
    (match decide (t.imm=te0.imm)&&AB e e0&&(zeroCells te0).isSome with
     |true=>appK.srcK true t b (upd r []) fun m=>if(l.length+m.length)*e≤room then fin dst (.val (.sl .own e t) (l++m)) us k else none
     |false=>none)
    (match decide (t.imm=te0.imm)&&AB e e0&&(zeroCells te0).isSome with
     |true=>appK.srcK true t b (upd r []) fun m=>if(l.length+m.length)*e≤room then fin dst (.val (.sl .own e t) (l++m)) us k' else none
     |false=>none):=by
   intro e t l us;split
   ·refine d2y h0 fun _=>?_
    split
    ·exact a4g hk
    ·exact h0
   ·exact h0
  dsimp only;split
  ·split
   ·exact hput _ _ _ _
   ·split
    ·refine b2e h0 fun _ _=>b0j h0 fun _ _=>?_
     split
     ·exact b7w h0 fun _=>hput _ _ _ _
     ·exact h0
    ·exact h0
   ·refine a2i h0 fun _ _ _=>?_
    split
    ·exact b7w h0 fun _=>hput _ _ _ _
    ·exact h0
  ·exact hput _ _ _ _
  ·exact h0
 ·exact h0
theorem e3w(h0:Φ none none){mx:Bool}{args:List Operand}{dst:Option Nat}{r:Nat→Ent}{k:List Up→Option R}{k':List Up→Option R'}(hk:∀us,Φ (k us) (k' us)):Φ (minK mx args dst r k) (minK mx args dst r k'):=by
 unfold minK;split
 ·refine a2i h0 fun _ _ _=>a2i h0 fun _ _ _=>?_
  split
  ·split
   ·split <;> exact a4g hk
   ·exact h0
  ·exact h0
 ·exact h0
theorem c7q(h0:Φ none none){o:Org}{k:Pl→Option R}{k':Pl→Option R'}(hk:∀p,Φ (k p) (k' p)):Φ (c5z o k) (c5z o k'):=by
 unfold c5z;split
 ·exact hk _
 ·split
  ·exact h0
  ·exact hk _
 ·exact h0
theorem d5m(h0:Φ none none){r:Nat→Ent}{o:Option Operand}{k:Option Int→Option R}{k':Option Int→Option R'}(hk:∀x,Φ (k x) (k' x)):Φ (cutK.bound r o k) (cutK.bound r o k'):=by
 unfold cutK.bound;split
 ·exact hk _
 ·refine a2i h0 fun _ _ _=>?_
  split
  ·exact hk _
  ·exact h0
theorem c6x(h0:Φ none none){l h:Option Int}{n:Nat}{k:Int→Int→Option R}{k':Int→Int→Option R'}(hk:∀x y,Φ (k x y) (k' x y)):Φ (cutK.range l h n k) (cutK.range l h n k'):=by
 unfold cutK.range;split <;> first|exact hk _ _|(split <;> first|exact h0|exact hk _ _)
theorem f5i(h0:Φ none none){C:Ctx}{T:Nat}{x:Operand}{lo hi:Option Operand}{dst:Option Nat}{r:Nat→Ent}{k:List Up→Option R}{k':List Up→Option R'}(hk:∀us,Φ (k us) (k' us)):Φ (cutK C T x lo hi dst r k) (cutK C T x lo hi dst r k'):=by
 unfold cutK;refine d5m h0 fun _=>d5m h0 fun _=>a2i h0 fun _ _ _=>?_
 split
 ·exact h0
 ·split
  ·exact c6x h0 fun _ _=>a4g hk
  ·exact c6x h0 fun _ _=>a4g hk
  ·exact c7q h0 fun _=>c6x h0 fun _ _=>a4g hk
  ·exact h0
theorem c1a(h0:Φ none none){i:Int}{n:Nat}{x:Option R}{x':Option R'}(hx:Φ x x'):Φ (atI i n x) (atI i n x'):=by
 unfold atI;split
 ·exact hx
 ·exact h0
theorem c7j(h0:Φ none none){p:Pl}{t:Ty}{x:t.den}{k:Ty→Option R}{k':Ty→Option R'}(hk:∀t,Φ (k t) (k' t)):Φ (c0v p t x k) (c0v p t x k'):=by
 unfold c0v;refine b0h h0 fun _ _=>?_
 split
 ·exact hk _
 ·split
  ·exact b0h h0 fun _ _=>hk _
  ·split
   ·exact hk _
   ·exact h0
  ·exact h0
theorem c8d(h0:Φ none none){r:Nat→Ent}{a:Operand}{k:Pl→Ty→Option R}{k':Pl→Ty→Option R'}(hk:∀p t,Φ (k p t) (k' p t)):Φ (storeAt r a k) (storeAt r a k'):=by
 unfold storeAt;split
 ·split
  ·exact hk _ _
  ·split
   ·split
    ·exact c7j h0 fun _=>hk _ _
    ·exact c7j h0 fun _=>hk _ _
    ·exact h0
   ·exact h0
  ·exact h0
 ·exact h0
theorem d6k(h0:Φ none none){C:Ctx}{dst:Option Nat}{r:Nat→Ent}{x:Operand}{asg:Bool}{k:List Up→Option R}{k':List Up→Option R'}(hk:∀us,Φ (k us) (k' us)):Φ (sem.moveK C dst r k x asg) (sem.moveK C dst r k' x asg):=by
 unfold sem.moveK;split
 ·exact a4g hk
 ·exact a4g hk
 ·exact e9g h0 fun _ _=>a4g hk
 ·exact a4g hk
 ·split
  ·exact a4g hk
  ·exact h0
 ·split
  ·exact h0
  ·split
   ·exact a4g hk
   ·split
    ·split
     ·exact h0
     ·exact hk _
    ·exact a4g hk
  ·split
   ·split
    ·exact h0
    ·exact hk _
   ·exact a4g hk
  ·split
   ·split
    ·exact h0
    ·exact hk _
   ·exact h0
  ·split
   ·split
    ·exact hk _
    ·exact a4g hk
   ·exact a4g hk
  ·exact a4g hk
theorem f1b(h0:Φ none none){dst:Option Nat}{r:Nat→Ent}{o:Operand}{k:List Up→Option R}{k':List Up→Option R'}(hk:∀us,Φ (k us) (k' us)):Φ (sem.pickK dst r k o) (sem.pickK dst r k' o):=by
 unfold sem.pickK;refine a2i h0 fun _ _ _=>?_
 split
 ·exact a4g hk
 ·exact h0
theorem c2g(h0:Φ none none){r:Nat→Ent}{o:Operand}{k:Int→Option R}{k':Int→Option R'}(hk:∀n,Φ (k n) (k' n)):Φ (sem.idxK r o k) (sem.idxK r o k'):=by
 unfold sem.idxK;refine a2i h0 fun _ _ _=>?_
 split
 ·exact hk _
 ·exact h0
theorem e3c(h0:Φ none none){C:Ctx}{r:Nat→Ent}{t:Nat}{a:Operand}{t':Ty}{y:t'.den}{us:List Up}{k:List Up→Option R}{k':List Up→Option R'}(hk:∀us,Φ (k us) (k' us)):Φ (sem.put2 C r k t a t' y us) (sem.put2 C r k' t a t' y us):=by
 unfold sem.put2;refine c8d h0 fun _ _=>?_
 split
 ·exact c6g h0 fun _=>hk _
 ·exact h0
end Go.Rb

namespace Go.Rb
variable {R R':Type} {Φ:Option R→Option R'→Prop}
theorem f2w(h0:Φ none none){l:List (Int×Nat)}{x:Int}{k:Nat→Option R}{k':Nat→Option R'}(hk:∀f,Φ (k f) (k' f)):Φ (cfsK l x k) (cfsK l x k'):=by
 induction l with
 |nil=>exact h0
 |cons q l ih =>
  obtain⟨q,f⟩:=q;unfold cfsK;split
  ·exact hk _
  ·exact ih
theorem e5i(h0:Φ none none){C:Ctx}{T:Nat}{x:Operand}{dst:Option Nat}{r:Nat→Ent}{k:List Up→Option R}{k':List Up→Option R'}(hk:∀us,Φ (k us) (k' us)):Φ (d6t C T x dst r k) (d6t C T x dst r k'):=by
 unfold d6t;split
 ·split
  ·refine b2e h0 fun _ _=>b0j h0 fun _ _=>?_
   split
   ·split
    ·split
     ·exact c6g h0 fun _=>a4g hk
     ·exact h0
    ·exact h0
   ·exact h0
  ·exact h0
 ·exact h0
theorem f1u(h0:Φ none none){r:Nat→Ent}{x:Operand}{k:Pl→Nat→(t:Ty)→List t.den→Int→Int→Option R}{k':Pl→Nat→(t:Ty)→List t.den→Int→Int→Option R'}(hk:∀p e t l lo hi,Φ (k p e t l lo hi) (k' p e t l lo hi)):Φ (e4x r x k) (e4x r x k'):=by
 unfold e4x;split
 ·split
  ·refine b2e h0 fun _ _=>b0j h0 fun _ _=>?_
   split
   ·exact hk _ _ _ _ _ _
   ·exact h0
  ·refine a2i h0 fun _ _ _=>?_
   split
   ·exact c7q h0 fun _=>hk _ _ _ _ _ _
   ·exact h0
 ·exact h0
theorem e8f(h0:Φ none none){C:Ctx}{T:Nat}{x y:Operand}{dst:Option Nat}{r:Nat→Ent}{k:List Up→Option R}{k':List Up→Option R'}(hk:∀us,Φ (k us) (k' us)):Φ (f1t C T x y dst r k) (f1t C T x y dst r k'):=by
 unfold f1t;split
 ·refine f1u h0 fun _ _ _ _ _ _=>?_
  split
  ·refine d2y h0 fun _=>?_
   split
   ·exact c6g h0 fun _=>a4g hk
   ·exact h0
  ·exact h0
 ·exact h0
theorem f0n(h0:Φ none none){C:Ctx}{op:Op}{ty:Nat}{dst:Option Nat}{r:Nat→Ent}{k:List Up→Option R}{k':List Up→Option R'}(hk:∀us,Φ (k us) (k' us)):Φ (sem C op ty dst r k) (sem C op ty dst r k'):=by
 have hf:∀{s:SV} {us:List Up},Φ (fin dst s us k) (fin dst s us k'):=fun {s us}=>a4g hk
 unfold sem;split
 ·exact d6k h0 hk
 ·exact d6k h0 hk
 ·refine a2i h0 fun _ _ _=>?_
  split
  ·split <;> exact f1b h0 hk
  ·exact h0
 ·split
  ·split
   ·exact hf
   ·exact h0
  ·exact h0
 ·split
  ·split
   ·exact b6c h0 fun _ _=>hf
   ·exact h0
  ·exact c6k h0 fun _ _ _=>hf
 ·split
  ·split
   ·exact h0
   ·exact d1w h0 fun _ _ _=>hf
  ·exact h0
 ·split
  ·split <;> first|exact h0|exact hf
  split
  ·dsimp only;split
   ·exact d1z h0 fun _ _=>hf
   ·exact h0
  ·exact h0
 ·split
  ·refine b6i h0 (fun _ _=>h0) fun _ _ _ _ _=>?_
   split <;> first|exact h0|exact hf
  split
  ·split <;> first|exact h0|exact hf
  refine b6i h0 (fun _ _=>?_) fun _ _ _ _ _=>?_
  ·split
   ·exact hf
   ·exact h0
  ·split <;> first|exact h0|exact hf
 ·split
  ·exact h0
  ·refine c8d h0 fun _ _=>?_
   split
   ·exact c6k h0 fun _ _ _=>e3c h0 hk
   ·exact b6c h0 fun _ _=>e3c h0 hk
 ·split
  ·split
   ·exact hf
   ·exact b6i h0 (fun _ _=>h0) fun _ _ _ _ _=>hf
   ·exact hf
   ·exact h0
  ·exact h0
 ·refine b6i h0 (fun _ _=>?_) fun _ _ _ _ _=>?_
  ·split
   ·split
    ·exact b9h h0 fun _ _=>hf
    ·exact h0
   ·exact h0
  ·split
   ·split
    ·exact b9h h0 fun _ _=>hf
    ·exact h0
   ·exact h0
 ·refine a2i h0 fun _ _ _=>?_
  split
  ·split
   ·refine b9h h0 fun _ _=>?_
    split <;> first|exact h0|exact hf
   ·exact h0
  ·exact h0
 ·split
  ·split
   ·exact c2g h0 fun _=>c1a h0 hf
   ·exact h0
  refine c2g h0 fun _=>?_
  split
  ·refine b6i h0 (fun _ _=>?_) fun _ _ _ _ _=>?_
   ·split
    ·split
     ·exact c1a h0 hf
     ·exact h0
    ·exact h0
   ·split
    ·split
     ·exact c1a h0 hf
     ·exact h0
    ·exact h0
  ·refine a2i h0 fun _ _ _=>?_
   split
   ·split <;> first|exact h0|exact c1a h0 hf|exact c7q h0 fun _=>c1a h0 hf
   ·exact h0
 ·refine c2g h0 fun _=>a2i h0 fun _ _ _=>?_
  split
  ·split
   ·exact c1a h0 hf
   ·split
    ·exact c1a h0 hf
    ·exact h0
   ·exact h0
  ·exact h0
 ·split
  ·split
   ·refine a2i h0 fun _ _ _=>?_
    unfold f0u;split <;> first|exact h0|exact hf
   ·exact h0
  ·exact a2i h0 fun _ _ _=>a2i h0 fun _ _ _=>f2x h0 fun _ _=>hf
 ·exact a2i h0 fun _ _ _=>f7a h0 fun _ _=>hf
 ·split
  ·refine a2i h0 fun _ _ _=>?_
   split <;> first|exact h0|exact hf
  ·refine a2i h0 fun _ _ _=>?_
   split <;> first|exact h0|exact hf
  ·exact d2y h0 fun _=>hf
  ·split
   ·refine c6k h0 fun _ _ _=>?_
    split
    ·split <;> first|exact h0|exact hf
    ·exact h0
   ·exact h0
  ·exact h0
 ·refine a2i h0 fun _ _ _=>?_
  split
  ·split
   ·exact hf
   ·exact h0
  ·exact h0
 ·split
  ·exact f1e h0 fun _ _ _=>hf
  ·exact h0
 ·split
  ·dsimp only;split
   ·exact h0
   ·refine c2g h0 fun _=>c2g h0 fun _=>?_
    split
    ·exact hf
    ·exact h0
  ·exact h0
 ·exact f5i h0 hk
 ·split
  ·split
   ·split
    ·exact h0
    ·split
     ·exact hf
     ·exact hf
    ·exact h0
   ·exact h0
  ·exact h0
 ·refine a2i h0 fun _ _ _=>?_
  split
  ·split
   ·refine a2i h0 fun _ _ _=>?_
    split
    ·split <;> exact hf
    ·exact h0
   ·exact h0
  ·exact h0
 ·split
  ·exact d6q h0 hk
  ·refine a2i h0 fun _ _ _=>?_
   split
   ·exact f2w h0 fun _=>d6q h0 hk
   ·split
    ·exact b6c h0 fun _ _=>d4t h0 fun _=>hf
    ·exact h0
   ·split
    ·exact b6c h0 fun _ _=>b6c h0 fun _ _=>d4t h0 fun _=>hf
    ·exact h0
   ·exact h0
  ·split
   ·split
    ·split <;> first|exact h0|exact hf
    split
    ·split <;> first|exact h0|exact hf
    ·refine a2i h0 fun _ _ _=>?_
     split
     ·exact f4t h0 fun _=>hf
     ·exact h0
   ·exact h0
  ·split
   ·split
    ·exact e2n h0 hk
    ·exact e2n h0 hk
    ·exact h0
   ·exact h0
  ·split
   ·exact e5i h0 hk
   ·exact h0
  ·split
   ·exact e8f h0 hk
   ·exact h0
  ·exact e3w h0 hk
  ·exact e3w h0 hk
  ·exact h0
 ·exact h0
theorem d0y{isG:Bool}{dst:Option Nat}{r:Nat→Ent}{us:List Up}{k:List Up→Option R}{k':List Up→Option R'}(hk:∀us,Φ (k us) (k' us)):Φ (d6g isG dst r us k) (d6g isG dst r us k'):=by
 unfold d6g;split
 ·split
  ·split <;> exact hk _
  ·exact hk _
 ·exact hk _
theorem d6b(h0:Φ none none){C:Ctx}{gd:Nat→Option Nat}{isG:Bool}{o:Oper}{e:En}{k:List Nat×List Nat→List Up→Option R}{k':List Nat×List Nat→List Up→Option R'}(hk:∀ins us,Φ (k ins us) (k' ins us)) :
  Φ (a5g C gd isG o e k) (a5g C gd isG o e k'):=by
 have hgo:∀g,Φ (a5g.go C isG o e k g) (a5g.go C isG o e k' g):=fun g=>f0n h0 fun _=>d0y fun _=>hk _ _
 unfold a5g;split
 ·exact h0
 ·split
  ·exact hgo _
  ·split
   ·split
    ·exact hk _ _
    ·split
     ·exact hgo _
     ·exact hk _ _
    ·exact h0
   ·exact h0
theorem d6v{C:Ctx}{gd:Nat→Option Nat}{isG:Bool}{o:Oper}{e:En}{k:List Nat×List Nat→List Up→Option R}{res:R}(hk:a5g C gd isG o e k=some res) :
  ∃ins us,k ins us=some res∧a5g (R:=(List Nat×List Nat)×List Up) C gd isG o e (fun ins us=>some (ins,us))=some (ins,us):=by
 have h1:=d6b (Φ:=fun(x:Option R) (y:Option ((List Nat×List Nat)×List Up))=>x=y.bind fun z=>k z.1 z.2) rfl (C:=C) (gd:=gd) (isG:=isG) (o:=o) (e:=e) (k:=k) (k':=fun ins us=>some (ins,us)) fun ins us=>rfl
 rw[hk] at h1;obtain⟨⟨ins,us⟩,h2,h3⟩:=Option.bind_eq_some_iff.1 h1.symm;exact⟨ins,us,h3,h2⟩
end Go.Rb

namespace Go.Rb
variable {A:Amb} {P:Program} {Z Z':Nat→Prop} {h h':Array Obj} {R:Type} {C:Ctx} {B:Base} {e e':En} {a:Act} {w w':World} {F F0:Nat→List Nat} {X X0:List Nat} {r:Nat→Ent} {o:Oper}
abbrev DOut:=(List Nat×List Nat)×List Up
def e5k(C:Ctx)(gd:Nat→Option Nat)(isG:Bool)(o:Oper)(e:En):Option DOut:=a5g C gd isG o e fun ins us=>some (ins,us)
theorem Rel.congr(hrel:Rel A P C B e a w Z F X)(he:∀i,e'.get i=e.get i):Rel A P C B e' a w Z F X:=by
 have hr:∀{s:SV} {v:Value},Ref e a.tm w.heap s v→Ref e' a.tm w.heap s v:=fun {s v} h=>a9o (F:=F) hrel.own h (fun _ _ _ _ _ _=>rfl) fun p=>.inl ⟨he p,rfl,fun _ _=>rfl⟩
 exact { hrel with own:=fun i=>by rw[he];exact hrel.own i,ref:=fun i=>by rw[he];exact hr (hrel.ref i) }
theorem f0d:∀{us:List Up} {r:Nat→Ent} {e:En} {d:Nat},r d=e.get d→upd r us d=(e.app us).get d
 |[],_,_,_,h=>h
 |u::us,r,e,d,hd=>by
  rw[c6o];refine f0d (us:=us) ?_;rw[c9d,b2v];cases hb:AB u.d d with
  |true =>
   have hb':=a1p hb;rw[if_pos hb'];simp only[hb];rw[hb',hd]
  |false=>rw[if_neg (b2d hb)];simp only[hb];exact hd
theorem Snd.mono{us us':List Up}(hs:Snd A P C B e a w us o)(hm:∀a' w' Z' F',Rel A P C B (e.app us) a' w' Z' F' []→∃F'',Rel A P C B (e.app us') a' w' Z' F'' []):Snd A P C B e a w us' o:=by
 intro next Q hn;refine hs next Q fun a' w' Z' F' hr=>?_
 obtain⟨F'',h1⟩:=hm _ _ _ _ hr;exact hn _ _ _ _ h1
theorem e0n(htab:a3c P C)(hft:FtOK A P C)(hfix:b9y C B)(hrel:Rel A P C B e a w Z F []){ops:Array Oper}{isG:Bool}{ins:List Nat×List Nat}{us:List Up}
  (hk:e5k C (a6y ops.toList) isG o e=some (ins,us)):d1q A P C B ops o a w (e.app us):=by
 unfold e5k a5g at hk;split at hk
 ·simp at hk
 ·rename_i hok;have hd:∀d,o.dst=some d→a4f C B d:=fun d hdd=>b8t hfix hok hdd
  have hgo:∀g,a5g.go C isG o e (fun ins us=>some (ins,us)) g=some (ins,us)→Snd A P C B e a w us o:=by
   intro g hk;unfold a5g.go at hk;obtain⟨us0,hk,hs⟩:=c6c htab hft hfix hrel hok hk;unfold d6g at hk;cases isG with
   |false =>
    simp only[Ad,Aj] at hk;rw[←hk.2];exact hs
   |true =>
   cases hdst:o.dst with
   |none =>
    rw[hdst] at hk;simp only[Ad,Aj] at hk;rw[←hk.2];exact hs
   |some d =>
    have hdd:upd (e.look (a1n C e o.op o.dst)) us0 d=(e.app us0).get d:=f0d (b5c (d6f hdst));rw[hdst] at hk hdd;dsimp only at hk;rw[hdd] at hk;split at hk
    ·rename_i b hb;have key:∀b',b=b'→us=us0++[⟨d,.slot,.kb b'⟩]→Snd A P C B e a w us o:=by
      rintro b' rfl rfl;refine hs.mono fun a' w' Z' F' hr=>?_
      have ho:=hr.own d;rw[hb] at ho;obtain⟨cs,g1,g2⟩:=ho;obtain⟨_,rfl⟩:=g2;obtain⟨F'',g3⟩:=c2c hr (x:=.tmp d) (b:=b) (a0n rfl g1);refine⟨F'',?_⟩;have hkn:(e.app us0).know (.tmp d) b=(e.app us0).app [⟨d,.slot,.kb b⟩]:=by unfold En.know;simp only[hb]
      rw[hkn,←a2b] at g3;exact g3
     split at hk
     ·rename_i hbt;simp only[Ad,Aj] at hk;exact key true hbt hk.2.symm
     ·rename_i hbt;simp only[Ad,Aj] at hk;exact key false (by simpa using hbt) hk.2.symm
    ·simp only[Ad,Aj] at hk;rw[←hk.2];exact hs
  split at hk
  ·rename_i hg;exact b7o (by unfold Bs;rw[hg]) (hgo _ hk)
  ·rename_i j want hg;have hwant:∀y,yielded ops a.tmps j=y→Bs o (yielded ops a.tmps)=(y==some want):=by
    intro y hy;unfold Bs;rw[hg,←hy]
   split at hk
   ·rename_i g hgs;split at hk
    ·rename_i hu;have ho:=hrel.own g;rw[hu] at ho;simp only[Ad,Aj] at hk;rw[←hk.2];exact b3r hrel hd (by rw[hwant none (c7w hgs ho.2)];cases want <;> rfl)
    ·rename_i b hu;have ho:=hrel.own g;rw[hu] at ho;have hy:=hwant (some b) (b8i hgs ho.2);split at hk
     ·rename_i hb;exact b7o (by rw[hy];simpa using hb) (hgo _ hk)
     ·rename_i hb;simp only[Ad,Aj] at hk;rw[←hk.2];exact b3r hrel hd (by rw[hy];simpa using hb)
    ·simp at hk
   ·simp at hk
def En.wk(e:En)(q:Nat):Ent:=if q % 2=0 then(e.get (q / 2)).mask else(e.get (q / 2)).maskC
theorem d3c{i:Nat}:e.wk (2*i)=(e.get i).mask:=by
 unfold En.wk;rw[if_pos (by omega),show 2*i / 2=i by omega]
theorem e1x{i:Nat}:e.wk (2*i+1)=(e.get i).maskC:=by
 unfold En.wk;rw[if_neg (by omega),show(2*i+1) / 2=i by omega]
def Same(e e':En)(ins:List Nat×List Nat):Prop:=(∀i,i∈ins.1→e'.get i=e.get i)∧∀q,q∈ins.2→e'.wk q=e.wk q
theorem Same.mask{ins:List Nat×List Nat}(h:Same e e' ins){i:Nat}(hi:2*i∈ins.2):(e'.get i).mask=(e.get i).mask:=by
 have:=h.2 _ hi;rwa [d3c,d3c] at this
theorem e8s{l:List Nat×List Nat}(hs:Same e e' l):e'.look l=e.look l:=by
 funext i;by_cases h1:i∈l.1
 ·rw[b5c h1,b5c h1,hs.1 i h1]
 ·by_cases h2:2*i∈l.2
  ·rw[c9t h1 h2,c9t h1 h2,hs.mask h2]
  ·by_cases h3:2*i+1∈l.2
   ·have:=hs.2 _ h3;rw[e1x,e1x] at this;rw[c3y h1 h2 h3,c3y h1 h2 h3,this]
   ·rw[d3z h1 h2 h3,d3z h1 h2 h3]
theorem c1i{x y:Ent}{t:Ty}{z:t.den}(hx:x.s=.box t z)(hm:y.mask=x.mask):∃t' z',y.s=.box t' z':=by
 rw[b4m hx] at hm;cases hs:y.s with
 |box t' z'=>exact⟨t',z',rfl⟩
 |val t' z' =>
  cases hp:t'.pure with
  |true=>rw[c7c hs hp] at hm;rw[hm] at hs;simp at hs
  |false=>rw[b8x hs hp] at hm;simp at hm
 |_=>rw[show y.mask=⟨0,0,.none⟩ from by unfold Ent.mask;rw[hs]] at hm;simp at hm
theorem e0k{x y:Ent}{t:Ty}{z:t.den}(hx:x.s=.val t z)(hp:t.pure=false)(hm:y.mask=x.mask):∃t' z',y.s=.val t' z'∧t'.pure=false:=by
 rw[b8x hx hp] at hm;cases hs:y.s with
 |box t' z'=>rw[b4m hs] at hm;simp at hm
 |val t' z' =>
  refine⟨t',z',rfl,?_⟩;cases hp':t'.pure with
  |true =>
   rw[c7c hs hp'] at hm;rw[hm] at hs;simp only[SV.val.injEq] at hs;obtain⟨rfl,_⟩:=hs;simp[Ty.pure] at hp'
  |false=>rfl
 |_=>rw[show y.mask=⟨0,0,.none⟩ from by unfold Ent.mask;rw[hs]] at hm;simp at hm
theorem c0h{α β:Type}{f g:α→Option β}:∀{l:List α},(∀i,i∈l→f i=g i)→l.filterMap f=l.filterMap g
 |[],_=>rfl
 |x::l,h=>by rw[EN,EN,h x (by simp),c0h fun i hi=>h i (by simp[hi])]
def tmOf(op:Op):List Nat:=(match op with|.call c=>c.operands|op=>op.operands).toList.filterMap fun|Operand.tmp i=>some i|_=>none
def e7z(s:SV):Option Nat :=
 match s with
 |.ptr p _ _|.ali p _ _|.sub p _ _ _ _=>some p.root
 |_=>none
theorem c8i{op:Op}{dst:Option Nat}(h1:∀i,op≠.move (.tmp i))(h2:∀i,op≠.nilCheck (.tmp i))(h3:∀t i f,op≠.fieldAddr t (.tmp i) f)(h4:∀t i,op≠.load t (.tmp i)) :
  a1n C e op dst=(dst.toList++(tmOf op++(tmOf op).filterMap fun i=>e7z (e.get i).s),[]):=by
 unfold a1n;split
 ·exact absurd rfl (h4 _ _)
 ·exact absurd rfl (h1 _)
 ·exact absurd rfl (h2 _)
 ·exact absurd rfl (h3 _ _ _)
 ·rfl
theorem e6o{op:Op}{dst:Option Nat}(hs:Same e e' (a1n C e op dst)):a1n C e' op dst=a1n C e op dst:=by
 have hdef:(∀i,op≠.move (.tmp i))→(∀i,op≠.nilCheck (.tmp i))→(∀t i f,op≠.fieldAddr t (.tmp i) f)→(∀t i,op≠.load t (.tmp i))→a1n C e' op dst=a1n C e op dst:=by
  intro h1 h2 h3 h4;rw[c8i h1 h2 h3 h4] at hs;rw[c8i h1 h2 h3 h4,c8i h1 h2 h3 h4];rw[c0h (f:=fun i=>e7z (e'.get i).s) (g:=fun i=>e7z (e.get i).s) fun i hi=>by
   rw[hs.1 i (Al _ (Am _ hi))]]
 by_cases h1:∃i,op=.move (.tmp i)
 ·obtain⟨i,rfl⟩:=h1;cases hi:(e.get i).s with
  |box t y =>
   have hl:a1n C e (.move (.tmp i)) dst=(dst.toList,[2*i]):=by simp[a1n,hi]
   rw[hl] at hs ⊢;obtain⟨t',z',h2⟩:=c1i hi (hs.mask (by simp));simp[a1n,h2]
  |val t y =>
   cases hp:t.pure with
   |true =>
    have hl:a1n C e (.move (.tmp i)) dst=(i::dst.toList,[]):=by simp[a1n,hi,hp]
    rw[hl] at hs ⊢;simp[a1n,hs.1 i (by simp),hi,hp]
   |false =>
    have hl:a1n C e (.move (.tmp i)) dst=(dst.toList,[2*i]):=by simp[a1n,hi,hp]
    rw[hl] at hs ⊢;obtain⟨t',z',h2,h3⟩:=e0k hi hp (hs.mask (by simp));simp[a1n,h2,h3]
  |_ =>
   have hl:a1n C e (.move (.tmp i)) dst=(i::dst.toList,[]):=by simp[a1n,hi]
   rw[hl] at hs ⊢;simp[a1n,hs.1 i (by simp),hi]
 by_cases h2:∃i,op=.nilCheck (.tmp i)
 ·obtain⟨i,rfl⟩:=h2;cases hi:(e.get i).s with
  |box t y =>
   have hl:a1n C e (.nilCheck (.tmp i)) dst=(dst.toList,[2*i]):=by simp[a1n,hi]
   rw[hl] at hs ⊢;obtain⟨t',z',h2⟩:=c1i hi (hs.mask (by simp));simp[a1n,h2]
  |_ =>
   have hm:i∈(a1n C e (.nilCheck (.tmp i)) dst).1:=by
    simp only[a1n,hi]
    try split
    all_goals simp
   have he:=hs.1 i hm;simp only[a1n,he]
 by_cases h3:∃t i f,op=.fieldAddr t (.tmp i) f
 ·obtain⟨s,i,f,rfl⟩:=h3;cases hi:(e.get i).s with
  |box t y =>
   have hl:a1n C e (.fieldAddr s (.tmp i) f) dst=(dst.toList,[2*i]):=by simp[a1n,hi]
   rw[hl] at hs ⊢;obtain⟨t',z',h2⟩:=c1i hi (hs.mask (by simp));simp[a1n,h2]
  |_ =>
   have hm:i∈(a1n C e (.fieldAddr s (.tmp i) f) dst).1:=by
    simp only[a1n,hi]
    try split
    all_goals simp
   have he:=hs.1 i hm;simp only[a1n,he]
 by_cases h4:∃t i,op=.load t (.tmp i)
 ·obtain⟨t,i,rfl⟩:=h4;have hm:i∈(a1n C e (.load t (.tmp i)) dst).1:=by
   simp only[a1n]
   repeat' split
   all_goals simp
  have he:=hs.1 i hm;simp only[a1n,he]
 ·exact hdef (fun i h=>h1 ⟨i,h⟩) (fun i h=>h2 ⟨i,h⟩) (fun t i f h=>h3 ⟨t,i,f,h⟩) fun t i h=>h4 ⟨t,i,h⟩
theorem e6v{gd:Nat→Option Nat}{isG:Bool}{ins:List Nat×List Nat}{us:List Up}(hk:e5k C gd isG o e=some (ins,us))(hs:Same e e' ins):e5k C gd isG o e'=some (ins,us):=by
 have hgo:∀g,a5g.go C isG o e (fun ins us=>some (ins,us)) g=some (ins,us)→g ⊆ ins.1∧a5g.go C isG o e' (fun ins us=>some (ins,us)) g=some (ins,us):=by
  intro g hk;have hins:∀y,a5g.go C isG o e (fun ins us=>some (ins,us)) g=some y→y.1=(g++(a1n C e o.op o.dst).1,(a1n C e o.op o.dst).2):=by
   unfold a5g.go;exact f0n (Φ:=fun(x:Option DOut) (_:Option Unit)=>∀y,x=some y→y.1=(g++(a1n C e o.op o.dst).1,(a1n C e o.op o.dst).2)) (k':=fun _=>none) (by simp)
    (fun us=>d0y (Φ:=fun(x:Option DOut) (_:Option Unit)=>∀y,x=some y→y.1=(g++(a1n C e o.op o.dst).1,(a1n C e o.op o.dst).2)) (isG:=isG) (dst:=o.dst) (r:=e.look (a1n C e o.op o.dst)) (us:=us) (k':=fun _=>none) fun us' y hy=>by
     simp only[Ad] at hy;rw[←hy])
  have h1:=hins _ hk;dsimp only at h1;subst h1;have hsame:Same e e' (a1n C e o.op o.dst):=⟨fun i hi=>hs.1 i (Al _ hi),hs.2⟩
  refine⟨fun i hi=>Am _ hi,?_⟩;unfold a5g.go at hk ⊢;rw[e6o hsame,e8s hsame];exact hk
 unfold e5k a5g at hk ⊢;split at hk
 ·simp at hk
 ·rename_i hok;simp only[hok];split at hk
  ·rename_i hg;exact(hgo _ hk).2
  ·rename_i j want hg;split at hk
   ·rename_i g hgs;have key:g∈ins.1→e'.get g=e.get g:=hs.1 g;split at hk
    ·rename_i hu;simp only[Ad,Aj] at hk;obtain⟨rfl,rfl⟩:=hk;rw[key (by simp),hu]
    ·rename_i b hu;split at hk
     ·rename_i hb;obtain⟨h1,h2⟩:=hgo _ hk;rw[key (h1 (by simp)),hu];dsimp only;rw[hb];exact h2
     ·rename_i hb;simp only[Ad,Aj] at hk;obtain⟨rfl,rfl⟩:=hk;rw[key (by simp),hu];dsimp only;rw[hb]
    ·simp at hk
   ·simp at hk
end Go.Rb

namespace Go.Rb
variable {A:Amb} {P:Program} {Z Z':Nat→Prop} {h h':Array Obj} {R:Type} {C:Ctx} {B:Base} {e e':En} {a:Act} {w w':World} {F F0:Nat→List Nat} {X X0:List Nat} {r:Nat→Ent} {o:Oper}
structure Run (C:Ctx) (gd:Nat→Option Nat) (all:List Oper) (I:Nat→List Nat×List Nat) (U:Nat→List Up) (E:Nat→En) (bef:Nat→List Nat) (j:Nat):Prop where
 ex:∃o,all[j]?=some o∧e5k C gd (e9u all j) o (E j)=some (I j,U j)∧(∀m,m∈b8c o→m<j)∧bef j=c1n bef (b8c o).reverse []
 next:E (j+1)=(E j).app (U j)
 apart:∀m,m<j→m∈bef j∨b9g (b8b (E m) (I m) (U m)) (b8b (E j) (I j) (U j))=true
theorem e3p{x:Nat}:∀{l:List Nat},hasN x l=true→x∈l
 |[],h=>by simp[hasN] at h
 |y::l,h=>by
  unfold hasN at h;split at h
  ·rename_i hb;rw[Nat.eq_of_beq_eq_true hb];exact Cf
  ·exact AE _ (e3p h)
theorem c3i{x:Nat}:∀{l acc:List Nat},x∈d7j l acc→x∈l∨x∈acc
 |[],acc,h=>.inr h
 |y::l,acc,h=>by
  unfold d7j at h;split at h
  ·exact(c3i h).imp (AE _) id
  ·rcases c3i h with h|h
   ·exact .inl (AE _ h)
   ·rcases A3.1 h with rfl|h
    ·exact .inl Cf
    ·exact .inr h
theorem c8t{x:Nat}{b:Nat→List Nat}:∀{es acc:List Nat},x∈c1n b es acc→(∃m,m∈es∧(x=m∨x∈b m))∨x∈acc
 |[],acc,h=>.inr h
 |m::es,acc,h=>by
  unfold c1n at h;split at h
  ·rcases c8t h with⟨q,h1,h2⟩|h
   ·exact .inl ⟨q,AE _ h1,h2⟩
   ·exact .inr h
  ·rcases c8t h with⟨q,h1,h2⟩|h
   ·exact .inl ⟨q,AE _ h1,h2⟩
   ·rcases c3i h with h|h
    ·exact .inl ⟨m,Cf,A3.1 h⟩
    ·exact .inr h
theorem b8q{b b':Nat→List Nat}:∀{es acc:List Nat},(∀i,i∈es→b i=b' i)→c1n b es acc=c1n b' es acc
 |[],_,_=>rfl
 |m::es,acc,h=>by
  unfold c1n;rw[h m Cf];split
  ·exact b8q fun i hi=>h i (AE _ hi)
  ·exact b8q fun i hi=>h i (AE _ hi)
theorem e4n{α:Type}{l:List α}{f:α×Nat→Bool}(h:l.zipIdx.all f=true):∀(i:Nat) (x:α),l[i]?=some x→f (x,i)=true:=by
 intro i x hx;rw[BZ] at h;exact h (x,i) (by rw[List.mem_zipIdx_iff_getElem?];exact hx)
theorem c5e{gd:Nat→Option Nat}{all:List Oper}{k:En→Option R}{res:R}:∀(os:List Oper) (i:Nat) (e:En) (done:List Foot) (befs:List (List Nat)) (I:Nat→List Nat×List Nat) (U:Nat→List Up) (E:Nat→En) (bef:Nat→List Nat),
  all.drop i=os→i≤all.length→done.length=i→E i=e→(∀j,j<i→Run C gd all I U E bef j)→(∀j,j<i→done[i - 1 - j]?=some (b8b (E j) (I j) (U j)))→(∀j,j<i→befs.getD (i - 1 - j) []=bef j) →
  c7f C gd all os e done befs k=some res →
  ∃(I':Nat→List Nat×List Nat) (U':Nat→List Up) (E':Nat→En) (bef':Nat→List Nat),(∀j,j<all.length→Run C gd all I' U' E' bef' j)∧(∀j,j≤i→E' j=E j)∧k (E' all.length)=some res
 |[],i,e,done,befs,I,U,E,bef,hos,hile,hlen,hE,hrun,hdone,hbefs,hk=>by
  have hi:i=all.length:=by
   have:=congrArg List.length hos;simp at this;omega
  subst hi;exact⟨I,U,E,bef,hrun,fun _ _=>rfl,by rw[hE];exact hk⟩
 |o::os,i,e,done,befs,I,U,E,bef,hos,hile,hlen,hE,hrun,hdone,hbefs,hk=>by
  have hget:all[i]?=some o:=by
   have h0:(all.drop i)[0]?=some o:=by rw[hos];rfl
   rw[List.getElem?_drop] at h0;simpa using h0
  have hil:i<all.length:=by
   rcases BQ i all.length with h|h
   ·exact h
   ·rw[List.getElem?_eq_none h] at hget;simp at hget
  have hdr:all.drop (i+1)=os:=by rw[←List.drop_drop,hos];rfl
  unfold c7f at hk;rw[hlen] at hk;obtain⟨ins,us,hk,hd⟩:=d6v hk;dsimp only at hk;split at hk
  ·rename_i hc;rw[Af] at hc;obtain⟨hc1,hc2⟩:=hc;have hedge:∀m,m∈b8c o→m<i:=fun m hm=>by
    have:=BZ.1 hc1 m hm;exact Nat.blt_eq.mp this
   have hbefeq:c1n (fun j=>befs.getD (i - 1 - j) []) (b8c o).reverse []=c1n bef (b8c o).reverse [] :=
    b8q fun m hm=>hbefs m (hedge m (Cr.1 hm))
   rw[hbefeq] at hk hc2;have hupI:∀{α:Type} (f:Nat→α) (x:α) (j:Nat),j<i→(if j=i then x else f j)=f j:=fun f x j hj=>by simp[HZ hj]
   have hupE:∀(j:Nat),j≤i→(if j=i+1 then e.app us else E j)=E j:=fun j hj=>by simp[show j≠i+1 by omega]
   have hn1:∀j,j<i+1→Run C gd all (fun m=>if m=i then ins else I m) (fun m=>if m=i then us else U m) (fun m=>if m=i+1 then e.app us else E m) (fun m=>if m=i then c1n bef (b8c o).reverse [] else bef m) j:=by
    intro j hj;rcases CY.1 hj with hj|rfl
    ·obtain⟨⟨o',q1,q2,q3,q4⟩,q5,q6⟩:=hrun j hj;refine⟨⟨o',q1,?_,q3,?_⟩,?_,fun m hm=>?_⟩
     ·simp only[hupI _ _ j hj,hupE j (by omega)];exact q2
     ·simp only[hupI _ _ j hj];rw[q4];refine b8q fun m hm=>?_
      have hmj:=q3 m (Cr.1 hm);rw[if_neg (by omega:¬m=i)]
     ·simp only[hupI _ _ j hj,hupE j (by omega),hupE (j+1) (by omega)];exact q5
     ·simp only[hupI _ _ j hj,hupI _ _ m (Nat.lt_trans hm hj),hupE j (by omega),hupE m (by omega)];exact q6 m hm
    ·have hEj:(if j=j+1 then e.app us else E j)=e:=(hupE j (Ar _)).trans hE;refine⟨⟨o,hget,?_,hedge,?_⟩,?_,fun m hm=>?_⟩
     ·simp only[if_true,hEj];exact hd
     ·simp only[if_true];refine b8q fun m hm=>?_
      rw[if_neg (HZ (hedge m (Cr.1 hm)))]
     ·simp only[if_true,hEj]
     ·simp only[if_true,hupI _ _ m hm,hEj,hupE m (by omega)];have:=e4n hc2 (j - 1 - m) _ (hdone m hm);rw[Bool.or_eq_true] at this;refine this.imp (fun h=>?_) id;have hmm:j - 1 - (j - 1 - m)=m:=by omega
      rw[hmm] at h;simpa using e3p h
   have hn2:∀j,j<i+1→(b8b e ins us::done)[i+1 - 1 - j]?=some (b8b ((fun m=>if m=i+1 then e.app us else E m) j) ((fun m=>if m=i then ins else I m) j) ((fun m=>if m=i then us else U m) j)):=by
    intro j hj;rcases CY.1 hj with hj|rfl
    ·simp only[hupI _ _ j hj,hupE j (by omega)];have:i+1 - 1 - j=(i - 1 - j)+1:=by omega
     rw[this,List.getElem?_cons_succ];exact hdone j hj
    ·simp only[if_true,hupE j (Ar _),hE];simp
   have hn3:∀j,j<i+1→(c1n bef (b8c o).reverse []::befs).getD (i+1 - 1 - j) []=(fun m=>if m=i then c1n bef (b8c o).reverse [] else bef m) j:=by
    intro j hj;rcases CY.1 hj with hj|rfl
    ·simp only[hupI _ _ j hj];have:i+1 - 1 - j=(i - 1 - j)+1:=by omega
     rw[this,List.getD_cons_succ];exact hbefs j hj
    ·simp
   obtain⟨I',U',E',bef',g1,g2,g3⟩:=c5e os (i+1) (e.app us) _ _ (fun m=>if m=i then ins else I m) (fun m=>if m=i then us else U m) (fun m=>if m=i+1 then e.app us else E m) (fun m=>if m=i then c1n bef (b8c o).reverse [] else bef m) hdr hil (by simp[hlen]) (by simp) hn1 hn2 hn3 hk;exact⟨I',U',E',bef',g1,fun j hj=>by rw[g2 j (by omega)];exact hupE j hj,g3⟩
  ·simp at hk
theorem c1y:∀{us:List Up} {e e':En} {d:Nat},e.get d=e'.get d→(e.app us).get d=(e'.app us).get d
 |[],_,_,_,h=>h
 |u::us,e,e',d,hd=>by
  rw[c6o,c6o];refine c1y (us:=us) ?_;show En.get ((u.d,(e.get u.d).bump u.b u.s)::e) d=En.get ((u.d,(e'.get u.d).bump u.b u.s)::e') d;rw[b2v,b2v];by_cases hb:u.d=d
  ·rw[if_pos hb,if_pos hb,hb,hd]
  ·rw[if_neg hb,if_neg hb,hd]
theorem d7h{x y:Ent}(hw:b8d x y=true):y.mask=x.mask:=by
 unfold b8d at hw;rw[Af] at hw;obtain⟨hv,hw⟩:=hw;have hv:=a1p hv;split at hw
 ·rename_i t z t' z' hx hy;rw[b4m hx,b4m hy];have:t.imm=t'.imm:=by simpa using hw
  rw[this,hv]
 ·rename_i t z t' z' hx hy;simp only[Af,B2] at hw;rw[b8x hx hw.1.2,b8x hy hw.2,hv,a1p hw.1.1]
 ·simp at hw
def b0g(U:Nat→List Up)(k d:Nat):Prop:=∃u,u∈U k∧u.d=d
theorem c3c{e:En}{ins:List Nat×List Nat}{us:List Up}{d:Nat}:(∃u,u∈us∧u.d=d)↔d∈(b8b e ins us).outs∨(d∈(b8b e ins us).cont∧b8d (e.get d) ((e.app us).get d)=true):=by
 unfold b8b;dsimp only;simp only[Cb,Cs,B2];cases hw:b8d (e.get d) ((e.app us).get d) with
 |true=>simp
 |false=>simp
theorem d3t{x y:Ent}(hw:b8y x y=true):y.maskC=x.maskC:=by
 unfold b8y at hw;simp only[Af] at hw;obtain⟨⟨hw,hc⟩,hb⟩:=hw;have hc:=a1p hc;split at hb
 ·rename_i t z hx;unfold b8d at hw;rw[Af] at hw;obtain⟨hv,hw⟩:=hw;have hv:=a1p hv;rw[hx] at hw;split at hw
  ·rename_i t1 z1 t' z' hx' hy;have:t1.imm=t'.imm:=by simpa using hw
   cases hx';rw[c8g hx,c8g hy,this,hv,hc]
  ·rename_i hx' _;cases hx'
  ·simp at hw
 ·cases hb
theorem c2k{a b:List Nat}(h:f7v a b=true){d:Nat}(ha:d∈a):2*d∉b∧2*d+1∉b:=by
 have:=BZ.1 h d ha;simp at this;exact this
theorem c2n{a b:List Nat}(h:f8r a b=true){d:Nat}(ha:d∈a):2*d+1∉b:=by
 have:=BZ.1 h d ha;simp at this;exact this
theorem d2c{e:En}{ins:List Nat×List Nat}{us:List Up}{d:Nat}(h:∃u,u∈us∧u.d=d)(hn:d∉(b8b e ins us).contC):b8y (e.get d) ((e.app us).get d)=true:=by
 unfold b8b at hn;dsimp only at hn;simp only[Cb,Cs,B2] at hn;cases hw:b8y (e.get d) ((e.app us).get d) with
 |true=>rfl
 |false=>exact absurd ⟨h,hw⟩ hn
theorem b1r{a b:List Nat}(h:d3o a b=true){d:Nat}(ha:d∈a)(hb:d∈b):False:=by
 have:=BZ.1 h d ha;simp[hb] at this
theorem c9s{a b:Foot}(h:b9g a b=true){d:Nat}(ha:d∈a.outs∨d∈a.cont):d∉b.ins∧d∉b.outs∧d∉b.cont∧(d∈a.outs→2*d∉b.weak)∧(d∈a.contC→2*d+1∉b.weak):=by
 unfold b9g at h;simp only[Af] at h;obtain⟨⟨⟨⟨⟨⟨⟨h1,h2⟩,h3⟩,h4⟩,h5⟩,h6⟩,h11⟩,⟨⟨⟨h7,h8⟩,h9⟩,h10⟩,h12⟩:=h;rcases ha with ha|ha
 ·exact⟨fun hb=>b1r h1 ha hb,fun hb=>b1r h3 ha hb,fun hb=>b1r h4 ha hb,fun ho=>(c2k h2 ho).1,c2n h11⟩
 ·exact⟨fun hb=>b1r h5 ha hb,fun hb=>b1r h9 hb ha,fun hb=>b1r h6 ha hb,fun ho=>(c2k h2 ho).1,c2n h11⟩
theorem d7d{a b:Foot}(h:b9g a b=true){d:Nat}(hb:d∈b.outs∨d∈b.cont):d∉a.ins∧(d∈b.outs→2*d∉a.weak)∧(d∈b.contC→2*d+1∉a.weak):=by
 unfold b9g at h;simp only[Af] at h;obtain⟨⟨⟨⟨⟨⟨⟨h1,h2⟩,h3⟩,h4⟩,h5⟩,h6⟩,h11⟩,⟨⟨⟨h7,h8⟩,h9⟩,h10⟩,h12⟩:=h;rcases hb with hb|hb
 ·exact⟨fun ha=>b1r h7 hb ha,fun ho=>(c2k h8 ho).1,c2n h12⟩
 ·exact⟨fun ha=>b1r h10 hb ha,fun ho=>(c2k h8 ho).1,c2n h12⟩
section
variable {gd:Nat→Option Nat} {all:List Oper} {I:Nat→List Nat×List Nat} {U:Nat→List Up} {E:Nat→En} {bef:Nat→List Nat}
theorem e3s(hrun:∀j,j<all.length→Run C gd all I U E bef j){m j d:Nat}(hm:m<j)(hj:j<all.length)(h1:b0g U m d)(h2:b0g U j d):m∈bef j:=by
 rcases(hrun j hj).apart m hm with h|h
 ·exact h
 ·exfalso;have t1:=(c3c (e:=E m) (ins:=I m)).1 h1;have t2:=(c3c (e:=E j) (ins:=I j)).1 h2;obtain⟨_,q2,q3,_⟩:=c9s h (d:=d) (t1.imp id FT);exact t2.elim q2 fun t=>q3 t.1
theorem e1m(hrun:∀j,j<all.length→Run C gd all I U E bef j){d:Nat}:∀(n i:Nat),i+n≤all.length→(∀k,i≤k→k<i+n→¬b0g U k d)→(E (i+n)).get d=(E i).get d
 |0,i,_,_=>rfl
 |n+1,i,hl,hn=>by
  rw[show i+(n+1)=(i+n)+1 from rfl,(hrun (i+n) (by omega)).next,a8p fun u hu hd=>hn (i+n) (by omega) (by omega) ⟨u,hu,hd⟩];exact e1m hrun n i (by omega) fun k h1 h2=>hn k h1 (by omega)
theorem b7v(hrun:∀j,j<all.length→Run C gd all I U E bef j)(f:Ent→Ent){d:Nat}:∀(n i:Nat),i+n≤all.length→(∀k,i≤k→k<i+n→b0g U k d→f ((E (k+1)).get d)=f ((E k).get d)) →
  f ((E (i+n)).get d)=f ((E i).get d)
 |0,i,_,_=>rfl
 |n+1,i,hl,hn=>by
  rw[show i+(n+1)=(i+n)+1 from rfl];refine Eq.trans ?_ (b7v hrun f n i (by omega) fun k h1 h2=>hn k h1 (by omega));by_cases ht:b0g U (i+n) d
  ·exact hn (i+n) (by omega) (by omega) ht
  ·rw[(hrun (i+n) (by omega)).next,a8p fun u hu hd=>ht ⟨u,hu,hd⟩]
def At2(n:Nat)(U:Nat→List Up)(E:Nat→En)(S:Nat→Prop)(e:En):Prop :=
 ∀d,∃j,j≤n∧e.get d=(E j).get d∧∀k,k<n→b0g U k d→(S k↔k<j)
theorem f1m(hrun:∀j,j<all.length→Run C gd all I U E bef j){d i j:Nat}(hi:i≤all.length)(hj:j≤all.length)(hn:∀k,k<all.length→(i≤k∧k<j)∨(j≤k∧k<i)→¬b0g U k d):(E i).get d=(E j).get d:=by
 rcases Ia i j with h|h
 ·have:=e1m hrun (d:=d) (j - i) i (by omega) fun k h1 h2=>hn k (by omega) (.inl ⟨h1,by omega⟩)
  rw[show i+(j - i)=j by omega] at this;exact this.symm
 ·have:=e1m hrun (d:=d) (i - j) j (by omega) fun k h1 h2=>hn k (by omega) (.inr ⟨h1,by omega⟩)
  rw[show j+(i - j)=i by omega] at this;exact this
theorem c6v(hrun:∀j,j<all.length→Run C gd all I U E bef j)(f:Ent→Ent){d i j:Nat}(hi:i≤all.length)(hj:j≤all.length)
  (hn:∀k,k<all.length→(i≤k∧k<j)∨(j≤k∧k<i)→b0g U k d→f ((E (k+1)).get d)=f ((E k).get d)):f ((E i).get d)=f ((E j).get d):=by
 rcases Ia i j with h|h
 ·have:=b7v hrun f (d:=d) (j - i) i (by omega) fun k h1 h2=>hn k (by omega) (.inl ⟨h1,by omega⟩)
  rw[show i+(j - i)=j by omega] at this;exact this.symm
 ·have:=b7v hrun f (d:=d) (i - j) j (by omega) fun k h1 h2=>hn k (by omega) (.inr ⟨h1,by omega⟩)
  rw[show j+(i - j)=i by omega] at this;exact this
theorem f4w(hrun:∀j,j<all.length→Run C gd all I U E bef j){S:Nat→Prop}(hat:At2 all.length U E S e)(hS:∀k,S k→∀m,m∈bef k→S m){i:Nat}(hi:i<all.length)(hni:¬S i)(hb:∀m,m∈bef i→S m):Same (E i) e (I i):=by
 have key:∀{d j k:Nat},(∀k,k<all.length→b0g U k d→(S k↔k<j))→k<all.length→(j≤k∧k<i)∨(i≤k∧k<j)→b0g U k d →
   k=i∨(d∉(I i).1∧(2*d∈(I i).2→b8d ((E k).get d) ((E (k+1)).get d)=true)∧(2*d+1∈(I i).2→b8y ((E k).get d) ((E (k+1)).get d)=true)):=by
  intro d j k hj hk hcase ht;have t:=(c3c (e:=E k) (ins:=I k)).1 ht;by_cases hki:k=i
  ·exact .inl hki
  ·refine .inr ?_;rcases hcase with⟨h1,h2⟩|⟨h1,h2⟩
   ·have hkS:¬S k:=fun hs=>by have:=(hj k hk ht).1 hs;omega
    rcases(hrun i hi).apart k h2 with h|h
    ·exact absurd (hb k h) hkS
    ·obtain⟨q1,_,_,q4,q5⟩:=c9s h (d:=d) (t.imp id FT);refine⟨q1,fun hw=>?_,fun hw=>?_⟩
     ·rw[(hrun k hk).next];exact t.elim (fun h=>absurd hw (q4 h)) And.right
     ·rw[(hrun k hk).next];exact d2c ht fun hc=>q5 hc hw
   ·have hkS:S k:=(hj k hk ht).2 h2;rcases(hrun k hk).apart i (by omega) with h|h
    ·exact absurd (hS k hkS i h) hni
    ·obtain⟨q1,q4,q5⟩:=d7d h (d:=d) (t.imp id FT);refine⟨q1,fun hw=>?_,fun hw=>?_⟩
     ·rw[(hrun k hk).next];exact t.elim (fun h=>absurd hw (q4 h)) And.right
     ·rw[(hrun k hk).next];exact d2c ht fun hc=>q5 hc hw
 have hself:∀{d j:Nat},(∀k,k<all.length→b0g U k d→(S k↔k<j))→b0g U i d→¬i<j:=fun hj ht hlt=>hni ((hj i hi ht).2 hlt)
 refine⟨fun d hd=>?_,fun d hd=>?_⟩
 ·obtain⟨j,hjl,he,hj⟩:=hat d;rw[he];refine f1m hrun hjl (D5 hi) fun k hk hc ht=>?_
  rcases key hj hk hc ht with rfl|⟨h,_⟩
  ·rcases hc with⟨h1,h2⟩|⟨h1,h2⟩
   ·omega
   ·exact hself hj ht h2
  ·exact h hd
 ·obtain⟨q,hq⟩:∃q,d=2*q∨d=2*q+1:=⟨d / 2,by omega⟩
  obtain⟨j,hjl,he,hj⟩:=hat q;rcases hq with rfl|rfl
  ·rw[d3c,d3c,he];refine c6v hrun Ent.mask hjl (D5 hi) fun k hk hc ht=>?_
   rcases key hj hk hc ht with rfl|⟨_,h,_⟩
   ·rcases hc with⟨h1,h2⟩|⟨h1,h2⟩
    ·omega
    ·exact absurd h2 (hself hj ht)
   ·exact d7h (h hd)
  ·rw[e1x,e1x,he];refine c6v hrun Ent.maskC hjl (D5 hi) fun k hk hc ht=>?_
   rcases key hj hk hc ht with rfl|⟨_,_,h⟩
   ·rcases hc with⟨h1,h2⟩|⟨h1,h2⟩
    ·omega
    ·exact absurd h2 (hself hj ht)
   ·exact d3t (h hd)
theorem f5m(hrun:∀j,j<all.length→Run C gd all I U E bef j){S:Nat→Prop}(hat:At2 all.length U E S e)(hS:∀k,S k→∀m,m∈bef k→S m){i:Nat}(hi:i<all.length)(hni:¬S i)(hb:∀m,m∈bef i→S m) :
  At2 all.length U E (fun k=>S k∨k=i) (e.app (U i)):=by
 intro d;obtain⟨j,hjl,he,hj⟩:=hat d;by_cases ht:b0g U i d
 ·have hik:∀k,k<all.length→b0g U k d→k≠i→(S k↔k<i):=by
   intro k hk htk hne;rcases Nat.lt_or_gt_of_ne hne with h|h
   ·exact⟨fun _=>h,fun _=>hb k (e3s hrun h hi htk ht)⟩
   ·exact⟨fun hs=>absurd (hS k hs i (e3s hrun h hk ht htk)) hni,fun h'=>by omega⟩
  refine⟨i+1,hi,?_,fun k hk htk=>?_⟩
  ·rw[(hrun i hi).next];refine c1y ?_;rw[he];refine f1m hrun hjl (D5 hi) fun k hk hc htk=>?_
   by_cases hki:k=i
   ·subst hki;have:¬k<j:=fun h=>hni ((hj k hk htk).2 h)
    omega
   ·have h1:=hj k hk htk;have h2:=hik k hk htk hki;rcases hc with⟨h3,h4⟩|⟨h3,h4⟩
    ·exact absurd (h1.1 (h2.2 h4)) (by omega)
    ·exact absurd (h2.1 (h1.2 h4)) (by omega)
  ·by_cases hki:k=i
   ·subst hki;exact⟨fun _=>by omega,fun _=>.inr rfl⟩
   ·show(S k∨k=i)↔_;rw[show(S k∨k=i)↔S k from⟨fun h=>h.resolve_right hki,.inl⟩,hik k hk htk hki];omega
 ·refine⟨j,hjl,?_,fun k hk htk=>?_⟩
  ·rw[a8p fun u hu hd=>ht ⟨u,hu,hd⟩];exact he
  ·have hki:k≠i:=fun h=>ht (h ▸ htk)
   show(S k∨k=i)↔_;rw[show(S k∨k=i)↔S k from⟨fun h=>h.resolve_right hki,.inl⟩];exact hj k hk htk
end
end Go.Rb

namespace Go.Rb
variable {A:Amb} {P:Program} {Z Z':Nat→Prop} {h h':Array Obj} {R:Type} {C:Ctx} {B:Base} {e e':En} {a:Act} {w w':World} {F F0:Nat→List Nat} {X X0:List Nat} {r:Nat→Ent} {o:Oper}
theorem Rel.drawn(hrel:Rel A P C B e a w Z F X)(n:Nat):Rel A P C B e a { w with drawn:=n } Z F X :=
 ⟨hrel.own,hrel.ref,hrel.nodup,hrel.disj,hrel.notZ,hrel.fb,hrel.fnew,hrel.xnodup,hrel.xdisj,hrel.xnotZ,hrel.xb,hrel.xnew,hrel.zb,hrel.z,hrel.znew,hrel.hs,hrel.keep,hrel.os,hrel.out,hrel.tape,hrel.defs,hrel.nt,hrel.glob,hrel.fix⟩
def unl(n:Nat)(listed:Array Bool):List Nat:=(List.range n).filter fun i=>!listed.getD i true
theorem c1j{l:Array Bool}{i:Nat}(hi:i<l.size):l.getD i true=l.getD i false:=by
 simp[Bp,hi]
theorem e5n{o:Oper}{m:Nat}(hm:m∈b8c o):∃e,e∈o.after.toList∧e.on=m∧CZ .any e=true:=by
 unfold b8c at hm;obtain⟨e,h1,h2⟩:=EU.1 hm;refine⟨e,h1,?_⟩;unfold CZ;cases hg:e.ground <;> rw[hg] at h2 <;> simp at h2 ⊢ <;> exact h2
theorem e4z{o:Oper}{e:Edge}(he:e∈o.after.toList)(hb:CZ .any e=true):e.on∈b8c o:=by
 unfold b8c;refine EU.2 ⟨e,he,?_⟩;unfold CZ at hb;cases hg:e.ground <;> rw[hg] at hb <;> first|rfl|exact absurd hb (by simp only[show(E7==Ir)=false from rfl,show(E7==Is)=false from rfl];simp)
theorem c6t{ops:Array Oper}{listed:Array Bool}(hsz:listed.size=ops.size){i:Nat}:i∈E2 .any ops listed↔∃o,ops[i]?=some o∧listed.getD i false=false∧∀m,m∈b8c o→listed.getD m false=true:=by
 unfold E2;rw[Cb,Cm];constructor
 ·rintro⟨hi,h⟩;rw[Af] at h;obtain⟨h1,h2⟩:=h;rw[c1j (by omega)] at h1;refine⟨ops[i],by simp[hi],by simpa using h1,fun m hm=>?_⟩;obtain⟨e,g1,rfl,g3⟩:=e5n hm;rw[Array.getElem?_eq_getElem hi] at h2;simp only[Ca,Dw] at h2;have:=EO.1 h2 e (by simpa using g1);rw[g3] at this;simpa using this
 ·rintro⟨o,h1,h2,h3⟩;have hi:i<ops.size:=by
   rcases BQ i ops.size with h|h
   ·exact h
   ·rw[Cn h] at h1;simp at h1
  refine⟨hi,?_⟩;rw[Af,c1j (by omega),h2];refine⟨rfl,?_⟩;rw[h1];simp only[Ca,Dw];refine EO.2 fun e he=>?_
  cases hb:CZ .any e with
  |false=>rfl
  |true=>rw[h3 e.on (e4z (by simpa using he) hb)];rfl
theorem d3x{l:Array Bool}{i k:Nat}(hi:i<l.size):(l.setIfInBounds i true).getD k false=true↔(l.getD k false=true∨k=i):=by
 rw[Bp,Bp];by_cases hk:k=i
 ·subst hk;simp[hi]
 ·rw[Array.getElem?_setIfInBounds_ne (Ne.symm hk)];simp[hk]
theorem f9d{n i:Nat}{listed:Array Bool}(hsz:listed.size=n)(hi:i<n)(hl:listed.getD i false=false){f:Nat}(hu:(unl n listed).length=f+1):(unl n (listed.setIfInBounds i true)).length=f:=by
 have hmem:i∈unl n listed:=by
  unfold unl;rw[Cb,Cm];exact⟨hi,by rw[c1j (by omega),hl];rfl⟩
 have heq:unl n (listed.setIfInBounds i true)=(unl n listed).erase i:=by
  have hnd:(unl n listed).Nodup:=List.Nodup.sublist List.filter_sublist List.nodup_range;rw[hnd.erase_eq_filter];unfold unl;rw[List.filter_filter];refine List.filter_congr fun k hk=>?_
  have hkn:=Cm.1 hk;rw[c1j (by simp;omega),c1j (by omega)];have:=d3x (l:=listed) (k:=k) (by omega:i<listed.size);by_cases hki:k=i
  ·subst hki;rw[this.2 (.inr rfl)];simp
  ·have hb:(listed.setIfInBounds i true).getD k false=listed.getD k false:=by
    cases h1:listed.getD k false with
    |true=>exact this.2 (.inl h1)
    |false =>
     cases h2:(listed.setIfInBounds i true).getD k false with
     |false=>rfl
     |true =>
          rcases this.1 h2 with h|h
          ·rw[h1] at h;exact absurd h (by simp)
          ·exact absurd h hki
   rw[hb];simp[hki]
 rw[heq,List.length_erase_of_mem hmem,hu];rfl
section
variable {ops:Array Oper} {I:Nat→List Nat×List Nat} {U:Nat→List Up} {E:Nat→En} {bef:Nat→List Nat}
theorem e1z(hrun:∀j,j<ops.toList.length→Run C (a6y ops.toList) ops.toList I U E bef j){listed:Array Bool}(hsz:listed.size=ops.size):∀n i,i<n→i<ops.size→listed.getD i false=false→∃j,j∈E2 .any ops listed
 |0,i,hn,_,_=>by omega
 |n+1,i,hn,hi,hl=>by
  obtain⟨⟨o,g1,g2,g3,g4⟩,_,_⟩:=hrun i (by simpa using hi);rw[BU] at g1;by_cases hall:∀m,m∈b8c o→listed.getD m false=true
  ·exact⟨i,(c6t hsz).2 ⟨o,g1,hl,hall⟩⟩
  ·obtain⟨m,hm⟩:=Classical.not_forall.1 hall;obtain⟨hm1,hm2⟩:=Classical.not_imp.1 hm;have hmi:=g3 m hm1;exact e1z hrun hsz n m (by omega) (by omega) (by simpa using hm2)
theorem d1p(htab:a3c P C)(hft:FtOK A P C)(hfix:b9y C B)(hrun:∀j,j<ops.toList.length→Run C (a6y ops.toList) ops.toList I U E bef j){Q:Exit→Act→World→Prop}
  (hq:∀a w Z F,Rel A P C B (E ops.toList.length) a w Z F []→Q .normal a w):∀(fuel:Nat) (listed:Array Bool) (e:En) (a:Act) (w:World) (Z:Nat→Prop) (F:Nat→List Nat),
  listed.size=ops.size→(unl ops.size listed).length=fuel→At2 ops.toList.length U E (fun k=>listed.getD k false=true) e→(∀k,listed.getD k false=true→∀m,m∈bef k→listed.getD m false=true) →
  Rel A P C B e a w Z F []→wpAny P .any ops Q fuel listed a w
 |0,listed,e,a,w,Z,F,hsz,hu,hat,hcl,hrel=>by
  have hall:∀k,k<ops.size→listed.getD k false=true:=by
   intro k hk;cases hl:listed.getD k false with
   |true=>rfl
   |false =>
    have:k∈unl ops.size listed:=by
     unfold unl;rw[Cb,Cm];exact⟨hk,by rw[c1j (by omega),hl];rfl⟩
    rw[List.length_eq_zero_iff.1 hu] at this;simp at this
  refine⟨?_,hq a w Z F (hrel.congr fun d=>?_)⟩
  ·rw[List.eq_nil_iff_forall_not_mem];intro i hi;obtain⟨o,h1,h2,_⟩:=(c6t hsz).1 hi;have hi':i<ops.size:=by
    rcases BQ i ops.size with h|h
    ·exact h
    ·rw[Cn h] at h1;simp at h1
   rw[hall i hi'] at h2;simp at h2
  ·obtain⟨j,hjl,he,hj⟩:=hat d;rw[he];refine(f1m hrun hjl (Ar _) fun k hk hc ht=>?_).symm;have:=(hj k hk ht).1 (hall k (by simpa using hk));omega
 |fuel+1,listed,e,a,w,Z,F,hsz,hu,hat,hcl,hrel=>by
  refine⟨fun hr=>?_,fun i hi=>?_⟩
  ·exfalso;obtain⟨i,hi⟩:∃i,i∈unl ops.size listed:=by
    cases hul:unl ops.size listed with
    |nil=>rw[hul] at hu;simp at hu
    |cons i _=>exact⟨i,by simp⟩
   unfold unl at hi;rw[Cb,Cm] at hi;obtain⟨h1,h2⟩:=hi;rw[c1j (by omega)] at h2;obtain⟨j,hj⟩:=e1z hrun hsz (i+1) i (by omega) h1 (by simpa using h2);rw[hr] at hj;simp at hj
  ·obtain⟨o,h1,h2,h3⟩:=(c6t hsz).1 hi;have hin:i<ops.size:=by
    rcases BQ i ops.size with h|h
    ·exact h
    ·rw[Cn h] at h1;simp at h1
   have hin':i<ops.toList.length:=by simpa using hin
   obtain⟨⟨o',g1,g2,g3,g4⟩,_,_⟩:=hrun i hin';rw[BU,h1] at g1;obtain rfl:=Ag g1;have hni:¬listed.getD i false=true:=by rw[h2];simp
   have hb:∀m,m∈bef i→listed.getD m false=true:=by
    intro m hm;rw[g4] at hm;rcases c8t hm with⟨q,hq1,hq2⟩|hm
    ·rcases hq2 with rfl|hq2
     ·exact h3 _ (Cr.1 hq1)
     ·exact hcl q (h3 q (Cr.1 hq1)) m hq2
    ·simp at hm
   have hstep:=e0n htab hft hfix hrel (ops:=ops) (e6v g2 (f4w hrun hat hcl hin' hni hb));unfold wpOp;rw[h1];refine hstep _ Q fun a' w' Z' F' hr'=>?_
   refine d1p htab hft hfix hrun hq fuel (listed.setIfInBounds i true) _ a' w' Z' F' (by simpa using hsz) (f9d hsz hin h2 hu) ?_ ?_ hr'
   ·have:=f5m hrun hat hcl hin' hni hb;intro d;obtain⟨j,q1,q2,q3⟩:=this d;exact⟨j,q1,q2,fun k hk ht=>(d3x (by omega)).trans (q3 k hk ht)⟩
   ·intro k hk m hm;rw[d3x (by omega)] at hk ⊢;rcases hk with hk|rfl
    ·exact .inl (hcl k hk m hm)
    ·exact .inl (hb m hm)
end
theorem e5c(hmix:P.follows .mixedOrders=true)(htab:a3c P C)(hft:FtOK A P C)(hfix:b9y C B)(hrel:Rel A P C B e a w Z F []){id:Nat}{ops:Array Oper}{k:En→Option R}{res:R}{Q:Exit→Act→World→Prop}
  (hk:c7f C (a6y ops.toList) ops.toList ops.toList e [] [] k=some res) (hq:∀e a w Z F,k e=some res→Rel A P C B e a w Z F []→Q .normal a w):(Code.region id ops true).wp P Q a w:=by
 obtain⟨I,U,E,bef,g1,g2,g3⟩:=c5e ops.toList 0 e [] [] (fun _=>([],[])) (fun _=>[]) (fun _=>e) (fun _=>[]) rfl (A8 _) rfl rfl (fun j hj=>absurd hj (by omega)) (fun j hj=>absurd hj (by omega)) (fun j hj=>absurd hj (by omega)) hk;refine wp_region_any hmix ?_;refine d1p htab hft hfix g1 (fun a w Z F hr=>hq _ a w Z F g3 hr) ops.size (Array.replicate ops.size false) e a _ Z F (by simp) ?_ ?_ ?_ (hrel.drawn _)
 ·unfold unl;rw[List.filter_eq_self.2]
  ·simp
  ·intro i hi;rw[Cm] at hi;simp[Bp,hi]
 ·intro d;refine⟨0,A8 _,by rw[g2 0 (Ar _)],fun k hk _=>⟨fun h=>?_,fun h=>absurd h (by omega)⟩⟩;dsimp only at h;rw[Bp] at h;have hk':k<ops.size:=by simpa using hk
  simp[hk'] at h
 ·intro k hk;rw[Bp] at hk;by_cases hk':k<ops.size
  ·simp[hk'] at hk
  ·simp[hk'] at hk
end Go.Rb
