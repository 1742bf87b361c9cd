/- Rb: the translator's functions hand on whatever their continuation makes. Own work. -/
import Derived.Test.YthkgkalebkbndaaGreatDoorRbA
import Derived.Test.YthkgkalebkbndaaGreatDoorRbC
set_option autoImplicit false
set_option linter.unusedVariables false
set_option linter.unusedSimpArgs false
namespace Go.Rb
variable {R R':Type} {Φ:Option R→Option R'→Prop}
theorem a7h(h0:Φ none none){a b:Ty}{x:a.den}{k:b.den→Option R}{k':b.den→Option R'}(hk:∀y,Φ (k y) (k' y)):Φ (b0a a b x k) (b0a a b x k'):=by
 unfold b0a
 repeat' split
 all_goals first|exact h0|exact hk _
theorem d1a(h0:Φ none none){a b:Ty}{x:a.den}{k:b.den→Option R}{k':b.den→Option R'}(hk:∀y,Φ (k y) (k' y)):Φ (d7i a b x k) (d7i a b x k'):=by
 unfold d7i
 split
 ·exact hk _
 ·exact hk _
 ·rename_i hne1 hne2
  split
  ·exact(hne1 _ _ rfl HEq.rfl rfl HEq.rfl).elim
  ·exact(hne2 _ _ rfl HEq.rfl rfl HEq.rfl).elim
  ·exact a7h h0 hk
theorem b2n(h0:Φ none none){a b:Ty}{x:a.den}{k:b.den→Option R}{k':b.den→Option R'}(hk:∀y,Φ (k y) (k' y)):Φ (c6u a b x k) (c6u a b x k'):=by
 unfold c6u
 repeat' split
 all_goals first|exact h0|exact hk _
theorem b9i(h0:Φ none none):∀{t:Ty} {x:t.den} {i:Nat} {k:(t':Ty)→t'.den→Option R} {k':(t':Ty)→t'.den→Option R'},(∀t y,Φ (k t y) (k' t y))→Φ (comp t x i k) (comp t x i k'):=by
 intro t
 induction t with
 |pair a b iha ihb =>
  intro x i k k' hk
  cases i with
  |zero=>exact hk _ _
  |succ i=>exact ihb hk
 |_=>intro x i k k' hk;exact h0
theorem a9x(h0:Φ none none):∀{p:List Stp} {t:Ty} {x:t.den} {k:(t':Ty)→t'.den→Option R} {k':(t':Ty)→t'.den→Option R'},(∀t y,Φ (k t y) (k' t y))→Φ (b1w p t x k) (b1w p t x k')
 |[],t,x,k,k',hk=>hk _ _
 |.f i::p,t,x,k,k',hk=>by
  cases t <;> first|exact h0|exact b9i h0 fun _ _=>a9x (p:=p) h0 hk
 |.a j::p,t,x,k,k',hk=>by
  cases t <;> first|exact h0|exact a9x (p:=p) h0 hk
theorem a9w(h0:Φ none none){p:Pl}{t:Ty}{x:t.den}{k:(t':Ty)→t'.den→Option R}{k':(t':Ty)→t'.den→Option R'}(hk:∀t y,Φ (k t y) (k' t y)):Φ (a3k p t x k) (a3k p t x k'):=by
 unfold a3k
 refine a9x h0 fun t y=>?_
 repeat' split
 all_goals first|exact h0|exact hk _ _|exact a9x h0 hk
theorem d7o(h0:Φ none none):∀{t:Ty} {x:t.den} {i:Nat} {t2:Ty} {y:t2.den} {k:(t':Ty)→t'.den→Option R} {k':(t':Ty)→t'.den→Option R'},(∀t y,Φ (k t y) (k' t y))→Φ (f0c t x i t2 y k) (f0c t x i t2 y k'):=by
 intro t
 induction t with
 |pair a b iha ihb =>
  intro x i t2 y k k' hk
  cases i with
  |zero=>exact hk _ _
  |succ i=>exact ihb fun _ _=>hk _ _
 |_=>intro x i t2 y k k' hk;exact h0
theorem b0e(h0:Φ none none):∀{p:List Stp} {t:Ty} {x:t.den} {t2:Ty} {y:t2.den} {k:(t':Ty)→t'.den→Option R} {k':(t':Ty)→t'.den→Option R'},(∀t y,Φ (k t y) (k' t y))→Φ (b4y p t x t2 y k) (b4y p t x t2 y k')
 |[],t,x,t2,y,k,k',hk=>hk _ _
 |.f i::p,t,x,t2,y,k,k',hk=>by
  cases t <;> first|exact h0|exact b9i h0 fun _ _=>b0e (p:=p) h0 fun _ _=>d7o h0 fun _ _=>hk _ _
 |.a j::p,t,x,t2,y,k,k',hk=>by
  cases t <;> first|exact h0|exact b0e (p:=p) h0 fun _ _=>b2n h0 fun _=>hk _ _
theorem d7y(h0:Φ none none){t2:Ty}{y:t2.den}{p:Pl}{t:Ty}{x:t.den}{k:(t':Ty)→t'.den→Option R}{k':(t':Ty)→t'.den→Option R'}(hk:∀t y,Φ (k t y) (k' t y)):Φ (c1b t2 y p t x k) (c1b t2 y p t x k'):=by
 unfold c1b
 refine a9x h0 fun t y=>?_
 split
 ·split
  ·exact b0e h0 hk
  ·exact h0
 ·split
  ·refine a9x h0 fun _ _=>?_
   split
   ·exact b0e h0 fun _ _=>b2n h0 fun _=>b0e h0 hk
   ·exact h0
  ·split
   ·refine b2n h0 fun _=>?_
    split
    ·exact b0e h0 hk
    ·exact h0
   ·exact h0
  ·exact h0
theorem d2z(h0:Φ none none){p:Pl}{t:Ty}{x:t.den}{k:(t':Ty)→t'.den→Option R}{k':(t':Ty)→t'.den→Option R'}(hk:∀t y,Φ (k t y) (k' t y)):Φ (b7c p t x k) (b7c p t x k'):=by
 unfold b7c
 refine a9x h0 fun t y=>?_
 repeat' split
 all_goals first|exact h0|exact b0e h0 hk
theorem b1m(h0:Φ none none){r:Nat→Ent}{p:Pl}{v c:Nat}{k:(t':Ty)→t'.den→Option R}{k':(t':Ty)→t'.den→Option R'}(hk:∀t y,Φ (k t y) (k' t y)):Φ (c3j r p v c k) (c3j r p v c k'):=by
 unfold c3j
 repeat' split
 all_goals first|exact h0|exact hk _ _
theorem f2w(h0:Φ none none){c:Value}{k:(t':Ty)→t'.den→Option R}{k':(t':Ty)→t'.den→Option R'}(hk:∀t y,Φ (k t y) (k' t y)):Φ (lit c k) (lit c k'):=by
 unfold lit
 repeat' split
 all_goals first|exact h0|exact hk _ _
theorem a2m(h0:Φ none none){r:Nat→Ent}{o:Operand}{k:(t':Ty)→t'.den→Org→Option R}{k':(t':Ty)→t'.den→Org→Option R'}(hk:∀t y g,Φ (k t y g) (k' t y g)):Φ (view r o k) (view r o k'):=by
 unfold view
 split
 ·exact f2w h0 fun _ _=>hk _ _ _
 ·split
  ·exact hk _ _ _
  ·exact b1m h0 fun _ _=>a9w h0 fun _ _=>hk _ _ _
  ·exact hk _ _ _
  ·exact hk _ _ _
  ·exact h0
 ·exact h0
theorem c7t(h0:Φ none none){r:Nat→Ent}{p:Pl}{b:Bump}{t:Ty}{x:t.den}{k:List Up→Option R}{k':List Up→Option R'}(hk:∀us,Φ (k us) (k' us)):Φ (putK r p b t x k) (putK r p b t x k'):=by
 unfold putK
 split
 ·exact d7y h0 fun _ _=>hk _
 ·exact d7y h0 fun _ _=>hk _
 ·exact h0
theorem f6x(h0:Φ none none){r:Nat→Ent}{t:Ty}{x:t.den}{o:Org}{k:List Up→Option R}{k':List Up→Option R'}(hk:∀us,Φ (k us) (k' us)):Φ (frzK r t x o k) (frzK r t x o k'):=by
 unfold frzK
 split
 ·exact hk _
 ·refine a7h h0 fun _=>?_
  split
  ·exact hk _
  ·exact c7t h0 hk
  ·exact h0
theorem b8m(h0:Φ none none){r:Nat→Ent}{o:Org}{k:List Up→Option R}{k':List Up→Option R'}(hk:∀us,Φ (k us) (k' us)):Φ (c4f r o k) (c4f r o k'):=by
 unfold c4f
 split
 ·exact hk _
 ·split
  ·exact d2z h0 fun _ _=>hk _
  ·exact d2z h0 fun _ _=>hk _
  ·exact h0
 ·exact h0
theorem f0p(h0:Φ none none){C:Ctx}{f:Nat}{t:Ty}{k:t.den→Option R}{k':t.den→Option R'}(hk:∀y,Φ (k y) (k' y)):Φ (e7z C f t k) (e7z C f t k'):=by
 unfold e7z
 split
 ·split
  ·exact a7h h0 hk
  ·exact h0
 ·split
  ·exact a7h h0 hk
  ·exact h0
 ·exact h0
theorem f4f(h0:Φ none none){C:Ctx}{f:Nat}{t:Ty}{k:t.den→Option R}{k':t.den→Option R'}(hk:∀y,Φ (k y) (k' y)):Φ (fnT C f t k) (fnT C f t k'):=by
 unfold fnT
 split
 ·split
  ·exact hk _
  ·exact h0
 ·rename_i hne
  split
  ·exact(hne _ _ rfl HEq.rfl).elim
  ·exact f0p h0 hk
theorem f8f(h0:Φ none none){r:Nat→Ent}{p:Pl}{v c:Nat}{lo hi:Int}{t:Ty}{k:t.den→List Up→Option R}{k':t.den→List Up→Option R'}(hk:∀y us,Φ (k y us) (k' y us)):Φ (subT r p v c lo hi t k) (subT r p v c lo hi t k'):=by
 unfold subT
 split
 ·refine b1m h0 fun _ _=>a9w h0 fun _ _=>?_
  split
  ·exact b8m h0 fun _=>a7h h0 fun _=>hk _ _
  ·exact h0
 ·exact h0
theorem c7j(h0:Φ none none){C:Ctx}{r:Nat→Ent}{o:Operand}{t:Ty}{k:t.den→List Up→Option R}{k':t.den→List Up→Option R'}(hk:∀y us,Φ (k y us) (k' y us)):Φ (asT0 C r o t k) (asT0 C r o t k'):=by
 have hgo:Φ (asT0.go r o t k) (asT0.go r o t k'):=by
  unfold asT0.go
  refine a2m h0 fun _ _ _=>d1a h0 fun _=>?_
  split
  ·exact b8m h0 fun _=>hk _ _
  ·exact f6x h0 fun _=>hk _ _
 unfold asT0
 split
 ·exact f4f h0 fun _=>hk _ _
 ·cases t <;> first|exact h0|exact hk _ _
 ·split
  ·cases t <;> first|exact h0|exact hk _ _
  ·exact f4f h0 fun _=>hk _ _
  ·exact f8f h0 hk
  ·exact hgo
 ·exact hgo
theorem b6p(h0:Φ none none){C:Ctx}{r:Nat→Ent}{o:Operand}{t:Ty}{k:t.den→List Up→Option R}{k':t.den→List Up→Option R'}(hk:∀y us,Φ (k y us) (k' y us)):Φ (asT C r o t k) (asT C r o t k'):=by
 by_cases h1:t=.lf .nil0
 ·subst h1
  unfold asT
  dsimp only
  split
  ·exact hk _ _
  ·exact c7j h0 hk
 by_cases h2:t=.lf .nlb
 ·subst h2
  unfold asT
  dsimp only
  split
  ·exact hk _ _
  ·exact c7j h0 hk
  ·refine c7j h0 fun y us=>?_
   split
   ·exact h0
   ·exact hk _ _
 ·have e:∀{R:Type} (k:t.den→List Up→Option R),asT C r o t k=asT0 C r o t k:=by
   intro R k
   unfold asT
   split
   ·exact absurd rfl h1
   ·exact absurd rfl h2
   ·rfl
  rw[e,e]
  exact c7j h0 hk
end Go.Rb

namespace Go.Rb
variable {R R':Type} {Φ:Option R→Option R'→Prop}
theorem d5f(h0:Φ none none){α:Type}{x:Option α}{k:α→Option R}{k':α→Option R'}(hk:∀y,Φ (k y) (k' y)):Φ (x.bind k) (x.bind k'):=by
 cases x with
 |none=>exact h0
 |some y=>exact hk y
theorem a4h{dst:Option Nat}{s:SV}{us:List Up}{k:List Up→Option R}{k':List Up→Option R'}(hk:∀us,Φ (k us) (k' us)):Φ (fin dst s us k) (fin dst s us k'):=by
 unfold fin;split <;> exact hk _
theorem b6a(h0:Φ none none){C:Ctx}{r:Nat→Ent}{o:Operand}{kp:(t:Ty)→t.den→Option R}{kp':(t:Ty)→t.den→Option R'}{kl:Pl→Nat→Nat→(t:Ty)→t.den→Option R}{kl':Pl→Nat→Nat→(t:Ty)→t.den→Option R'}
  (hp:∀t y,Φ (kp t y) (kp' t y)) (hl:∀p v c t y,Φ (kl p v c t y) (kl' p v c t y)):Φ (locK C r o kp kl) (locK C r o kp' kl'):=by
 unfold locK
 split
 ·split
  ·exact hp _ _
  ·exact h0
 ·split
  ·exact hp _ _
  ·exact hl _ _ _ _ _
  ·split
   ·split
    ·exact a9w h0 fun _ _=>hl _ _ _ _ _
    ·exact a9w h0 fun _ _=>hl _ _ _ _ _
    ·exact h0
   ·exact h0
  ·exact h0
 ·exact h0
theorem f0n(h0:Φ none none){op:BinOp}{kd:IntKind}{x y:Int}{k:(t:Ty)→t.den→Option R}{k':(t:Ty)→t.den→Option R'}(hk:∀t y,Φ (k t y) (k' t y)):Φ (f0a op kd x y k) (f0a op kd x y k'):=by
 cases op <;> unfold f0a <;> dsimp only <;> first|exact hk _ _|(split <;> first|exact h0|exact hk _ _)
theorem f2t(h0:Φ none none){op:BinOp}{x y:List Int}{k:(t:Ty)→t.den→Option R}{k':(t:Ty)→t.den→Option R'}(hk:∀t y,Φ (k t y) (k' t y)):Φ (e8i op x y k) (e8i op x y k'):=by
 cases op <;> unfold e8i <;> dsimp only <;> first|exact h0|exact hk _ _|(split <;> first|exact h0|exact hk _ _)
theorem f5p(h0:Φ none none){C:Ctx}{op:BinOp}{T:Nat}{con:Bool}{t:Ty}{x:t.den}{t':Ty}{y:t'.den}{k:(t:Ty)→t.den→Option R}{k':(t:Ty)→t.den→Option R'}(hk:∀t y,Φ (k t y) (k' t y)) :
  Φ (binK C op T con t x t' y k) (binK C op T con t x t' y k'):=by
 unfold binK
 split
 ·split
  ·exact f0n h0 hk
  ·exact h0
 ·exact f2t h0 hk
 ·split
  ·split <;> first|exact h0|exact hk _ _
  ·exact h0
 ·split
  ·split <;> first|exact h0|exact hk _ _
  ·exact h0
 ·split
  ·split
   ·refine b2n h0 fun _=>?_
    split
    ·split <;> first|exact h0|exact hk _ _
    ·exact h0
   ·exact h0
  ·exact h0
 ·exact h0
theorem g3f(h0:Φ none none){op:UnOp}{t:Ty}{x:t.den}{k:(t:Ty)→t.den→Option R}{k':(t:Ty)→t.den→Option R'}(hk:∀t y,Φ (k t y) (k' t y)):Φ (unK op t x k) (unK op t x k'):=by
 unfold unK
 split <;> first|exact h0|exact hk _ _
theorem c7o(h0:Φ none none){C:Ctx}{r:Nat→Ent}{o:Operand}{want:Option Ty}{k:(t:Ty)→t.den→List Up→Option R}{k':(t:Ty)→t.den→List Up→Option R'}(hk:∀t y us,Φ (k t y us) (k' t y us)):Φ (anyT C r o want k) (anyT C r o want k'):=by
 have hgo:Φ (anyT.go r o k) (anyT.go r o k'):=by
  unfold anyT.go
  refine a2m h0 fun _ _ _=>?_
  split
  ·exact hk _ _ _
  ·exact b8m h0 fun _=>hk _ _ _
 unfold anyT
 split
 ·split <;> first|exact h0|exact hk _ _ _
 ·split
  ·split <;> first|exact h0|exact hk _ _ _
  ·exact hgo
 ·exact hgo
theorem d3b(h0:Φ none none){C:Ctx}:∀{ps:List (Nat×Operand)} {r:Nat→Ent} {us:List Up} {t:Ty} {x:t.den} {k:(t:Ty)→t.den→List Up→Option R} {k':(t:Ty)→t.den→List Up→Option R'},(∀t y us,Φ (k t y us) (k' t y us))→Φ (c9g C ps r us t x k) (c9g C ps r us t x k')
 |[],r,us,t,x,k,k',hk=>hk _ _ _
 |(i,o)::ps,r,us,t,x,k,k',hk=>by
  unfold c9g
  refine c7o h0 fun _ _ _=>b9i h0 fun _ _=>?_
  split
  ·exact d7o h0 fun _ _=>d3b (ps:=ps) h0 hk
  ·exact h0
theorem d3p(h0:Φ none none){C:Ctx}{te:Ty}{n:Nat}:∀{ps:List (Nat×Operand)} {r:Nat→Ent} {us:List Up} {l:List te.den} {k:List te.den→List Up→Option R} {k':List te.den→List Up→Option R'},(∀l us,Φ (k l us) (k' l us))→Φ (d0p C te n ps r us l k) (d0p C te n ps r us l k')
 |[],r,us,l,k,k',hk=>hk _ _
 |(i,o)::ps,r,us,l,k,k',hk=>by
  unfold d0p
  split
  ·exact b6p h0 fun _ _=>d3p (ps:=ps) h0 hk
  ·exact h0
theorem c8z(h0:Φ none none){C:Ctx}:∀{ps:List PS} {os:List Operand} {r:Nat→Ent} {us:List Up} {k:a2q ps→List Up→Option R} {k':a2q ps→List Up→Option R'},(∀z us,Φ (k z us) (k' z us))→Φ (a8s C ps os r us k) (a8s C ps os r us k')
 |[],os,r,us,k,k',hk=>by
  cases os with
  |nil=>exact hk _ _
  |cons=>exact h0
 |.val t::ps,os,r,us,k,k',hk=>by
  cases os with
  |nil=>cases t <;> exact h0
  |cons o os =>
   cases t with
   |ptr t =>
    unfold a8s
    split
    ·refine b6a h0 (fun _ _=>a7h h0 fun _=>c8z (ps:=ps) h0 fun _ _=>hk _ _) fun _ _ _ _ _=>?_
     split
     ·exact a7h h0 fun _=>c8z (ps:=ps) h0 fun _ _=>hk _ _
     ·exact h0
    ·exact h0
   |_=>exact h0
 |.io t::ps,os,r,us,k,k',hk=>by cases os <;> exact h0
 |.sio t::ps,os,r,us,k,k',hk=>by cases os <;> exact h0
theorem f2h(h0:Φ none none){C:Ctx}{f:Nat}{caps:List Operand}{r:Nat→Ent}{k:(t:Ty)→t.den→List Up→Option R}{k':(t:Ty)→t.den→List Up→Option R'}(hk:∀t y us,Φ (k t y us) (k' t y us)):Φ (e8r C f caps r k) (e8r C f caps r k'):=by
 unfold e8r
 split <;> first|exact h0|(split <;> first|exact h0|exact c8z h0 fun _ _=>hk _ _ _|exact hk _ _ _)
theorem e1x(h0:Φ none none){C:Ctx}{t:Ty}{o:Operand}{r:Nat→Ent}{k:t.den→List Up→List Nat→Option R}{k':t.den→List Up→List Nat→Option R'}(hk:∀y us b,Φ (k y us b) (k' y us b)):Φ (c4b C t o r k) (c4b C t o r k'):=by
 unfold c4b
 split
 ·split
  ·exact d1a h0 fun _=>hk _ _ _
  ·exact b1m h0 fun _ _=>a9w h0 fun _ _=>d1a h0 fun _=>hk _ _ _
  ·exact b6p h0 fun _ _=>hk _ _ _
 ·exact b6p h0 fun _ _=>hk _ _ _
theorem b5a(h0:Φ none none){C:Ctx}{flat:Bool}:∀{ps:List PS} {os:List Operand} {r:Nat→Ent} {us:List Up} {bs qs:List Nat} {k:a2q ps→List Up→List Nat→Option R} {k':a2q ps→List Up→List Nat→Option R'},
  (∀z us qs,Φ (k z us qs) (k' z us qs))→Φ (b5n C flat ps os r us bs qs k) (b5n C flat ps os r us bs qs k')
 |[],os,r,us,bs,qs,k,k',hk=>by
  cases os with
  |nil=>exact hk _ _ _
  |cons=>exact h0
 |.val t::ps,os,r,us,bs,qs,k,k',hk=>by
  cases os with
  |nil=>exact h0
  |cons o os =>
   unfold b5n
   split
   ·refine e1x h0 fun _ _ _=>?_
    split
    ·exact b5a (ps:=ps) h0 fun _ _ _=>hk _ _ _
    ·exact h0
   ·refine b6p h0 fun _ _=>?_
    split
    ·exact b5a (ps:=ps) h0 fun _ _ _=>hk _ _ _
    ·exact h0
 |.io t::ps,os,r,us,bs,qs,k,k',hk=>by
  cases os with
  |nil=>exact h0
  |cons o os =>
   unfold b5n
   refine b6a h0 (fun _ _=>h0) fun _ _ _ _ _=>?_
   split
   ·split
    ·exact b2n h0 fun _=>b5a (ps:=ps) h0 fun _ _ _=>hk _ _ _
    ·exact h0
   ·exact h0
 |.sio t::ps,os,r,us,bs,qs,k,k',hk=>by
  cases os with
  |nil=>exact h0
  |cons o os =>
   unfold b5n
   split
   ·split
    ·split
     ·exact b2n h0 fun _=>b5a (ps:=ps) h0 fun _ _ _=>hk _ _ _
     ·exact h0
    ·split
     ·refine b1m h0 fun _ _=>?_
      split
      ·exact b2n h0 fun _=>b5a (ps:=ps) h0 fun _ _ _=>hk _ _ _
      ·exact h0
     ·exact h0
    ·exact h0
   ·exact h0
theorem g2e(h0:Φ none none){dst:Option Nat}{rs:List RS}{y:b3o rs}{us:List Up}{k:List Up→Option R}{k':List Up→Option R'}(hk:∀us,Φ (k us) (k' us)):Φ (rsK dst rs y us k) (rsK dst rs y us k'):=by
 unfold rsK
 split
 ·exact a4h hk
 ·exact a4h hk
 ·exact a4h hk
 ·split
  ·exact a4h hk
  ·exact h0
theorem d6m(h0:Φ none none){C:Ctx}{f:Nat}{args:List Operand}{dst:Option Nat}{r:Nat→Ent}{k:List Up→Option R}{k':List Up→Option R'}(hk:∀us,Φ (k us) (k' us)):Φ (d6p C f args dst r k) (d6p C f args dst r k'):=by
 unfold d6p
 split
 ·exact b5a h0 fun _ _ _=>d5f h0 fun _=>g2e h0 hk
 ·exact h0
theorem f8e(h0:Φ none none){t:Ty}{x:t.den}{k:Int→Option R}{k':Int→Option R'}(hk:∀n,Φ (k n) (k' n)):Φ (lenK t x k) (lenK t x k'):=by
 unfold lenK
 split <;> first|exact h0|exact hk _|(split <;> first|exact h0|exact hk _)
theorem e6o(h0:Φ none none){sok:Bool}{t t':Ty}{x:t'.den}{k:List t.den→Option R}{k':List t.den→Option R'}(hk:∀l,Φ (k l) (k' l)):Φ (appK.src2 sok t t' x k) (appK.src2 sok t t' x k'):=by
 unfold appK.src2
 split
 ·exact a7h h0 hk
 ·split
  ·exact a7h h0 hk
  ·exact h0
 ·split
  ·exact a7h h0 hk
  ·exact h0
 ·exact h0
theorem d3s(h0:Φ none none){sok:Bool}{t:Ty}{b:Operand}{r:Nat→Ent}{k:List t.den→Option R}{k':List t.den→Option R'}(hk:∀l,Φ (k l) (k' l)):Φ (appK.srcK sok t b r k) (appK.srcK sok t b r k'):=by
 unfold appK.srcK
 split
 ·exact hk _
 ·split
  ·exact hk _
  ·refine b1m h0 fun _ _=>a9w h0 fun _ _=>?_
   split
   ·split
    ·exact a7h h0 hk
    ·exact h0
   ·exact h0
  ·exact a2m h0 fun _ _ _=>e6o h0 hk
 ·exact a2m h0 fun _ _ _=>e6o h0 hk
theorem e6m(h0:Φ none none){C:Ctx}{args:List Operand}{T:Nat}{dst:Option Nat}{r:Nat→Ent}{k:List Up→Option R}{k':List Up→Option R'}(hk:∀us,Φ (k us) (k' us)):Φ (appK C args T dst r k) (appK C args T dst r k'):=by
 unfold appK
 split
 ·rename_i a b m e0 te0 hT
  have hput:∀(e:Nat) (t:Ty) (l:List t.den) (us:List Up),Φ
    (match decide (t.imm=te0.imm)&&Nat.beq e e0&&(zeroCells te0).isSome with
     |true=>appK.srcK true t b (upd r []) fun m=>if(l.length+m.length)*e≤room then fin dst (.val (.sl .own e t) (l++m)) us k else none
     |false=>none)
    (match decide (t.imm=te0.imm)&&Nat.beq e e0&&(zeroCells te0).isSome with
     |true=>appK.srcK true t b (upd r []) fun m=>if(l.length+m.length)*e≤room then fin dst (.val (.sl .own e t) (l++m)) us k' else none
     |false=>none):=by
   intro e t l us
   split
   ·refine d3s h0 fun _=>?_
    split
    ·exact a4h hk
    ·exact h0
   ·exact h0
  dsimp only
  split
  ·split
   ·exact hput _ _ _ _
   ·split
    ·refine b1m h0 fun _ _=>a9w h0 fun _ _=>?_
     split
     ·exact b8m h0 fun _=>hput _ _ _ _
     ·exact h0
    ·exact h0
   ·refine a2m h0 fun _ _ _=>?_
    split
    ·exact b8m h0 fun _=>hput _ _ _ _
    ·exact h0
  ·exact hput _ _ _ _
  ·exact h0
 ·exact h0
theorem e5q(h0:Φ none none){mx:Bool}{args:List Operand}{dst:Option Nat}{r:Nat→Ent}{k:List Up→Option R}{k':List Up→Option R'}(hk:∀us,Φ (k us) (k' us)):Φ (minK mx args dst r k) (minK mx args dst r k'):=by
 unfold minK
 split
 ·refine a2m h0 fun _ _ _=>a2m h0 fun _ _ _=>?_
  split
  ·split
   ·split <;> exact a4h hk
   ·exact h0
  ·exact h0
 ·exact h0
theorem d1g(h0:Φ none none){o:Org}{k:Pl→Option R}{k':Pl→Option R'}(hk:∀p,Φ (k p) (k' p)):Φ (c6t o k) (c6t o k'):=by
 unfold c6t
 split
 ·exact hk _
 ·split
  ·exact h0
  ·exact hk _
 ·exact h0
theorem e1k(h0:Φ none none){r:Nat→Ent}{o:Option Operand}{k:Option Int→Option R}{k':Option Int→Option R'}(hk:∀x,Φ (k x) (k' x)):Φ (cutK.bound r o k) (cutK.bound r o k'):=by
 unfold cutK.bound
 split
 ·exact hk _
 ·refine a2m h0 fun _ _ _=>?_
  split
  ·exact hk _
  ·exact h0
theorem c8i(h0:Φ none none){l h:Option Int}{n:Nat}{k:Int→Int→Option R}{k':Int→Int→Option R'}(hk:∀x y,Φ (k x y) (k' x y)):Φ (cutK.range l h n k) (cutK.range l h n k'):=by
 unfold cutK.range
 split <;> first|exact hk _ _|(split <;> first|exact h0|exact hk _ _)
theorem f7q(h0:Φ none none){C:Ctx}{T:Nat}{x:Operand}{lo hi:Option Operand}{dst:Option Nat}{r:Nat→Ent}{k:List Up→Option R}{k':List Up→Option R'}(hk:∀us,Φ (k us) (k' us)):Φ (cutK C T x lo hi dst r k) (cutK C T x lo hi dst r k'):=by
 unfold cutK
 refine e1k h0 fun _=>e1k h0 fun _=>a2m h0 fun _ _ _=>?_
 split
 ·exact h0
 ·split
  ·exact c8i h0 fun _ _=>a4h hk
  ·exact c8i h0 fun _ _=>a4h hk
  ·exact d1g h0 fun _=>c8i h0 fun _ _=>a4h hk
  ·exact h0
theorem c1n(h0:Φ none none){i:Int}{n:Nat}{x:Option R}{x':Option R'}(hx:Φ x x'):Φ (atI i n x) (atI i n x'):=by
 unfold atI;split
 ·exact hx
 ·exact h0
theorem c9c(h0:Φ none none){p:Pl}{t:Ty}{x:t.den}{k:Ty→Option R}{k':Ty→Option R'}(hk:∀t,Φ (k t) (k' t)):Φ (c1d p t x k) (c1d p t x k'):=by
 unfold c1d
 refine a9x h0 fun _ _=>?_
 split
 ·exact hk _
 ·split
  ·exact a9x h0 fun _ _=>hk _
  ·split
   ·exact hk _
   ·exact h0
  ·exact h0
theorem d1f(h0:Φ none none){r:Nat→Ent}{a:Operand}{k:Pl→Ty→Option R}{k':Pl→Ty→Option R'}(hk:∀p t,Φ (k p t) (k' p t)):Φ (storeAt r a k) (storeAt r a k'):=by
 unfold storeAt
 split
 ·split
  ·exact hk _ _
  ·split
   ·split
    ·exact c9c h0 fun _=>hk _ _
    ·exact c9c h0 fun _=>hk _ _
    ·exact h0
   ·exact h0
  ·exact h0
 ·exact h0
theorem d9d(h0:Φ none none){C:Ctx}{dst:Option Nat}{r:Nat→Ent}{x:Operand}{asg:Bool}{k:List Up→Option R}{k':List Up→Option R'}(hk:∀us,Φ (k us) (k' us)):Φ (sem.moveK C dst r k x asg) (sem.moveK C dst r k' x asg):=by
 unfold sem.moveK
 split
 ·exact a4h hk
 ·exact a4h hk
 ·exact f2w h0 fun _ _=>a4h hk
 ·exact a4h hk
 ·split
  ·exact a4h hk
  ·exact h0
 ·split
  ·exact h0
  ·split
   ·exact a4h hk
   ·split
    ·split
     ·exact h0
     ·exact hk _
    ·exact a4h hk
  ·split
   ·split
    ·exact h0
    ·exact hk _
   ·exact a4h hk
  ·split
   ·split
    ·exact h0
    ·exact hk _
   ·exact h0
  ·split
   ·split
    ·exact hk _
    ·exact a4h hk
   ·exact a4h hk
  ·exact a4h hk
theorem f3q(h0:Φ none none){dst:Option Nat}{r:Nat→Ent}{o:Operand}{k:List Up→Option R}{k':List Up→Option R'}(hk:∀us,Φ (k us) (k' us)):Φ (sem.pickK dst r k o) (sem.pickK dst r k' o):=by
 unfold sem.pickK
 refine a2m h0 fun _ _ _=>?_
 split
 ·exact a4h hk
 ·exact h0
theorem c3k(h0:Φ none none){r:Nat→Ent}{o:Operand}{k:Int→Option R}{k':Int→Option R'}(hk:∀n,Φ (k n) (k' n)):Φ (sem.idxK r o k) (sem.idxK r o k'):=by
 unfold sem.idxK
 refine a2m h0 fun _ _ _=>?_
 split
 ·exact hk _
 ·exact h0
theorem e5a(h0:Φ none none){C:Ctx}{r:Nat→Ent}{t:Nat}{a:Operand}{t':Ty}{y:t'.den}{us:List Up}{k:List Up→Option R}{k':List Up→Option R'}(hk:∀us,Φ (k us) (k' us)):Φ (sem.put2 C r k t a t' y us) (sem.put2 C r k' t a t' y us):=by
 unfold sem.put2
 refine d1f h0 fun _ _=>?_
 split
 ·exact c7t h0 fun _=>hk _
 ·exact h0
end Go.Rb

namespace Go.Rb
variable {R R':Type} {Φ:Option R→Option R'→Prop}
theorem f7c(h0:Φ none none){l:List (Int×Nat)}{x:Int}{k:Nat→Option R}{k':Nat→Option R'}(hk:∀f,Φ (k f) (k' f)):Φ (cfsK l x k) (cfsK l x k'):=by
 induction l with
 |nil=>exact h0
 |cons q l ih =>
  obtain⟨q,f⟩:=q
  unfold cfsK
  split
  ·exact hk _
  ·exact ih
theorem e8n(h0:Φ none none){C:Ctx}{T:Nat}{x:Operand}{dst:Option Nat}{r:Nat→Ent}{k:List Up→Option R}{k':List Up→Option R'}(hk:∀us,Φ (k us) (k' us)):Φ (d7e C T x dst r k) (d7e C T x dst r k'):=by
 unfold d7e
 split
 ·split
  ·refine b1m h0 fun _ _=>a9w h0 fun _ _=>?_
   split
   ·split
    ·split
     ·exact c7t h0 fun _=>a4h hk
     ·exact h0
    ·exact h0
   ·exact h0
  ·exact h0
 ·exact h0
theorem f1z(h0:Φ none none){r:Nat→Ent}{x:Operand}{k:Pl→Nat→(t:Ty)→List t.den→Int→Int→Option R}{k':Pl→Nat→(t:Ty)→List t.den→Int→Int→Option R'}(hk:∀p e t l lo hi,Φ (k p e t l lo hi) (k' p e t l lo hi)):Φ (e9k r x k) (e9k r x k'):=by
 unfold e9k
 split
 ·split
  ·refine b1m h0 fun _ _=>a9w h0 fun _ _=>?_
   split
   ·exact hk _ _ _ _ _ _
   ·exact h0
  ·refine a2m h0 fun _ _ _=>?_
   split
   ·exact d1g h0 fun _=>hk _ _ _ _ _ _
   ·exact h0
 ·exact h0
theorem f2o(h0:Φ none none){C:Ctx}{T:Nat}{x y:Operand}{dst:Option Nat}{r:Nat→Ent}{k:List Up→Option R}{k':List Up→Option R'}(hk:∀us,Φ (k us) (k' us)):Φ (f4r C T x y dst r k) (f4r C T x y dst r k'):=by
 unfold f4r
 split
 ·refine f1z h0 fun _ _ _ _ _ _=>?_
  split
  ·refine d3s h0 fun _=>?_
   split
   ·exact c7t h0 fun _=>a4h hk
   ·exact h0
  ·exact h0
 ·exact h0
theorem f4u(h0:Φ none none){C:Ctx}{op:Op}{ty:Nat}{dst:Option Nat}{r:Nat→Ent}{k:List Up→Option R}{k':List Up→Option R'}(hk:∀us,Φ (k us) (k' us)):Φ (sem C op ty dst r k) (sem C op ty dst r k'):=by
 have hf:∀{s:SV} {us:List Up},Φ (fin dst s us k) (fin dst s us k'):=fun {s us}=>a4h hk
 unfold sem
 split
 ·exact d9d h0 hk
 ·exact d9d h0 hk
 ·refine a2m h0 fun _ _ _=>?_
  split
  ·split <;> exact f3q h0 hk
  ·exact h0
 ·split
  ·split
   ·exact hf
   ·exact h0
  ·exact h0
 ·split
  ·split
   ·exact b6p h0 fun _ _=>hf
   ·exact h0
  ·exact c7o h0 fun _ _ _=>hf
 ·split
  ·split
   ·exact h0
   ·exact d3b h0 fun _ _ _=>hf
  ·exact h0
 ·split
  ·split <;> first|exact h0|exact hf
  split
  ·dsimp only
   split
   ·exact d3p h0 fun _ _=>hf
   ·exact h0
  ·exact h0
 ·split
  ·refine b6a h0 (fun _ _=>h0) fun _ _ _ _ _=>?_
   split <;> first|exact h0|exact hf
  split
  ·split <;> first|exact h0|exact hf
  refine b6a h0 (fun _ _=>?_) fun _ _ _ _ _=>?_
  ·split
   ·exact hf
   ·exact h0
  ·split <;> first|exact h0|exact hf
 ·split
  ·exact h0
  ·refine d1f h0 fun _ _=>?_
   split
   ·exact c7o h0 fun _ _ _=>e5a h0 hk
   ·exact b6p h0 fun _ _=>e5a h0 hk
 ·split
  ·split
   ·exact hf
   ·exact b6a h0 (fun _ _=>h0) fun _ _ _ _ _=>hf
   ·exact hf
   ·exact h0
  ·exact h0
 ·refine b6a h0 (fun _ _=>?_) fun _ _ _ _ _=>?_
  ·split
   ·split
    ·exact b9i h0 fun _ _=>hf
    ·exact h0
   ·exact h0
  ·split
   ·split
    ·exact b9i h0 fun _ _=>hf
    ·exact h0
   ·exact h0
 ·refine a2m h0 fun _ _ _=>?_
  split
  ·split
   ·refine b9i h0 fun _ _=>?_
    split <;> first|exact h0|exact hf
   ·exact h0
  ·exact h0
 ·split
  ·split
   ·exact c3k h0 fun _=>c1n h0 hf
   ·exact h0
  refine c3k h0 fun _=>?_
  split
  ·refine b6a h0 (fun _ _=>?_) fun _ _ _ _ _=>?_
   ·split
    ·split
     ·exact c1n h0 hf
     ·exact h0
    ·exact h0
   ·split
    ·split
     ·exact c1n h0 hf
     ·exact h0
    ·exact h0
  ·refine a2m h0 fun _ _ _=>?_
   split
   ·split <;> first|exact h0|exact c1n h0 hf|exact d1g h0 fun _=>c1n h0 hf
   ·exact h0
 ·refine c3k h0 fun _=>a2m h0 fun _ _ _=>?_
  split
  ·split
   ·exact c1n h0 hf
   ·split
    ·exact c1n h0 hf
    ·exact h0
   ·exact h0
  ·exact h0
 ·split
  ·split
   ·refine a2m h0 fun _ _ _=>?_
    unfold f0y
    split <;> first|exact h0|exact hf
   ·exact h0
  ·exact a2m h0 fun _ _ _=>a2m h0 fun _ _ _=>f5p h0 fun _ _=>hf
 ·exact a2m h0 fun _ _ _=>g3f h0 fun _ _=>hf
 ·split
  ·refine a2m h0 fun _ _ _=>?_
   split <;> first|exact h0|exact hf
  ·refine a2m h0 fun _ _ _=>?_
   split <;> first|exact h0|exact hf
  ·exact d3s h0 fun _=>hf
  ·split
   ·refine c7o h0 fun _ _ _=>?_
    split
    ·split <;> first|exact h0|exact hf
    ·exact h0
   ·exact h0
  ·exact h0
 ·refine a2m h0 fun _ _ _=>?_
  split
  ·split
   ·exact hf
   ·exact h0
  ·exact h0
 ·split
  ·exact f2h h0 fun _ _ _=>hf
  ·exact h0
 ·split
  ·dsimp only
   split
   ·exact h0
   ·refine c3k h0 fun _=>c3k h0 fun _=>?_
    split
    ·exact hf
    ·exact h0
  ·exact h0
 ·exact f7q h0 hk
 ·split
  ·split
   ·split
    ·exact h0
    ·split
     ·exact hf
     ·exact hf
    ·exact h0
   ·exact h0
  ·exact h0
 ·refine a2m h0 fun _ _ _=>?_
  split
  ·split
   ·refine a2m h0 fun _ _ _=>?_
    split
    ·split <;> exact hf
    ·exact h0
   ·exact h0
  ·exact h0
 ·split
  ·exact d6m h0 hk
  ·refine a2m h0 fun _ _ _=>?_
   split
   ·exact f7c h0 fun _=>d6m h0 hk
   ·split
    ·exact b6p h0 fun _ _=>d5f h0 fun _=>hf
    ·exact h0
   ·split
    ·exact b6p h0 fun _ _=>b6p h0 fun _ _=>d5f h0 fun _=>hf
    ·exact h0
   ·exact h0
  ·split
   ·split
    ·split <;> first|exact h0|exact hf
    split
    ·split <;> first|exact h0|exact hf
    ·refine a2m h0 fun _ _ _=>?_
     split
     ·exact f8e h0 fun _=>hf
     ·exact h0
   ·exact h0
  ·split
   ·split
    ·exact e6m h0 hk
    ·exact e6m h0 hk
    ·exact h0
   ·exact h0
  ·split
   ·exact e8n h0 hk
   ·exact h0
  ·split
   ·exact f2o h0 hk
   ·exact h0
  ·exact e5q h0 hk
  ·exact e5q h0 hk
  ·exact h0
 ·exact h0
theorem d3i{isG:Bool}{dst:Option Nat}{r:Nat→Ent}{us:List Up}{k:List Up→Option R}{k':List Up→Option R'}(hk:∀us,Φ (k us) (k' us)):Φ (e0k isG dst r us k) (e0k isG dst r us k'):=by
 unfold e0k
 split
 ·split
  ·split <;> exact hk _
  ·exact hk _
 ·exact hk _
theorem d8v(h0:Φ none none){C:Ctx}{gd:Nat→Option Nat}{isG:Bool}{o:Oper}{e:En}{k:List Nat×List Nat→List Up→Option R}{k':List Nat×List Nat→List Up→Option R'}(hk:∀ins us,Φ (k ins us) (k' ins us)) :
  Φ (a4y C gd isG o e k) (a4y C gd isG o e k'):=by
 have hgo:∀g,Φ (a4y.go C isG o e k g) (a4y.go C isG o e k' g):=fun g=>f4u h0 fun _=>d3i fun _=>hk _ _
 unfold a4y
 split
 ·exact h0
 ·split
  ·exact hgo _
  ·split
   ·split
    ·exact hk _ _
    ·split
     ·exact hgo _
     ·exact hk _ _
    ·exact h0
   ·exact h0
theorem e0p{C:Ctx}{gd:Nat→Option Nat}{isG:Bool}{o:Oper}{e:En}{k:List Nat×List Nat→List Up→Option R}{res:R}(hk:a4y C gd isG o e k=some res) :
  ∃ins us,k ins us=some res∧a4y (R:=(List Nat×List Nat)×List Up) C gd isG o e (fun ins us=>some (ins,us))=some (ins,us):=by
 have h1:=d8v (Φ:=fun(x:Option R) (y:Option ((List Nat×List Nat)×List Up))=>x=y.bind fun z=>k z.1 z.2) rfl (C:=C) (gd:=gd) (isG:=isG) (o:=o) (e:=e) (k:=k) (k':=fun ins us=>some (ins,us)) fun ins us=>rfl
 rw[hk] at h1
 obtain⟨⟨ins,us⟩,h2,h3⟩:=Option.bind_eq_some_iff.1 h1.symm
 exact⟨ins,us,h3,h2⟩
end Go.Rb

namespace Go.Rb
variable {A:Amb} {P:Program} {Z Z':Nat→Prop} {h h':Array Obj} {R:Type} {C:Ctx} {B:Base} {e e':En} {a:Act} {w w':World} {F F0:Nat→List Nat} {X X0:List Nat} {r:Nat→Ent} {o:Oper}
abbrev DOut:=(List Nat×List Nat)×List Up
def e9f(C:Ctx)(gd:Nat→Option Nat)(isG:Bool)(o:Oper)(e:En):Option DOut:=a4y C gd isG o e fun ins us=>some (ins,us)
theorem Rel.congr(hrel:Rel A P C B e a w Z F X)(he:∀i,e'.get i=e.get i):Rel A P C B e' a w Z F X:=by
 have hr:∀{s:SV} {v:Value},Ref e a.tm w.heap s v→Ref e' a.tm w.heap s v:=fun {s v} h=>a8v (F:=F) hrel.own h (fun _ _ _ _ _ _=>rfl) fun p=>.inl ⟨he p,rfl,fun _ _=>rfl⟩
 exact { hrel with own:=fun i=>by rw[he];exact hrel.own i,ref:=fun i=>by rw[he];exact hr (hrel.ref i) }
theorem f1i:∀{us:List Up} {r:Nat→Ent} {e:En} {d:Nat},r d=e.get d→upd r us d=(e.app us).get d
 |[],_,_,_,h=>h
 |u::us,r,e,d,hd=>by
  rw[c7u]
  refine f1i (us:=us) ?_
  rw[d1c,b2a]
  cases hb:Nat.beq u.d d with
  |true =>
   have hb':=a1s hb
   rw[if_pos hb']
   simp only[hb]
   rw[hb',hd]
  |false=>rw[if_neg (b1d hb)];simp only[hb];exact hd
theorem Snd.mono{us us':List Up}(hs:Snd A P C B e a w us o)(hm:∀a' w' Z' F',Rel A P C B (e.app us) a' w' Z' F' []→∃F'',Rel A P C B (e.app us') a' w' Z' F'' []):Snd A P C B e a w us' o:=by
 intro next Q hn
 refine hs next Q fun a' w' Z' F' hr=>?_
 obtain⟨F'',h1⟩:=hm _ _ _ _ hr
 exact hn _ _ _ _ h1
theorem e4b(htab:a3h P C)(hft:FtOK A P C)(hfix:c5o C B)(hrel:Rel A P C B e a w Z F []){ops:Array Oper}{isG:Bool}{ins:List Nat×List Nat}{us:List Up}
  (hk:e9f C (a6t ops.toList) isG o e=some (ins,us)):d2e A P C B ops o a w (e.app us):=by
 unfold e9f a4y at hk
 split at hk
 ·simp at hk
 ·rename_i hok
  have hd:∀d,o.dst=some d→a4b C B d:=fun d hdd=>b9j hfix hok hdd
  have hgo:∀g,a4y.go C isG o e (fun ins us=>some (ins,us)) g=some (ins,us)→Snd A P C B e a w us o:=by
   intro g hk
   unfold a4y.go at hk
   obtain⟨us0,hk,hs⟩:=d4m htab hft hfix hrel hok hk
   unfold e0k at hk
   cases isG with
   |false =>
    simp only[Option.some.injEq,Prod.mk.injEq] at hk
    rw[←hk.2];exact hs
   |true =>
   cases hdst:o.dst with
   |none =>
    rw[hdst] at hk
    simp only[Option.some.injEq,Prod.mk.injEq] at hk
    rw[←hk.2];exact hs
   |some d =>
    have hdd:upd (e.look (a1r C e o.op o.dst)) us0 d=(e.app us0).get d:=f1i (b4w (e1q hdst))
    rw[hdst] at hk hdd
    dsimp only at hk
    rw[hdd] at hk
    split at hk
    ·rename_i b hb
     have key:∀b',b=b'→us=us0++[⟨d,.slot,.kb b'⟩]→Snd A P C B e a w us o:=by
      rintro b' rfl rfl
      refine hs.mono fun a' w' Z' F' hr=>?_
      have ho:=hr.own d
      rw[hb] at ho
      obtain⟨cs,g1,g2⟩:=ho
      obtain⟨_,rfl⟩:=g2
      obtain⟨F'',g3⟩:=c3r hr (x:=.tmp d) (b:=b) (a1d rfl g1)
      refine⟨F'',?_⟩
      have hkn:(e.app us0).know (.tmp d) b=(e.app us0).app [⟨d,.slot,.kb b⟩]:=by unfold En.know;simp only[hb]
      rw[hkn,←a1x] at g3
      exact g3
     split at hk
     ·rename_i hbt
      simp only[Option.some.injEq,Prod.mk.injEq] at hk
      exact key true hbt hk.2.symm
     ·rename_i hbt
      simp only[Option.some.injEq,Prod.mk.injEq] at hk
      exact key false (by simpa using hbt) hk.2.symm
    ·simp only[Option.some.injEq,Prod.mk.injEq] at hk
     rw[←hk.2];exact hs
  split at hk
  ·rename_i hg
   exact c2u (by unfold Region.wanted;rw[hg]) (hgo _ hk)
  ·rename_i j want hg
   have hwant:∀y,yielded ops a.tmps j=y→Region.wanted o (yielded ops a.tmps)=(y==some want):=by
    intro y hy
    unfold Region.wanted
    rw[hg,←hy]
   split at hk
   ·rename_i g hgs
    split at hk
    ·rename_i hu
     have ho:=hrel.own g
     rw[hu] at ho
     simp only[Option.some.injEq,Prod.mk.injEq] at hk
     rw[←hk.2]
     exact b6d hrel hd (by rw[hwant none (c9w hgs ho.2)];cases want <;> rfl)
    ·rename_i b hu
     have ho:=hrel.own g
     rw[hu] at ho
     have hy:=hwant (some b) (c6e hgs ho.2)
     split at hk
     ·rename_i hb
      exact c2u (by rw[hy];simpa using hb) (hgo _ hk)
     ·rename_i hb
      simp only[Option.some.injEq,Prod.mk.injEq] at hk
      rw[←hk.2]
      exact b6d hrel hd (by rw[hy];simpa using hb)
    ·simp at hk
   ·simp at hk
def En.wk(e:En)(q:Nat):Ent:=if q % 2=0 then(e.get (q / 2)).mask else(e.get (q / 2)).maskC
theorem d3u{i:Nat}:e.wk (2*i)=(e.get i).mask:=by
 unfold En.wk
 rw[if_pos (by omega),show 2*i / 2=i by omega]
theorem e5x{i:Nat}:e.wk (2*i+1)=(e.get i).maskC:=by
 unfold En.wk
 rw[if_neg (by omega),show(2*i+1) / 2=i by omega]
def Same(e e':En)(ins:List Nat×List Nat):Prop:=(∀i,i∈ins.1→e'.get i=e.get i)∧∀q,q∈ins.2→e'.wk q=e.wk q
theorem Same.mask{ins:List Nat×List Nat}(h:Same e e' ins){i:Nat}(hi:2*i∈ins.2):(e'.get i).mask=(e.get i).mask:=by
 have:=h.2 _ hi
 rwa [d3u,d3u] at this
theorem f2g{l:List Nat×List Nat}(hs:Same e e' l):e'.look l=e.look l:=by
 funext i
 by_cases h1:i∈l.1
 ·rw[b4w h1,b4w h1,hs.1 i h1]
 ·by_cases h2:2*i∈l.2
  ·rw[c8d h1 h2,c8d h1 h2,hs.mask h2]
  ·by_cases h3:2*i+1∈l.2
   ·have:=hs.2 _ h3
    rw[e5x,e5x] at this
    rw[c5k h1 h2 h3,c5k h1 h2 h3,this]
   ·rw[d4e h1 h2 h3,d4e h1 h2 h3]
theorem c1p{x y:Ent}{t:Ty}{z:t.den}(hx:x.s=.box t z)(hm:y.mask=x.mask):∃t' z',y.s=.box t' z':=by
 rw[b3v hx] at hm
 cases hs:y.s with
 |box t' z'=>exact⟨t',z',rfl⟩
 |val t' z' =>
  cases hp:t'.pure with
  |true=>rw[c9q hs hp] at hm;rw[hm] at hs;simp at hs
  |false=>rw[b9z hs hp] at hm;simp at hm
 |_=>rw[show y.mask=⟨0,0,.none⟩ from by unfold Ent.mask;rw[hs]] at hm;simp at hm
theorem e3z{x y:Ent}{t:Ty}{z:t.den}(hx:x.s=.val t z)(hp:t.pure=false)(hm:y.mask=x.mask):∃t' z',y.s=.val t' z'∧t'.pure=false:=by
 rw[b9z hx hp] at hm
 cases hs:y.s with
 |box t' z'=>rw[b3v hs] at hm;simp at hm
 |val t' z' =>
  refine⟨t',z',rfl,?_⟩
  cases hp':t'.pure with
  |true =>
   rw[c9q hs hp'] at hm
   rw[hm] at hs
   simp only[SV.val.injEq] at hs
   obtain⟨rfl,_⟩:=hs
   simp[Ty.pure] at hp'
  |false=>rfl
 |_=>rw[show y.mask=⟨0,0,.none⟩ from by unfold Ent.mask;rw[hs]] at hm;simp at hm
theorem c0z{α β:Type}{f g:α→Option β}:∀{l:List α},(∀i,i∈l→f i=g i)→l.filterMap f=l.filterMap g
 |[],_=>rfl
 |x::l,h=>by rw[List.filterMap_cons,List.filterMap_cons,h x (by simp),c0z fun i hi=>h i (by simp[hi])]
def tmOf(op:Op):List Nat:=(match op with|.call c=>c.operands|op=>op.operands).toList.filterMap fun|Operand.tmp i=>some i|_=>none
def f3p(s:SV):Option Nat :=
 match s with
 |.ptr p _ _|.ali p _ _|.sub p _ _ _ _=>some p.root
 |_=>none
theorem c8r{op:Op}{dst:Option Nat}(h1:∀i,op≠.move (.tmp i))(h2:∀i,op≠.nilCheck (.tmp i))(h3:∀t i f,op≠.fieldAddr t (.tmp i) f)(h4:∀t i,op≠.load t (.tmp i)) :
  a1r C e op dst=(dst.toList++(tmOf op++(tmOf op).filterMap fun i=>f3p (e.get i).s),[]):=by
 unfold a1r
 split
 ·exact absurd rfl (h4 _ _)
 ·exact absurd rfl (h1 _)
 ·exact absurd rfl (h2 _)
 ·exact absurd rfl (h3 _ _ _)
 ·rfl
theorem e8j{op:Op}{dst:Option Nat}(hs:Same e e' (a1r C e op dst)):a1r C e' op dst=a1r C e op dst:=by
 have hdef:(∀i,op≠.move (.tmp i))→(∀i,op≠.nilCheck (.tmp i))→(∀t i f,op≠.fieldAddr t (.tmp i) f)→(∀t i,op≠.load t (.tmp i))→a1r C e' op dst=a1r C e op dst:=by
  intro h1 h2 h3 h4
  rw[c8r h1 h2 h3 h4] at hs
  rw[c8r h1 h2 h3 h4,c8r h1 h2 h3 h4]
  rw[c0z (f:=fun i=>f3p (e'.get i).s) (g:=fun i=>f3p (e.get i).s) fun i hi=>by
   rw[hs.1 i (List.mem_append_right _ (List.mem_append_left _ hi))]]
 by_cases h1:∃i,op=.move (.tmp i)
 ·obtain⟨i,rfl⟩:=h1
  cases hi:(e.get i).s with
  |box t y =>
   have hl:a1r C e (.move (.tmp i)) dst=(dst.toList,[2*i]):=by simp[a1r,hi]
   rw[hl] at hs ⊢
   obtain⟨t',z',h2⟩:=c1p hi (hs.mask (by simp))
   simp[a1r,h2]
  |val t y =>
   cases hp:t.pure with
   |true =>
    have hl:a1r C e (.move (.tmp i)) dst=(i::dst.toList,[]):=by simp[a1r,hi,hp]
    rw[hl] at hs ⊢
    simp[a1r,hs.1 i (by simp),hi,hp]
   |false =>
    have hl:a1r C e (.move (.tmp i)) dst=(dst.toList,[2*i]):=by simp[a1r,hi,hp]
    rw[hl] at hs ⊢
    obtain⟨t',z',h2,h3⟩:=e3z hi hp (hs.mask (by simp))
    simp[a1r,h2,h3]
  |_ =>
   have hl:a1r C e (.move (.tmp i)) dst=(i::dst.toList,[]):=by simp[a1r,hi]
   rw[hl] at hs ⊢
   simp[a1r,hs.1 i (by simp),hi]
 by_cases h2:∃i,op=.nilCheck (.tmp i)
 ·obtain⟨i,rfl⟩:=h2
  cases hi:(e.get i).s with
  |box t y =>
   have hl:a1r C e (.nilCheck (.tmp i)) dst=(dst.toList,[2*i]):=by simp[a1r,hi]
   rw[hl] at hs ⊢
   obtain⟨t',z',h2⟩:=c1p hi (hs.mask (by simp))
   simp[a1r,h2]
  |_ =>
   have hm:i∈(a1r C e (.nilCheck (.tmp i)) dst).1:=by
    simp only[a1r,hi]
    try split
    all_goals simp
   have he:=hs.1 i hm
   simp only[a1r,he]
 by_cases h3:∃t i f,op=.fieldAddr t (.tmp i) f
 ·obtain⟨s,i,f,rfl⟩:=h3
  cases hi:(e.get i).s with
  |box t y =>
   have hl:a1r C e (.fieldAddr s (.tmp i) f) dst=(dst.toList,[2*i]):=by simp[a1r,hi]
   rw[hl] at hs ⊢
   obtain⟨t',z',h2⟩:=c1p hi (hs.mask (by simp))
   simp[a1r,h2]
  |_ =>
   have hm:i∈(a1r C e (.fieldAddr s (.tmp i) f) dst).1:=by
    simp only[a1r,hi]
    try split
    all_goals simp
   have he:=hs.1 i hm
   simp only[a1r,he]
 by_cases h4:∃t i,op=.load t (.tmp i)
 ·obtain⟨t,i,rfl⟩:=h4
  have hm:i∈(a1r C e (.load t (.tmp i)) dst).1:=by
   simp only[a1r]
   repeat' split
   all_goals simp
  have he:=hs.1 i hm
  simp only[a1r,he]
 ·exact hdef (fun i h=>h1 ⟨i,h⟩) (fun i h=>h2 ⟨i,h⟩) (fun t i f h=>h3 ⟨t,i,f,h⟩) fun t i h=>h4 ⟨t,i,h⟩
theorem e9d{gd:Nat→Option Nat}{isG:Bool}{ins:List Nat×List Nat}{us:List Up}(hk:e9f C gd isG o e=some (ins,us))(hs:Same e e' ins):e9f C gd isG o e'=some (ins,us):=by
 have hgo:∀g,a4y.go C isG o e (fun ins us=>some (ins,us)) g=some (ins,us)→g ⊆ ins.1∧a4y.go C isG o e' (fun ins us=>some (ins,us)) g=some (ins,us):=by
  intro g hk
  have hins:∀y,a4y.go C isG o e (fun ins us=>some (ins,us)) g=some y→y.1=(g++(a1r C e o.op o.dst).1,(a1r C e o.op o.dst).2):=by
   unfold a4y.go
   exact f4u (Φ:=fun(x:Option DOut) (_:Option Unit)=>∀y,x=some y→y.1=(g++(a1r C e o.op o.dst).1,(a1r C e o.op o.dst).2)) (k':=fun _=>none) (by simp)
    (fun us=>d3i (Φ:=fun(x:Option DOut) (_:Option Unit)=>∀y,x=some y→y.1=(g++(a1r C e o.op o.dst).1,(a1r C e o.op o.dst).2)) (isG:=isG) (dst:=o.dst) (r:=e.look (a1r C e o.op o.dst)) (us:=us) (k':=fun _=>none) fun us' y hy=>by
     simp only[Option.some.injEq] at hy;rw[←hy])
  have h1:=hins _ hk
  dsimp only at h1
  subst h1
  have hsame:Same e e' (a1r C e o.op o.dst):=⟨fun i hi=>hs.1 i (List.mem_append_right _ hi),hs.2⟩
  refine⟨fun i hi=>List.mem_append_left _ hi,?_⟩
  unfold a4y.go at hk ⊢
  rw[e8j hsame,f2g hsame]
  exact hk
 unfold e9f a4y at hk ⊢
 split at hk
 ·simp at hk
 ·rename_i hok
  simp only[hok]
  split at hk
  ·rename_i hg
   exact(hgo _ hk).2
  ·rename_i j want hg
   split at hk
   ·rename_i g hgs
    have key:g∈ins.1→e'.get g=e.get g:=hs.1 g
    split at hk
    ·rename_i hu
     simp only[Option.some.injEq,Prod.mk.injEq] at hk
     obtain⟨rfl,rfl⟩:=hk
     rw[key (by simp),hu]
    ·rename_i b hu
     split at hk
     ·rename_i hb
      obtain⟨h1,h2⟩:=hgo _ hk
      rw[key (h1 (by simp)),hu]
      dsimp only
      rw[hb]
      exact h2
     ·rename_i hb
      simp only[Option.some.injEq,Prod.mk.injEq] at hk
      obtain⟨rfl,rfl⟩:=hk
      rw[key (by simp),hu]
      dsimp only
      rw[hb]
    ·simp at hk
   ·simp at hk
end Go.Rb

namespace Go.Rb
variable {A:Amb} {P:Program} {Z Z':Nat→Prop} {h h':Array Obj} {R:Type} {C:Ctx} {B:Base} {e e':En} {a:Act} {w w':World} {F F0:Nat→List Nat} {X X0:List Nat} {r:Nat→Ent} {o:Oper}
structure Run (C:Ctx) (gd:Nat→Option Nat) (all:List Oper) (I:Nat→List Nat×List Nat) (U:Nat→List Up) (E:Nat→En) (bef:Nat→List Nat) (j:Nat):Prop where
 ex:∃o,all[j]?=some o∧e9f C gd (f3z all j) o (E j)=some (I j,U j)∧(∀m,m∈b9d o→m<j)∧bef j=c1m bef (b9d o).reverse []
 next:E (j+1)=(E j).app (U j)
 apart:∀m,m<j→m∈bef j∨b9y (b8u (E m) (I m) (U m)) (b8u (E j) (I j) (U j))=true
theorem e7b{x:Nat}:∀{l:List Nat},hasN x l=true→x∈l
 |[],h=>by simp[hasN] at h
 |y::l,h=>by
  unfold hasN at h
  split at h
  ·rename_i hb
   rw[Nat.eq_of_beq_eq_true hb]
   exact List.mem_cons_self
  ·exact List.mem_cons_of_mem _ (e7b h)
theorem c4t{x:Nat}:∀{l acc:List Nat},x∈d7x l acc→x∈l∨x∈acc
 |[],acc,h=>.inr h
 |y::l,acc,h=>by
  unfold d7x at h
  split at h
  ·exact(c4t h).imp (List.mem_cons_of_mem _) id
  ·rcases c4t h with h|h
   ·exact .inl (List.mem_cons_of_mem _ h)
   ·rcases List.mem_cons.1 h with rfl|h
    ·exact .inl List.mem_cons_self
    ·exact .inr h
theorem c8q{x:Nat}{b:Nat→List Nat}:∀{es acc:List Nat},x∈c1m b es acc→(∃m,m∈es∧(x=m∨x∈b m))∨x∈acc
 |[],acc,h=>.inr h
 |m::es,acc,h=>by
  unfold c1m at h
  split at h
  ·rcases c8q h with⟨q,h1,h2⟩|h
   ·exact .inl ⟨q,List.mem_cons_of_mem _ h1,h2⟩
   ·exact .inr h
  ·rcases c8q h with⟨q,h1,h2⟩|h
   ·exact .inl ⟨q,List.mem_cons_of_mem _ h1,h2⟩
   ·rcases c4t h with h|h
    ·exact .inl ⟨m,List.mem_cons_self,List.mem_cons.1 h⟩
    ·exact .inr h
theorem b8j{b b':Nat→List Nat}:∀{es acc:List Nat},(∀i,i∈es→b i=b' i)→c1m b es acc=c1m b' es acc
 |[],_,_=>rfl
 |m::es,acc,h=>by
  unfold c1m
  rw[h m List.mem_cons_self]
  split
  ·exact b8j fun i hi=>h i (List.mem_cons_of_mem _ hi)
  ·exact b8j fun i hi=>h i (List.mem_cons_of_mem _ hi)
theorem e9o{α:Type}{l:List α}{f:α×Nat→Bool}(h:l.zipIdx.all f=true):∀(i:Nat) (x:α),l[i]?=some x→f (x,i)=true:=by
 intro i x hx
 rw[List.all_eq_true] at h
 exact h (x,i) (by rw[List.mem_zipIdx_iff_getElem?];exact hx)
theorem c6a{gd:Nat→Option Nat}{all:List Oper}{k:En→Option R}{res:R}:∀(os:List Oper) (i:Nat) (e:En) (done:List Foot) (befs:List (List Nat)) (I:Nat→List Nat×List Nat) (U:Nat→List Up) (E:Nat→En) (bef:Nat→List Nat),
  all.drop i=os→i≤all.length→done.length=i→E i=e→(∀j,j<i→Run C gd all I U E bef j)→(∀j,j<i→done[i - 1 - j]?=some (b8u (E j) (I j) (U j)))→(∀j,j<i→befs.getD (i - 1 - j) []=bef j) →
  d1d C gd all os e done befs k=some res →
  ∃(I':Nat→List Nat×List Nat) (U':Nat→List Up) (E':Nat→En) (bef':Nat→List Nat),(∀j,j<all.length→Run C gd all I' U' E' bef' j)∧(∀j,j≤i→E' j=E j)∧k (E' all.length)=some res
 |[],i,e,done,befs,I,U,E,bef,hos,hile,hlen,hE,hrun,hdone,hbefs,hk=>by
  have hi:i=all.length:=by
   have:=congrArg List.length hos
   simp at this
   omega
  subst hi
  exact⟨I,U,E,bef,hrun,fun _ _=>rfl,by rw[hE];exact hk⟩
 |o::os,i,e,done,befs,I,U,E,bef,hos,hile,hlen,hE,hrun,hdone,hbefs,hk=>by
  have hget:all[i]?=some o:=by
   have h0:(all.drop i)[0]?=some o:=by rw[hos];rfl
   rw[List.getElem?_drop] at h0
   simpa using h0
  have hil:i<all.length:=by
   rcases Nat.lt_or_ge i all.length with h|h
   ·exact h
   ·rw[List.getElem?_eq_none h] at hget;simp at hget
  have hdr:all.drop (i+1)=os:=by rw[←List.drop_drop,hos];rfl
  unfold d1d at hk
  rw[hlen] at hk
  obtain⟨ins,us,hk,hd⟩:=e0p hk
  dsimp only at hk
  split at hk
  ·rename_i hc
   rw[Bool.and_eq_true] at hc
   obtain⟨hc1,hc2⟩:=hc
   have hedge:∀m,m∈b9d o→m<i:=fun m hm=>by
    have:=List.all_eq_true.1 hc1 m hm
    exact Nat.blt_eq.mp this
   have hbefeq:c1m (fun j=>befs.getD (i - 1 - j) []) (b9d o).reverse []=c1m bef (b9d o).reverse [] :=
    b8j fun m hm=>hbefs m (hedge m (List.mem_reverse.1 hm))
   rw[hbefeq] at hk hc2
   have hupI:∀{α:Type} (f:Nat→α) (x:α) (j:Nat),j<i→(if j=i then x else f j)=f j:=fun f x j hj=>by simp[Nat.ne_of_lt hj]
   have hupE:∀(j:Nat),j≤i→(if j=i+1 then e.app us else E j)=E j:=fun j hj=>by simp[show j≠i+1 by omega]
   have hn1:∀j,j<i+1→Run C gd all (fun m=>if m=i then ins else I m) (fun m=>if m=i then us else U m) (fun m=>if m=i+1 then e.app us else E m) (fun m=>if m=i then c1m bef (b9d o).reverse [] else bef m) j:=by
    intro j hj
    rcases Nat.lt_succ_iff_lt_or_eq.1 hj with hj|rfl
    ·obtain⟨⟨o',q1,q2,q3,q4⟩,q5,q6⟩:=hrun j hj
     refine⟨⟨o',q1,?_,q3,?_⟩,?_,fun m hm=>?_⟩
     ·simp only[hupI _ _ j hj,hupE j (by omega)];exact q2
     ·simp only[hupI _ _ j hj]
      rw[q4]
      refine b8j fun m hm=>?_
      have hmj:=q3 m (List.mem_reverse.1 hm)
      rw[if_neg (by omega:¬m=i)]
     ·simp only[hupI _ _ j hj,hupE j (by omega),hupE (j+1) (by omega)];exact q5
     ·simp only[hupI _ _ j hj,hupI _ _ m (Nat.lt_trans hm hj),hupE j (by omega),hupE m (by omega)];exact q6 m hm
    ·have hEj:(if j=j+1 then e.app us else E j)=e:=(hupE j (Nat.le_refl _)).trans hE
     refine⟨⟨o,hget,?_,hedge,?_⟩,?_,fun m hm=>?_⟩
     ·simp only[if_true,hEj];exact hd
     ·simp only[if_true]
      refine b8j fun m hm=>?_
      rw[if_neg (Nat.ne_of_lt (hedge m (List.mem_reverse.1 hm)))]
     ·simp only[if_true,hEj]
     ·simp only[if_true,hupI _ _ m hm,hEj,hupE m (by omega)]
      have:=e9o hc2 (j - 1 - m) _ (hdone m hm)
      rw[Bool.or_eq_true] at this
      refine this.imp (fun h=>?_) id
      have hmm:j - 1 - (j - 1 - m)=m:=by omega
      rw[hmm] at h
      simpa using e7b h
   have hn2:∀j,j<i+1→(b8u e ins us::done)[i+1 - 1 - j]?=some (b8u ((fun m=>if m=i+1 then e.app us else E m) j) ((fun m=>if m=i then ins else I m) j) ((fun m=>if m=i then us else U m) j)):=by
    intro j hj
    rcases Nat.lt_succ_iff_lt_or_eq.1 hj with hj|rfl
    ·simp only[hupI _ _ j hj,hupE j (by omega)]
     have:i+1 - 1 - j=(i - 1 - j)+1:=by omega
     rw[this,List.getElem?_cons_succ]
     exact hdone j hj
    ·simp only[if_true,hupE j (Nat.le_refl _),hE]
     simp
   have hn3:∀j,j<i+1→(c1m bef (b9d o).reverse []::befs).getD (i+1 - 1 - j) []=(fun m=>if m=i then c1m bef (b9d o).reverse [] else bef m) j:=by
    intro j hj
    rcases Nat.lt_succ_iff_lt_or_eq.1 hj with hj|rfl
    ·simp only[hupI _ _ j hj]
     have:i+1 - 1 - j=(i - 1 - j)+1:=by omega
     rw[this,List.getD_cons_succ]
     exact hbefs j hj
    ·simp
   obtain⟨I',U',E',bef',g1,g2,g3⟩:=c6a os (i+1) (e.app us) _ _ (fun m=>if m=i then ins else I m) (fun m=>if m=i then us else U m) (fun m=>if m=i+1 then e.app us else E m) (fun m=>if m=i then c1m bef (b9d o).reverse [] else bef m) hdr hil (by simp[hlen]) (by simp) hn1 hn2 hn3 hk
   exact⟨I',U',E',bef',g1,fun j hj=>by rw[g2 j (by omega)];exact hupE j hj,g3⟩
  ·simp at hk
theorem c2h:∀{us:List Up} {e e':En} {d:Nat},e.get d=e'.get d→(e.app us).get d=(e'.app us).get d
 |[],_,_,_,h=>h
 |u::us,e,e',d,hd=>by
  rw[c7u,c7u]
  refine c2h (us:=us) ?_
  show En.get ((u.d,(e.get u.d).bump u.b u.s)::e) d=En.get ((u.d,(e'.get u.d).bump u.b u.s)::e') d
  rw[b2a,b2a]
  by_cases hb:u.d=d
  ·rw[if_pos hb,if_pos hb,hb,hd]
  ·rw[if_neg hb,if_neg hb,hd]
theorem d8t{x y:Ent}(hw:b8q x y=true):y.mask=x.mask:=by
 unfold b8q at hw
 rw[Bool.and_eq_true] at hw
 obtain⟨hv,hw⟩:=hw
 have hv:=a1s hv
 split at hw
 ·rename_i t z t' z' hx hy
  rw[b3v hx,b3v hy]
  have:t.imm=t'.imm:=by simpa using hw
  rw[this,hv]
 ·rename_i t z t' z' hx hy
  simp only[Bool.and_eq_true,Bool.not_eq_true'] at hw
  rw[b9z hx hw.1.2,b9z hy hw.2,hv,a1s hw.1.1]
 ·simp at hw
def a9z(U:Nat→List Up)(k d:Nat):Prop:=∃u,u∈U k∧u.d=d
theorem c5e{e:En}{ins:List Nat×List Nat}{us:List Up}{d:Nat}:(∃u,u∈us∧u.d=d)↔d∈(b8u e ins us).outs∨(d∈(b8u e ins us).cont∧b8q (e.get d) ((e.app us).get d)=true):=by
 unfold b8u
 dsimp only
 simp only[List.mem_filter,List.mem_map,Bool.not_eq_true']
 cases hw:b8q (e.get d) ((e.app us).get d) with
 |true=>simp
 |false=>simp
theorem d4j{x y:Ent}(hw:c0b x y=true):y.maskC=x.maskC:=by
 unfold c0b at hw
 simp only[Bool.and_eq_true] at hw
 obtain⟨⟨hw,hc⟩,hb⟩:=hw
 have hc:=a1s hc
 split at hb
 ·rename_i t z hx
  unfold b8q at hw
  rw[Bool.and_eq_true] at hw
  obtain⟨hv,hw⟩:=hw
  have hv:=a1s hv
  rw[hx] at hw
  split at hw
  ·rename_i t1 z1 t' z' hx' hy
   have:t1.imm=t'.imm:=by simpa using hw
   cases hx'
   rw[c7y hx,c7y hy,this,hv,hc]
  ·rename_i hx' _
   cases hx'
  ·simp at hw
 ·cases hb
theorem c2d{a b:List Nat}(h:g1x a b=true){d:Nat}(ha:d∈a):2*d∉b∧2*d+1∉b:=by
 have:=List.all_eq_true.1 h d ha
 simp at this
 exact this
theorem c3w{a b:List Nat}(h:g2p a b=true){d:Nat}(ha:d∈a):2*d+1∉b:=by
 have:=List.all_eq_true.1 h d ha
 simp at this
 exact this
theorem d3a{e:En}{ins:List Nat×List Nat}{us:List Up}{d:Nat}(h:∃u,u∈us∧u.d=d)(hn:d∉(b8u e ins us).contC):c0b (e.get d) ((e.app us).get d)=true:=by
 unfold b8u at hn
 dsimp only at hn
 simp only[List.mem_filter,List.mem_map,Bool.not_eq_true'] at hn
 cases hw:c0b (e.get d) ((e.app us).get d) with
 |true=>rfl
 |false=>exact absurd ⟨h,hw⟩ hn
theorem b1g{a b:List Nat}(h:d5k a b=true){d:Nat}(ha:d∈a)(hb:d∈b):False:=by
 have:=List.all_eq_true.1 h d ha
 simp[hb] at this
theorem c9h{a b:Foot}(h:b9y a b=true){d:Nat}(ha:d∈a.outs∨d∈a.cont):d∉b.ins∧d∉b.outs∧d∉b.cont∧(d∈a.outs→2*d∉b.weak)∧(d∈a.contC→2*d+1∉b.weak):=by
 unfold b9y at h
 simp only[Bool.and_eq_true] at h
 obtain⟨⟨⟨⟨⟨⟨⟨h1,h2⟩,h3⟩,h4⟩,h5⟩,h6⟩,h11⟩,⟨⟨⟨h7,h8⟩,h9⟩,h10⟩,h12⟩:=h
 rcases ha with ha|ha
 ·exact⟨fun hb=>b1g h1 ha hb,fun hb=>b1g h3 ha hb,fun hb=>b1g h4 ha hb,fun ho=>(c2d h2 ho).1,c3w h11⟩
 ·exact⟨fun hb=>b1g h5 ha hb,fun hb=>b1g h9 hb ha,fun hb=>b1g h6 ha hb,fun ho=>(c2d h2 ho).1,c3w h11⟩
theorem d7n{a b:Foot}(h:b9y a b=true){d:Nat}(hb:d∈b.outs∨d∈b.cont):d∉a.ins∧(d∈b.outs→2*d∉a.weak)∧(d∈b.contC→2*d+1∉a.weak):=by
 unfold b9y at h
 simp only[Bool.and_eq_true] at h
 obtain⟨⟨⟨⟨⟨⟨⟨h1,h2⟩,h3⟩,h4⟩,h5⟩,h6⟩,h11⟩,⟨⟨⟨h7,h8⟩,h9⟩,h10⟩,h12⟩:=h
 rcases hb with hb|hb
 ·exact⟨fun ha=>b1g h7 hb ha,fun ho=>(c2d h8 ho).1,c3w h12⟩
 ·exact⟨fun ha=>b1g h10 hb ha,fun ho=>(c2d h8 ho).1,c3w h12⟩
section
variable {gd:Nat→Option Nat} {all:List Oper} {I:Nat→List Nat×List Nat} {U:Nat→List Up} {E:Nat→En} {bef:Nat→List Nat}
theorem e6i(hrun:∀j,j<all.length→Run C gd all I U E bef j){m j d:Nat}(hm:m<j)(hj:j<all.length)(h1:a9z U m d)(h2:a9z U j d):m∈bef j:=by
 rcases(hrun j hj).apart m hm with h|h
 ·exact h
 ·exfalso
  have t1:=(c5e (e:=E m) (ins:=I m)).1 h1
  have t2:=(c5e (e:=E j) (ins:=I j)).1 h2
  obtain⟨_,q2,q3,_⟩:=c9h h (d:=d) (t1.imp id And.left)
  exact t2.elim q2 fun t=>q3 t.1
theorem e2f(hrun:∀j,j<all.length→Run C gd all I U E bef j){d:Nat}:∀(n i:Nat),i+n≤all.length→(∀k,i≤k→k<i+n→¬a9z U k d)→(E (i+n)).get d=(E i).get d
 |0,i,_,_=>rfl
 |n+1,i,hl,hn=>by
  rw[show i+(n+1)=(i+n)+1 from rfl,(hrun (i+n) (by omega)).next,a8b fun u hu hd=>hn (i+n) (by omega) (by omega) ⟨u,hu,hd⟩]
  exact e2f hrun n i (by omega) fun k h1 h2=>hn k h1 (by omega)
theorem b8c(hrun:∀j,j<all.length→Run C gd all I U E bef j)(f:Ent→Ent){d:Nat}:∀(n i:Nat),i+n≤all.length→(∀k,i≤k→k<i+n→a9z U k d→f ((E (k+1)).get d)=f ((E k).get d)) →
  f ((E (i+n)).get d)=f ((E i).get d)
 |0,i,_,_=>rfl
 |n+1,i,hl,hn=>by
  rw[show i+(n+1)=(i+n)+1 from rfl]
  refine Eq.trans ?_ (b8c hrun f n i (by omega) fun k h1 h2=>hn k h1 (by omega))
  by_cases ht:a9z U (i+n) d
  ·exact hn (i+n) (by omega) (by omega) ht
  ·rw[(hrun (i+n) (by omega)).next,a8b fun u hu hd=>ht ⟨u,hu,hd⟩]
def At2(n:Nat)(U:Nat→List Up)(E:Nat→En)(S:Nat→Prop)(e:En):Prop :=
 ∀d,∃j,j≤n∧e.get d=(E j).get d∧∀k,k<n→a9z U k d→(S k↔k<j)
theorem f2p(hrun:∀j,j<all.length→Run C gd all I U E bef j){d i j:Nat}(hi:i≤all.length)(hj:j≤all.length)(hn:∀k,k<all.length→(i≤k∧k<j)∨(j≤k∧k<i)→¬a9z U k d):(E i).get d=(E j).get d:=by
 rcases Nat.le_total i j with h|h
 ·have:=e2f hrun (d:=d) (j - i) i (by omega) fun k h1 h2=>hn k (by omega) (.inl ⟨h1,by omega⟩)
  rw[show i+(j - i)=j by omega] at this
  exact this.symm
 ·have:=e2f hrun (d:=d) (i - j) j (by omega) fun k h1 h2=>hn k (by omega) (.inr ⟨h1,by omega⟩)
  rw[show j+(i - j)=i by omega] at this
  exact this
theorem c8s(hrun:∀j,j<all.length→Run C gd all I U E bef j)(f:Ent→Ent){d i j:Nat}(hi:i≤all.length)(hj:j≤all.length)
  (hn:∀k,k<all.length→(i≤k∧k<j)∨(j≤k∧k<i)→a9z U k d→f ((E (k+1)).get d)=f ((E k).get d)):f ((E i).get d)=f ((E j).get d):=by
 rcases Nat.le_total i j with h|h
 ·have:=b8c hrun f (d:=d) (j - i) i (by omega) fun k h1 h2=>hn k (by omega) (.inl ⟨h1,by omega⟩)
  rw[show i+(j - i)=j by omega] at this
  exact this.symm
 ·have:=b8c hrun f (d:=d) (i - j) j (by omega) fun k h1 h2=>hn k (by omega) (.inr ⟨h1,by omega⟩)
  rw[show j+(i - j)=i by omega] at this
  exact this
theorem f5t(hrun:∀j,j<all.length→Run C gd all I U E bef j){S:Nat→Prop}(hat:At2 all.length U E S e)(hS:∀k,S k→∀m,m∈bef k→S m){i:Nat}(hi:i<all.length)(hni:¬S i)(hb:∀m,m∈bef i→S m):Same (E i) e (I i):=by
 have key:∀{d j k:Nat},(∀k,k<all.length→a9z U k d→(S k↔k<j))→k<all.length→(j≤k∧k<i)∨(i≤k∧k<j)→a9z U k d →
   k=i∨(d∉(I i).1∧(2*d∈(I i).2→b8q ((E k).get d) ((E (k+1)).get d)=true)∧(2*d+1∈(I i).2→c0b ((E k).get d) ((E (k+1)).get d)=true)):=by
  intro d j k hj hk hcase ht
  have t:=(c5e (e:=E k) (ins:=I k)).1 ht
  by_cases hki:k=i
  ·exact .inl hki
  ·refine .inr ?_
   rcases hcase with⟨h1,h2⟩|⟨h1,h2⟩
   ·have hkS:¬S k:=fun hs=>by have:=(hj k hk ht).1 hs;omega
    rcases(hrun i hi).apart k h2 with h|h
    ·exact absurd (hb k h) hkS
    ·obtain⟨q1,_,_,q4,q5⟩:=c9h h (d:=d) (t.imp id And.left)
     refine⟨q1,fun hw=>?_,fun hw=>?_⟩
     ·rw[(hrun k hk).next]
      exact t.elim (fun h=>absurd hw (q4 h)) And.right
     ·rw[(hrun k hk).next]
      exact d3a ht fun hc=>q5 hc hw
   ·have hkS:S k:=(hj k hk ht).2 h2
    rcases(hrun k hk).apart i (by omega) with h|h
    ·exact absurd (hS k hkS i h) hni
    ·obtain⟨q1,q4,q5⟩:=d7n h (d:=d) (t.imp id And.left)
     refine⟨q1,fun hw=>?_,fun hw=>?_⟩
     ·rw[(hrun k hk).next]
      exact t.elim (fun h=>absurd hw (q4 h)) And.right
     ·rw[(hrun k hk).next]
      exact d3a ht fun hc=>q5 hc hw
 have hself:∀{d j:Nat},(∀k,k<all.length→a9z U k d→(S k↔k<j))→a9z U i d→¬i<j:=fun hj ht hlt=>hni ((hj i hi ht).2 hlt)
 refine⟨fun d hd=>?_,fun d hd=>?_⟩
 ·obtain⟨j,hjl,he,hj⟩:=hat d
  rw[he]
  refine f2p hrun hjl (Nat.le_of_lt hi) fun k hk hc ht=>?_
  rcases key hj hk hc ht with rfl|⟨h,_⟩
  ·rcases hc with⟨h1,h2⟩|⟨h1,h2⟩
   ·omega
   ·exact hself hj ht h2
  ·exact h hd
 ·obtain⟨q,hq⟩:∃q,d=2*q∨d=2*q+1:=⟨d / 2,by omega⟩
  obtain⟨j,hjl,he,hj⟩:=hat q
  rcases hq with rfl|rfl
  ·rw[d3u,d3u,he]
   refine c8s hrun Ent.mask hjl (Nat.le_of_lt hi) fun k hk hc ht=>?_
   rcases key hj hk hc ht with rfl|⟨_,h,_⟩
   ·rcases hc with⟨h1,h2⟩|⟨h1,h2⟩
    ·omega
    ·exact absurd h2 (hself hj ht)
   ·exact d8t (h hd)
  ·rw[e5x,e5x,he]
   refine c8s hrun Ent.maskC hjl (Nat.le_of_lt hi) fun k hk hc ht=>?_
   rcases key hj hk hc ht with rfl|⟨_,_,h⟩
   ·rcases hc with⟨h1,h2⟩|⟨h1,h2⟩
    ·omega
    ·exact absurd h2 (hself hj ht)
   ·exact d4j (h hd)
theorem f6b(hrun:∀j,j<all.length→Run C gd all I U E bef j){S:Nat→Prop}(hat:At2 all.length U E S e)(hS:∀k,S k→∀m,m∈bef k→S m){i:Nat}(hi:i<all.length)(hni:¬S i)(hb:∀m,m∈bef i→S m) :
  At2 all.length U E (fun k=>S k∨k=i) (e.app (U i)):=by
 intro d
 obtain⟨j,hjl,he,hj⟩:=hat d
 by_cases ht:a9z U i d
 ·have hik:∀k,k<all.length→a9z U k d→k≠i→(S k↔k<i):=by
   intro k hk htk hne
   rcases Nat.lt_or_gt_of_ne hne with h|h
   ·exact⟨fun _=>h,fun _=>hb k (e6i hrun h hi htk ht)⟩
   ·exact⟨fun hs=>absurd (hS k hs i (e6i hrun h hk ht htk)) hni,fun h'=>by omega⟩
  refine⟨i+1,hi,?_,fun k hk htk=>?_⟩
  ·rw[(hrun i hi).next]
   refine c2h ?_
   rw[he]
   refine f2p hrun hjl (Nat.le_of_lt hi) fun k hk hc htk=>?_
   by_cases hki:k=i
   ·subst hki
    have:¬k<j:=fun h=>hni ((hj k hk htk).2 h)
    omega
   ·have h1:=hj k hk htk
    have h2:=hik k hk htk hki
    rcases hc with⟨h3,h4⟩|⟨h3,h4⟩
    ·exact absurd (h1.1 (h2.2 h4)) (by omega)
    ·exact absurd (h2.1 (h1.2 h4)) (by omega)
  ·by_cases hki:k=i
   ·subst hki;exact⟨fun _=>by omega,fun _=>.inr rfl⟩
   ·show(S k∨k=i)↔_
    rw[show(S k∨k=i)↔S k from⟨fun h=>h.resolve_right hki,.inl⟩,hik k hk htk hki]
    omega
 ·refine⟨j,hjl,?_,fun k hk htk=>?_⟩
  ·rw[a8b fun u hu hd=>ht ⟨u,hu,hd⟩];exact he
  ·have hki:k≠i:=fun h=>ht (h ▸ htk)
   show(S k∨k=i)↔_
   rw[show(S k∨k=i)↔S k from⟨fun h=>h.resolve_right hki,.inl⟩]
   exact hj k hk htk
end
end Go.Rb

namespace Go.Rb
variable {A:Amb} {P:Program} {Z Z':Nat→Prop} {h h':Array Obj} {R:Type} {C:Ctx} {B:Base} {e e':En} {a:Act} {w w':World} {F F0:Nat→List Nat} {X X0:List Nat} {r:Nat→Ent} {o:Oper}
theorem Rel.drawn(hrel:Rel A P C B e a w Z F X)(n:Nat):Rel A P C B e a { w with drawn:=n } Z F X :=
 ⟨hrel.own,hrel.ref,hrel.nodup,hrel.disj,hrel.notZ,hrel.fb,hrel.fnew,hrel.xnodup,hrel.xdisj,hrel.xnotZ,hrel.xb,hrel.xnew,hrel.zb,hrel.z,hrel.znew,hrel.hs,hrel.keep,hrel.os,hrel.out,hrel.tape,hrel.defs,hrel.nt,hrel.glob,hrel.fix⟩
def unl(n:Nat)(listed:Array Bool):List Nat:=(List.range n).filter fun i=>!listed.getD i true
theorem c1a{l:Array Bool}{i:Nat}(hi:i<l.size):l.getD i true=l.getD i false:=by
 simp[Array.getD_eq_getD_getElem?,hi]
theorem e7s{o:Oper}{m:Nat}(hm:m∈b9d o):∃e,e∈o.after.toList∧e.on=m∧Region.binds .any e=true:=by
 unfold b9d at hm
 obtain⟨e,h1,h2⟩:=List.mem_filterMap.1 hm
 refine⟨e,h1,?_⟩
 unfold Region.binds
 cases hg:e.ground <;> rw[hg] at h2 <;> simp at h2 ⊢ <;> exact h2
theorem e9v{o:Oper}{e:Edge}(he:e∈o.after.toList)(hb:Region.binds .any e=true):e.on∈b9d o:=by
 unfold b9d
 refine List.mem_filterMap.2 ⟨e,he,?_⟩
 unfold Region.binds at hb
 cases hg:e.ground <;> rw[hg] at hb <;> first|rfl|exact absurd hb (by simp only[show(Region.Mode.any==Region.Mode.text)=false from rfl,show(Region.Mode.any==Region.Mode.gc)=false from rfl];simp)
theorem c8f{ops:Array Oper}{listed:Array Bool}(hsz:listed.size=ops.size){i:Nat}:i∈Region.ready .any ops listed↔∃o,ops[i]?=some o∧listed.getD i false=false∧∀m,m∈b9d o→listed.getD m false=true:=by
 unfold Region.ready
 rw[List.mem_filter,List.mem_range]
 constructor
 ·rintro⟨hi,h⟩
  rw[Bool.and_eq_true] at h
  obtain⟨h1,h2⟩:=h
  rw[c1a (by omega)] at h1
  refine⟨ops[i],by simp[hi],by simpa using h1,fun m hm=>?_⟩
  obtain⟨e,g1,rfl,g3⟩:=e7s hm
  rw[Array.getElem?_eq_getElem hi] at h2
  simp only[Option.map_some,Option.getD_some] at h2
  have:=Array.all_eq_true'.1 h2 e (by simpa using g1)
  rw[g3] at this
  simpa using this
 ·rintro⟨o,h1,h2,h3⟩
  have hi:i<ops.size:=by
   rcases Nat.lt_or_ge i ops.size with h|h
   ·exact h
   ·rw[Array.getElem?_eq_none h] at h1;simp at h1
  refine⟨hi,?_⟩
  rw[Bool.and_eq_true,c1a (by omega),h2]
  refine⟨rfl,?_⟩
  rw[h1]
  simp only[Option.map_some,Option.getD_some]
  refine Array.all_eq_true'.2 fun e he=>?_
  cases hb:Region.binds .any e with
  |false=>rfl
  |true=>rw[h3 e.on (e9v (by simpa using he) hb)];rfl
theorem b9p{l:Array Bool}{i k:Nat}(hi:i<l.size):(l.setIfInBounds i true).getD k false=true↔(l.getD k false=true∨k=i):=by
 rw[Array.getD_eq_getD_getElem?,Array.getD_eq_getD_getElem?]
 by_cases hk:k=i
 ·subst hk;simp[hi]
 ·rw[Array.getElem?_setIfInBounds_ne (Ne.symm hk)];simp[hk]
theorem g3h{n i:Nat}{listed:Array Bool}(hsz:listed.size=n)(hi:i<n)(hl:listed.getD i false=false){f:Nat}(hu:(unl n listed).length=f+1):(unl n (listed.setIfInBounds i true)).length=f:=by
 have hmem:i∈unl n listed:=by
  unfold unl
  rw[List.mem_filter,List.mem_range]
  exact⟨hi,by rw[c1a (by omega),hl];rfl⟩
 have heq:unl n (listed.setIfInBounds i true)=(unl n listed).erase i:=by
  have hnd:(unl n listed).Nodup:=List.Nodup.sublist List.filter_sublist List.nodup_range
  rw[hnd.erase_eq_filter]
  unfold unl
  rw[List.filter_filter]
  refine List.filter_congr fun k hk=>?_
  have hkn:=List.mem_range.1 hk
  rw[c1a (by simp;omega),c1a (by omega)]
  have:=b9p (l:=listed) (k:=k) (by omega:i<listed.size)
  by_cases hki:k=i
  ·subst hki
   rw[this.2 (.inr rfl)];simp
  ·have hb:(listed.setIfInBounds i true).getD k false=listed.getD k false:=by
    cases h1:listed.getD k false with
    |true=>exact this.2 (.inl h1)
    |false =>
     cases h2:(listed.setIfInBounds i true).getD k false with
     |false=>rfl
     |true =>
          rcases this.1 h2 with h|h
          ·rw[h1] at h;exact absurd h (by simp)
          ·exact absurd h hki
   rw[hb]
   simp[hki]
 rw[heq,List.length_erase_of_mem hmem,hu]
 rfl
section
variable {ops:Array Oper} {I:Nat→List Nat×List Nat} {U:Nat→List Up} {E:Nat→En} {bef:Nat→List Nat}
theorem e6q(hrun:∀j,j<ops.toList.length→Run C (a6t ops.toList) ops.toList I U E bef j){listed:Array Bool}(hsz:listed.size=ops.size):∀n i,i<n→i<ops.size→listed.getD i false=false→∃j,j∈Region.ready .any ops listed
 |0,i,hn,_,_=>by omega
 |n+1,i,hn,hi,hl=>by
  obtain⟨⟨o,g1,g2,g3,g4⟩,_,_⟩:=hrun i (by simpa using hi)
  rw[Array.getElem?_toList] at g1
  by_cases hall:∀m,m∈b9d o→listed.getD m false=true
  ·exact⟨i,(c8f hsz).2 ⟨o,g1,hl,hall⟩⟩
  ·obtain⟨m,hm⟩:=Classical.not_forall.1 hall
   obtain⟨hm1,hm2⟩:=Classical.not_imp.1 hm
   have hmi:=g3 m hm1
   exact e6q hrun hsz n m (by omega) (by omega) (by simpa using hm2)
theorem d3e(htab:a3h P C)(hft:FtOK A P C)(hfix:c5o C B)(hrun:∀j,j<ops.toList.length→Run C (a6t ops.toList) ops.toList I U E bef j){Q:Exit→Act→World→Prop}
  (hq:∀a w Z F,Rel A P C B (E ops.toList.length) a w Z F []→Q .normal a w):∀(fuel:Nat) (listed:Array Bool) (e:En) (a:Act) (w:World) (Z:Nat→Prop) (F:Nat→List Nat),
  listed.size=ops.size→(unl ops.size listed).length=fuel→At2 ops.toList.length U E (fun k=>listed.getD k false=true) e→(∀k,listed.getD k false=true→∀m,m∈bef k→listed.getD m false=true) →
  Rel A P C B e a w Z F []→wpAny P .any ops Q fuel listed a w
 |0,listed,e,a,w,Z,F,hsz,hu,hat,hcl,hrel=>by
  have hall:∀k,k<ops.size→listed.getD k false=true:=by
   intro k hk
   cases hl:listed.getD k false with
   |true=>rfl
   |false =>
    have:k∈unl ops.size listed:=by
     unfold unl
     rw[List.mem_filter,List.mem_range]
     exact⟨hk,by rw[c1a (by omega),hl];rfl⟩
    rw[List.length_eq_zero_iff.1 hu] at this
    simp at this
  refine⟨?_,hq a w Z F (hrel.congr fun d=>?_)⟩
  ·rw[List.eq_nil_iff_forall_not_mem]
   intro i hi
   obtain⟨o,h1,h2,_⟩:=(c8f hsz).1 hi
   have hi':i<ops.size:=by
    rcases Nat.lt_or_ge i ops.size with h|h
    ·exact h
    ·rw[Array.getElem?_eq_none h] at h1;simp at h1
   rw[hall i hi'] at h2
   simp at h2
  ·obtain⟨j,hjl,he,hj⟩:=hat d
   rw[he]
   refine(f2p hrun hjl (Nat.le_refl _) fun k hk hc ht=>?_).symm
   have:=(hj k hk ht).1 (hall k (by simpa using hk))
   omega
 |fuel+1,listed,e,a,w,Z,F,hsz,hu,hat,hcl,hrel=>by
  refine⟨fun hr=>?_,fun i hi=>?_⟩
  ·exfalso
   obtain⟨i,hi⟩:∃i,i∈unl ops.size listed:=by
    cases hul:unl ops.size listed with
    |nil=>rw[hul] at hu;simp at hu
    |cons i _=>exact⟨i,by simp⟩
   unfold unl at hi
   rw[List.mem_filter,List.mem_range] at hi
   obtain⟨h1,h2⟩:=hi
   rw[c1a (by omega)] at h2
   obtain⟨j,hj⟩:=e6q hrun hsz (i+1) i (by omega) h1 (by simpa using h2)
   rw[hr] at hj
   simp at hj
  ·obtain⟨o,h1,h2,h3⟩:=(c8f hsz).1 hi
   have hin:i<ops.size:=by
    rcases Nat.lt_or_ge i ops.size with h|h
    ·exact h
    ·rw[Array.getElem?_eq_none h] at h1;simp at h1
   have hin':i<ops.toList.length:=by simpa using hin
   obtain⟨⟨o',g1,g2,g3,g4⟩,_,_⟩:=hrun i hin'
   rw[Array.getElem?_toList,h1] at g1
   obtain rfl:=Option.some.inj g1
   have hni:¬listed.getD i false=true:=by rw[h2];simp
   have hb:∀m,m∈bef i→listed.getD m false=true:=by
    intro m hm
    rw[g4] at hm
    rcases c8q hm with⟨q,hq1,hq2⟩|hm
    ·rcases hq2 with rfl|hq2
     ·exact h3 _ (List.mem_reverse.1 hq1)
     ·exact hcl q (h3 q (List.mem_reverse.1 hq1)) m hq2
    ·simp at hm
   have hstep:=e4b htab hft hfix hrel (ops:=ops) (e9d g2 (f5t hrun hat hcl hin' hni hb))
   unfold wpOp
   rw[h1]
   refine hstep _ Q fun a' w' Z' F' hr'=>?_
   refine d3e htab hft hfix hrun hq fuel (listed.setIfInBounds i true) _ a' w' Z' F' (by simpa using hsz) (g3h hsz hin h2 hu) ?_ ?_ hr'
   ·have:=f6b hrun hat hcl hin' hni hb
    intro d
    obtain⟨j,q1,q2,q3⟩:=this d
    exact⟨j,q1,q2,fun k hk ht=>(b9p (by omega)).trans (q3 k hk ht)⟩
   ·intro k hk m hm
    rw[b9p (by omega)] at hk ⊢
    rcases hk with hk|rfl
    ·exact .inl (hcl k hk m hm)
    ·exact .inl (hb m hm)
end
theorem e9u(hmix:P.follows .mixedOrders=true)(htab:a3h P C)(hft:FtOK A P C)(hfix:c5o C B)(hrel:Rel A P C B e a w Z F []){id:Nat}{ops:Array Oper}{k:En→Option R}{res:R}{Q:Exit→Act→World→Prop}
  (hk:d1d C (a6t ops.toList) ops.toList ops.toList e [] [] k=some res) (hq:∀e a w Z F,k e=some res→Rel A P C B e a w Z F []→Q .normal a w):(Code.region id ops true).wp P Q a w:=by
 obtain⟨I,U,E,bef,g1,g2,g3⟩:=c6a ops.toList 0 e [] [] (fun _=>([],[])) (fun _=>[]) (fun _=>e) (fun _=>[]) rfl (Nat.zero_le _) rfl rfl (fun j hj=>absurd hj (by omega)) (fun j hj=>absurd hj (by omega)) (fun j hj=>absurd hj (by omega)) hk
 refine wp_region_any hmix ?_
 refine d3e htab hft hfix g1 (fun a w Z F hr=>hq _ a w Z F g3 hr) ops.size (Array.replicate ops.size false) e a _ Z F (by simp) ?_ ?_ ?_ (hrel.drawn _)
 ·unfold unl
  rw[List.filter_eq_self.2]
  ·simp
  ·intro i hi
   rw[List.mem_range] at hi
   simp[Array.getD_eq_getD_getElem?,hi]
 ·intro d
  refine⟨0,Nat.zero_le _,by rw[g2 0 (Nat.le_refl _)],fun k hk _=>⟨fun h=>?_,fun h=>absurd h (by omega)⟩⟩
  dsimp only at h
  rw[Array.getD_eq_getD_getElem?] at h
  have hk':k<ops.size:=by simpa using hk
  simp[hk'] at h
 ·intro k hk
  rw[Array.getD_eq_getD_getElem?] at hk
  by_cases hk':k<ops.size
  ·simp[hk'] at hk
  ·simp[hk'] at hk
end Go.Rb
