/- Plain law: the document's answer on a column by a list of its values, put and taken. Own work. -/
import Derived.Test.YthkgkalebkbndaaGreatDoorLawD
import Derived.Test.YthkgkalebkbndaaGreatDoorRbJ
set_option autoImplicit false
set_option linter.unusedVariables false
set_option linter.unusedSimpArgs false
namespace Go.Rb.R5
open Go.Rb
end Go.Rb.R5

namespace Go.Rb.R5
open Go.Rb
def a8w(e t m:Int)(b:List Int)(l:List Vl):Prop:=0≤m∧m≤1000∧(l.length:Int)=m∧b4k e t=true∧a1z t l=true∧(∀v,v∈l→okV v)∧encB e t l=b
theorem a8w.uniq{e t m:Int}{b:List Int}{l l':List Vl}(h:a8w e t m b l)(h':a8w e t m b l'):l=l':=by
 obtain⟨_,_,g3,g4,g5,g6,g7⟩:=h
 obtain⟨_,_,k3,k4,k5,k6,k7⟩:=h'
 exact(c1w g4 g5 g6 k5 k6 (by omega) (s:=[]) (by rw[List.append_nil,g7,k7])).1
def f3o(e t m:Int)(b:List Int)(y:(List Vl×Bool×Unit)×Unit):Prop:=(∃l,y=((l,true,()),())∧a8w e t m b l)∨(y=(([],false,()),())∧∀l,¬a8w e t m b l)
def d6n(err:List Int→UV)(e t m:Int)(b:List Int)(y:(List Vl×UV×Unit)×Unit):Prop:=(∃l,y=((l,UV.nil,()),())∧a8w e t m b l)∨((∃msg,y=(([],err msg,()),()))∧∀l,¬a8w e t m b l)
theorem f3u{t m:Int}{b:List Int}{l:List Vl}(h:a8w 1 t m b l):0≤m∧m≤1000∧(l.length:Int)=m∧a1z t l=true∧(∀v,v∈l→okV v)∧l.flatMap oneV=b:=by
 obtain⟨g1,g2,g3,g4,g5,g6,g7⟩:=h
 exact⟨g1,g2,g3,g5,g6,by simpa[encB] using g7⟩
theorem f4s{t m:Int}{b:List Int}{l:List Vl}(h:a8w 2 t m b l):0≤m∧m≤1000∧(l.length:Int)=m∧a1z t l=true∧(∀v,v∈l→okV v)∧rleB l=b:=by
 obtain⟨g1,g2,g3,g4,g5,g6,g7⟩:=h
 exact⟨g1,g2,g3,g5,g6,by simpa[encB] using g7⟩
theorem g5d{t m:Int}{b:List Int}{l:List Vl}:a8w 3 t m b l↔Good t m b l:=by
 constructor
 ·rintro⟨g1,g2,g3,g4,g5,g6,g7⟩
  exact⟨g1,g2,g3,g5,g6,by simpa[encB] using g7⟩
 ·rintro⟨g1,g2,g3,g5,g6,g7⟩
  exact⟨g1,g2,g3,by simp[b4k],g5,g6,by simpa[encB] using g7⟩
theorem f2i{t m:Int}{b:List Int}{l:List Vl}(h:a8w 4 t m b l):0≤m∧m≤1000∧(l.length:Int)=m∧t≤3∧a1z t l=true∧(∀v,v∈l→okV v)∧c0n l=b:=by
 obtain⟨g1,g2,g3,g4,g5,g6,g7⟩:=h
 exact⟨g1,g2,g3,by simpa[b4k] using g4,g5,g6,by simpa[encB] using g7⟩
theorem e7n{t m:Int}{b:List Int}{l:List Vl}(h:a8w 5 t m b l):0≤m∧m≤1000∧(l.length:Int)=m∧t≤2∧a1z t l=true∧(∀v,v∈l→okV v)∧a8q 0 l=b:=by
 obtain⟨g1,g2,g3,g4,g5,g6,g7⟩:=h
 exact⟨g1,g2,g3,by simpa[b4k] using g4,g5,g6,by simpa[encB] using g7⟩
theorem d8q{t:Int}{v:Vl}{s:List Int}{k:Nat}{v':Vl}(h:a0w t v=true)(hv:okV v)(hf:a5d t (oneV v++s)=some (v',k)):v'=v∧(oneV v++s).drop k=s:=by
 rw[b9r h hv s] at hf
 simp only[Option.some.injEq,Prod.mk.injEq] at hf
 obtain⟨rfl,rfl⟩:=hf
 exact⟨rfl,by simp⟩
theorem c5j{n:Nat}{t m:Int}{b:List Int}(ht:-9223372036854775808≤t∧t≤9223372036854775807)(hb:a4a b)(hl:b.length<1000000)(hn:70000≤n) :
  Gets (b1c n (t,m,b,())) (f3o 1 t m b):=by
 have hro:=a2k
 have key:Gets (b1o n (t,m,b,())) (d6n errA 1 t m b):=by
  have bad:∀msg,(∀l,¬a8w 1 t m b l)→Gets (some ((([]:List Vl),errA msg,()),())) (d6n errA 1 t m b):=fun msg h=>Gets.some (.inr ⟨⟨msg,rfl⟩,h⟩)
  unfold b1o
  dsimp only
  by_cases h1:m<0
  ·rw[if_pos (by simpa using h1)]
   exact bad _ fun l hg=>by have:=hg.1;omega
  rw[if_neg (by simpa using h1)]
  by_cases h2:1000<m
  ·rw[if_pos (by simpa using h2)]
   exact bad _ fun l hg=>by have:=hg.2.1;omega
  rw[if_neg (by simpa using h2)]
  obtain⟨M,rfl⟩:∃M:Nat,m=(M:Int):=⟨_,(Int.toNat_of_nonneg (by omega)).symm⟩
  refine Gets.iter (I:=fun s:List Vl×List Int×Int=>∃(vs:List Vl) (rest:List Int),s=(vs,rest,(vs.length:Int))∧vs.length≤M∧a4a rest∧rest.length<1000000∧(∀v,v∈vs→okV v)∧∀l,a8w 1 t (M:Int) b l→vs=l.take vs.length∧rest=(l.drop vs.length).flatMap oneV)
   (μ:=fun s=>M - s.1.length) ⟨[],b,rfl,by simp,hb,hl,by simp,fun l hg=>⟨by simp,by simpa using(f3u hg).2.2.2.2.2.symm⟩⟩ (by simp <;> omega) ?_
  rintro rec _ ⟨vs,rest,rfl,g1,g2,g3,g4,g5⟩ hrec
  dsimp only
  by_cases h3:vs.length<M
  ·rw[if_pos (by simp <;> omega)]
   refine Gets.bind (c3t (n:=n) (t:=t) g2 g3 (by omega)) fun y hy=>?_
   have hgood:∀l,a8w 1 t (M:Int) b l→∃v r,rest=oneV v++r.flatMap oneV∧a0w t v=true∧okV v∧l.drop vs.length=v::r:=by
    intro l hg
    obtain⟨_,e2⟩:=g5 l hg
    obtain⟨_,_,q3,q4,q5,_⟩:=f3u hg
    have hlt:vs.length<l.length:=by omega
    have e3:=List.drop_eq_getElem_cons hlt
    rw[e3,List.flatMap_cons] at e2
    exact⟨l[vs.length],_,e2,(a5c q4).2.2 _ (List.getElem_mem _),q5 _ (List.getElem_mem _),e3⟩
   unfold b8v at hy
   cases hf:a5d t rest with
   |none =>
    rw[hf] at hy
    obtain⟨v,msg,rfl⟩:=hy
    dsimp only
    rw[if_pos (by simp[errA])]
    refine bad _ fun l hg=>?_
    obtain⟨v,r,e1,e2,e3,_⟩:=hgood l hg
    rw[e1,b9r e2 e3] at hf
    cases hf
   |some q =>
    obtain⟨v,k⟩:=q
    rw[hf] at hy
    subst hy
    obtain⟨q1,q2,q3,q4⟩:=c9v ht g2 hf
    dsimp only
    rw[if_neg (by simp),if_pos (by simp <;> omega),if_pos (by omega)]
    simp only[Int.toNat_natCast,List.take_length]
    rw[a0e (by omega)]
    refine hrec _ ⟨vs++[v],rest.drop k,by simp,by simp <;> omega,g2.drop _,by simp <;> omega,?_,fun l hg=>?_⟩ (by simp <;> omega)
    ·intro x hx
     rcases List.mem_append.1 hx with hx|hx
     ·exact g4 x hx
     ·simp at hx;subst hx;exact q1
    ·obtain⟨v',r,e1,e2,e3,e4⟩:=hgood l hg
     obtain⟨e5,_⟩:=g5 l hg
     rw[e1] at hf
     obtain⟨rfl,e6⟩:=d8q e2 e3 hf
     have hlt:vs.length<l.length:=by
      rcases Nat.lt_or_ge vs.length l.length with h|h
      ·exact h
      ·rw[List.drop_eq_nil_iff.2 h] at e4;cases e4
     have e7:=List.drop_eq_getElem_cons hlt
     rw[e4] at e7
     obtain⟨e8,e9⟩:=List.cons.inj e7
     rw[e1,e6,List.length_append,List.length_singleton,←e9,List.take_succ_eq_append_getElem hlt,←e5,e8]
     exact⟨rfl,rfl⟩
  ·have hM:vs.length=M:=by omega
   rw[if_neg (by simp <;> omega),c0y g4 (by omega) (by omega)]
   simp only[Option.bind_some]
   have huniq:∀l,a8w 1 t (M:Int) b l→vs=l:=by
    intro l hg
    have e1:=(g5 l hg).1
    have q3:=(f3u hg).2.2.1
    rwa [List.take_of_length_le (by omega)] at e1
   cases hr:a1z t vs with
   |false =>
    rw[if_pos (by simp)]
    refine bad _ fun l hg=>?_
    have:=huniq l hg
    subst this
    rw[(f3u hg).2.2.2.1] at hr
    cases hr
   |true =>
    rw[if_neg (by simp)]
    unfold a0d
    simp only[Option.bind_some,if_true]
    by_cases hq:vs.flatMap oneV=b
    ·rw[if_neg (by simp[hq])]
     exact Gets.some (.inl ⟨vs,rfl,by omega,by omega,by omega,by simp[b4k],hr,g4,by simpa[encB] using hq⟩)
    ·rw[if_pos (by simp[hq])]
     refine bad _ fun l hg=>?_
     have:=huniq l hg
     subst this
     exact hq (f3u hg).2.2.2.2.2
 unfold b1c
 refine Gets.bind key ?_
 rintro y (⟨l,rfl,hg⟩|⟨⟨msg,rfl⟩,hno⟩)
 ·exact Gets.some (.inl ⟨l,rfl,hg⟩)
 ·exact Gets.some (.inr ⟨rfl,hno⟩)
theorem c9e{n:Nat}{t m:Int}{b:List Int}(ht:-9223372036854775808≤t∧t≤9223372036854775807)(hb:a4a b)(hl:b.length<1000000)(hn:1000000≤n) :
  Gets (b5j n (t,m,b,())) (f3o 2 t m b):=by
 have hro:=a2k
 have key:Gets (b5d n (t,m,b,())) (d6n errB 2 t m b):=by
  have bad:∀msg,(∀l,¬a8w 2 t m b l)→Gets (some ((([]:List Vl),errB msg,()),())) (d6n errB 2 t m b):=fun msg h=>Gets.some (.inr ⟨⟨msg,rfl⟩,h⟩)
  unfold b5d
  dsimp only
  by_cases h1:m<0
  ·rw[if_pos (by simpa using h1)]
   exact bad _ fun l hg=>by have:=hg.1;omega
  rw[if_neg (by simpa using h1)]
  by_cases h2:1000<m
  ·rw[if_pos (by simpa using h2)]
   exact bad _ fun l hg=>by have:=hg.2.1;omega
  rw[if_neg (by simpa using h2)]
  obtain⟨M,rfl⟩:∃M:Nat,m=(M:Int):=⟨_,(Int.toNat_of_nonneg (by omega)).symm⟩
  refine Gets.iter (I:=fun s:List Vl×List Int=>∃(vs:List Vl) (rest:List Int),s=(vs,rest)∧vs.length≤M∧a4a rest∧rest.length<1000000∧(∀v,v∈vs→okV v)∧∀l,a8w 2 t (M:Int) b l→vs=l.take vs.length∧rest=rleB (l.drop vs.length))
   (μ:=fun s=>s.2.length) ⟨[],b,rfl,by simp,hb,hl,by simp,fun l hg=>⟨by simp,by simpa using(f4s hg).2.2.2.2.2.symm⟩⟩ (by simp <;> omega) ?_
  rintro rec _ ⟨vs,rest,rfl,g1,g2,g3,g4,g5⟩ hrec
  dsimp only
  by_cases h3:0<rest.length
  ·rw[if_pos (by simp <;> omega),a4e g2 g3 (by omega)]
   simp only[Option.bind_some]
   have hgood:∀l,a8w 2 t (M:Int) b l→∃v r,rest=putN (1+runN v r)++(oneV v++rleB (r.drop (runN v r)))∧a0w t v=true∧okV v∧l.drop vs.length=v::r∧vs.length+(1+runN v r)≤M:=by
    intro l hg
    obtain⟨_,e2⟩:=g5 l hg
    obtain⟨_,_,q3,q4,q5,_⟩:=f4s hg
    have hlt:vs.length<l.length:=by
     rcases Nat.lt_or_ge vs.length l.length with h|h
     ·exact h
     ·rw[List.drop_eq_nil_iff.2 h,c3e] at e2;rw[e2] at h3;simp at h3
    have e3:=List.drop_eq_getElem_cons hlt
    rw[e3,b3d] at e2
    have e4:=d3y l[vs.length] (l.drop (vs.length+1))
    have e5:(l.drop (vs.length+1)).length=l.length - (vs.length+1):=by simp
    exact⟨l[vs.length],_,e2,(a5c q4).2.2 _ (List.getElem_mem _),q5 _ (List.getElem_mem _),e3,by omega⟩
   have hsz:∀{v r},vs.length+(1+runN v r)≤M→1+runN v r<18446744073709551616:=by intro v r h;omega
   cases htk:a5a rest with
   |none =>
    dsimp only
    rw[if_pos (by simp)]
    refine bad _ fun l hg=>?_
    obtain⟨v,r,e1,_,_,_,e5⟩:=hgood l hg
    rw[e1,a9n _ _ (hsz e5)] at htk
    cases htk
   |some q =>
    obtain⟨u,k⟩:=q
    have hT:=a4q g2 htk
    have hK:=c1q g2 htk
    have hk1:=c3h u
    dsimp only
    have hw:IntKind.u64.wrap (IntKind.i64.wrap ((M:Int) - (vs.length:Int)))=((M - vs.length:Nat):Int):=by
     rw[show((M:Int) - (vs.length:Int))=((M - vs.length:Nat):Int) by omega,a2a (by omega),a7a (by omega)]
    rw[if_neg (by simp),hw]
    by_cases h4:M - vs.length<u
    ·rw[if_pos (by simp <;> omega)]
     refine bad _ fun l hg=>?_
     obtain⟨v,r,e1,_,_,_,e5⟩:=hgood l hg
     rw[e1,a9n _ _ (hsz e5)] at htk
     simp only[Option.some.injEq,Prod.mk.injEq] at htk
     omega
    ·rw[if_neg (by simp <;> omega),if_pos (by omega)]
     simp only[Int.toNat_natCast,List.take_length]
     refine Gets.bind (c6q (n:=n) (t:=t) (g2.drop k) (by simp <;> omega) (by omega)) fun y hy=>?_
     have hgood2:∀l,a8w 2 t (M:Int) b l→∃v r,u=1+runN v r∧rest.drop k=oneV v++rleB (r.drop (runN v r))∧a0w t v=true∧okV v∧l.drop vs.length=v::r:=by
      intro l hg
      obtain⟨v,r,e1,e2,e3,e4,e5⟩:=hgood l hg
      have htk':=htk
      rw[e1,a9n _ _ (hsz e5)] at htk'
      simp only[Option.some.injEq,Prod.mk.injEq] at htk'
      refine⟨v,r,htk'.1.symm,?_,e2,e3,e4⟩
      rw[e1,←htk'.2];simp
     unfold b7y at hy
     cases hf:a5d t (rest.drop k) with
     |none =>
      rw[hf] at hy
      obtain⟨v,msg,rfl⟩:=hy
      dsimp only
      rw[if_pos (by simp[errB])]
      refine bad _ fun l hg=>?_
      obtain⟨v,r,_,e1,e2,e3,_⟩:=hgood2 l hg
      rw[e1,b9r e2 e3] at hf
      cases hf
     |some q =>
      obtain⟨v,k2⟩:=q
      rw[hf] at hy
      subst hy
      obtain⟨q1,q2,q3,q4⟩:=c9v ht (g2.drop k) hf
      rw[List.length_drop] at q3
      dsimp only
      rw[if_neg (by simp),a2a (x:=u) (by omega),e4p (by omega) (by omega)]
      simp only[Option.bind_some]
      have hw2:IntKind.i64.wrap ((k:Int)+(k2:Int))=((k+k2:Nat):Int):=by
       rw[show((k:Int)+(k2:Int))=((k+k2:Nat):Int) by omega,a2a (by omega)]
      rw[if_pos (by simp <;> omega),hw2,if_pos (by omega)]
      simp only[Int.toNat_natCast]
      refine hrec _ ⟨vs++List.replicate u v,rest.drop (k+k2),rfl,by simp <;> omega,g2.drop _,by simp <;> omega,?_,fun l hg=>?_⟩ (by simp <;> omega)
      ·intro x hx
       rcases List.mem_append.1 hx with hx|hx
       ·exact g4 x hx
       ·rw[List.eq_of_mem_replicate hx];exact q1
      ·obtain⟨v',r,e1,e2,e3,e4,e5⟩:=hgood2 l hg
       obtain⟨e6,_⟩:=g5 l hg
       rw[e2] at hf
       obtain⟨rfl,e7⟩:=d8q e3 e4 hf
       rw[←List.drop_drop,e2,e7]
       have hlen:(vs++List.replicate u v).length=vs.length+u:=by simp
       have e8:l.drop vs.length=List.replicate u v++r.drop (runN v r):=by
        rw[e5,e1,Nat.add_comm,List.replicate_succ,List.cons_append,←b7j v r]
       have e9:l.drop (vs.length+u)=r.drop (runN v r):=by
        rw[←List.drop_drop,e8,List.drop_left' (by simp)]
       rw[hlen,e9]
       refine⟨?_,rfl⟩
       rw[List.take_add,←e6,e8,List.take_left' (by simp)]
  ·have hrest:rest=[]:=by
    cases rest with
    |nil=>rfl
    |cons=>simp at h3
   subst hrest
   rw[if_neg (by simp),c6d g4 (by omega) (by omega)]
   simp only[Option.bind_some]
   have huniq:∀l,a8w 2 t (M:Int) b l→vs=l:=by
    intro l hg
    obtain⟨e1,e2⟩:=g5 l hg
    have e3:l.length≤vs.length:=by
     rcases Nat.lt_or_ge vs.length l.length with h|h
     ·rw[List.drop_eq_getElem_cons h,b3d] at e2
      have:=congrArg List.length e2
      have hp:=c3h (1+runN l[vs.length] (l.drop (vs.length+1)))
      simp at this
      omega
     ·exact h
    rwa [List.take_of_length_le e3] at e1
   cases hr:a1z t vs with
   |false =>
    rw[if_pos (by simp)]
    refine bad _ fun l hg=>?_
    have:=huniq l hg
    subst this
    rw[(f4s hg).2.2.2.1] at hr
    cases hr
   |true =>
    rw[if_neg (by simp)]
    by_cases hlm:vs.length=M
    rotate_left
    ·rw[if_pos (by simp <;> omega)]
     refine bad _ fun l hg=>?_
     have:=huniq l hg
     subst this
     have:=(f4s hg).2.2.1
     omega
    rw[if_neg (by simp <;> omega)]
    unfold a0d
    simp only[Option.bind_some,if_true]
    by_cases hq:rleB vs=b
    ·rw[if_neg (by simp[hq])]
     exact Gets.some (.inl ⟨vs,rfl,by omega,by omega,by omega,by simp[b4k],hr,g4,by simpa[encB] using hq⟩)
    ·rw[if_pos (by simp[hq])]
     refine bad _ fun l hg=>?_
     have:=huniq l hg
     subst this
     exact hq (f4s hg).2.2.2.2.2
 unfold b5j
 refine Gets.bind key ?_
 rintro y (⟨l,rfl,hg⟩|⟨⟨msg,rfl⟩,hno⟩)
 ·exact Gets.some (.inl ⟨l,rfl,hg⟩)
 ·exact Gets.some (.inr ⟨rfl,hno⟩)
def errC(msg:List Int):UV:=UV.node a6q (.pair (.str msg) (.pair (UV.sent a2z) .unit))
def errF(msg:List Int):UV:=UV.node a7u (.pair (.str msg) (.pair (UV.sent a3r) .unit))
theorem f3j{t:Int}{v:Vl}(h:a0w t v=true)(ht:t≤3):v=(t,v.2.1,[],()):=by
 obtain⟨h1,h2⟩:=a2n h
 obtain⟨a,b,c,u⟩:=v
 dsimp only at h1 h2
 subst h1
 have hc:c=[]:=by
  rcases h2 with h2|h2|h2|h2|h2
  ·exact h2.2.2
  ·exact h2.2.2.2
  ·exact h2.2
  ·exact h2.2.2
  ·omega
 subst hc
 rfl
theorem c4u{n:Nat}{t m:Int}{b:List Int}(ht:-9223372036854775808≤t∧t≤9223372036854775807)(hb:a4a b)(hl:b.length<1000000)(hn:70000≤n) :
  Gets (b1a n (t,m,b,())) (f3o 5 t m b):=by
 have hro:=a2k
 have key:Gets (b1f n (t,m,b,())) (d6n errF 5 t m b):=by
  have bad:∀msg,(∀l,¬a8w 5 t m b l)→Gets (some ((([]:List Vl),errF msg,()),())) (d6n errF 5 t m b):=fun msg h=>Gets.some (.inr ⟨⟨msg,rfl⟩,h⟩)
  unfold b1f
  dsimp only
  by_cases h1:m<0
  ·rw[if_pos (by simpa using h1)]
   exact bad _ fun l hg=>by have:=hg.1;omega
  rw[if_neg (by simpa using h1)]
  by_cases h2:1000<m
  ·rw[if_pos (by simpa using h2)]
   exact bad _ fun l hg=>by have:=hg.2.1;omega
  rw[if_neg (by simpa using h2)]
  obtain⟨M,rfl⟩:∃M:Nat,m=(M:Int):=⟨_,(Int.toNat_of_nonneg (by omega)).symm⟩
  refine Gets.iter (I:=fun s:List Vl×List Int×Int×Int=>∃(vs:List Vl) (rest:List Int) (last:Int),s=(vs,rest,IntKind.u64.wrap last,(vs.length:Int))∧(-9223372036854775808≤last∧last≤9223372036854775807)∧vs.length≤M∧a4a rest∧rest.length<1000000∧(∀v,v∈vs→okV v) ∧
    ∀l,a8w 5 t (M:Int) b l→vs=l.take vs.length∧rest=a8q last (l.drop vs.length))
   (μ:=fun s=>M - s.1.length) ⟨[],b,0,rfl,by omega,by simp,hb,hl,by simp,fun l hg=>⟨by simp,by simpa using(e7n hg).2.2.2.2.2.2.symm⟩⟩ (by simp <;> omega) ?_
  rintro rec _ ⟨vs,rest,last,rfl,g0,g1,g2,g3,g4,g5⟩ hrec
  dsimp only
  by_cases h3:vs.length<M
  ·rw[if_pos (by simp <;> omega),a4e g2 g3 (by omega)]
   simp only[Option.bind_some]
   have hgood:∀l,a8w 5 t (M:Int) b l→∃(hlt:vs.length<l.length),rest=putN (zig (d4h last l[vs.length].2.1))++a8q l[vs.length].2.1 (l.drop (vs.length+1))∧a0w t l[vs.length]=true∧okV l[vs.length]∧t≤2:=by
    intro l hg
    obtain⟨_,e2⟩:=g5 l hg
    obtain⟨_,_,q3,q0,q4,q5,_⟩:=e7n hg
    have hlt:vs.length<l.length:=by omega
    rw[List.drop_eq_getElem_cons hlt] at e2
    exact⟨hlt,e2,(a5c q4).2.2 _ (List.getElem_mem _),q5 _ (List.getElem_mem _),q0⟩
   cases htk:a5a rest with
   |none =>
    dsimp only
    rw[if_pos (by simp)]
    refine bad _ fun l hg=>?_
    obtain⟨hlt,e1,_⟩:=hgood l hg
    rw[e1,a9n _ _ (b2h _ _)] at htk
    cases htk
   |some q =>
    obtain⟨u,k⟩:=q
    have hT:=a4q g2 htk
    have hK:=c1q g2 htk
    dsimp only
    rw[if_neg (by simp),b1p hT.1]
    simp only[Option.bind_some]
    have hz:=f3e hT.1
    have hval:IntKind.u64.wrap (IntKind.u64.wrap last+IntKind.u64.wrap (zag u))=IntKind.u64.wrap (IntKind.i64.wrap (last+zag u)):=by
     rw[a3c,a3c,a3c,a3c,a3i]
     omega
    have hnew:=c9o (last+zag u)
    rw[hval,e2n hnew,if_pos (by simp <;> omega),if_pos (by omega)]
    simp only[Int.toNat_natCast,List.take_length]
    rw[a0e (by omega)]
    refine hrec _ ⟨vs++[(t,IntKind.i64.wrap (last+zag u),[],())],rest.drop k,IntKind.i64.wrap (last+zag u),by simp,hnew,by simp <;> omega,g2.drop _,by simp <;> omega,?_,fun l hg=>?_⟩ (by simp <;> omega)
    ·intro x hx
     rcases List.mem_append.1 hx with hx|hx
     ·exact g4 x hx
     ·simp at hx;subst hx;exact⟨ht,hnew,by simp,by simp⟩
    ·obtain⟨hlt,e1,e2,e3,e4⟩:=hgood l hg
     obtain⟨e5,_⟩:=g5 l hg
     have htk':=htk
     rw[e1,a9n _ _ (b2h _ _)] at htk'
     simp only[Option.some.injEq,Prod.mk.injEq] at htk'
     have e6:IntKind.i64.wrap (last+zag u)=l[vs.length].2.1:=by
      rw[←htk'.1,c1o];exact c4p e3.2.1
     have e7:=f3j e2 (by omega)
     rw[e6,←e7,List.length_append,List.length_singleton,List.take_succ_eq_append_getElem hlt,←e5]
     refine⟨rfl,?_⟩
     rw[e1,←htk'.2];simp
  ·have hM:vs.length=M:=by omega
   rw[if_neg (by simp <;> omega),c0s g4 (by omega) (by omega)]
   simp only[Option.bind_some]
   have huniq:∀l,a8w 5 t (M:Int) b l→vs=l:=by
    intro l hg
    have e1:=(g5 l hg).1
    have q3:=(e7n hg).2.2.1
    rwa [List.take_of_length_le (by omega)] at e1
   by_cases hr:t≤2∧a1z t vs=true
   rotate_left
   ·rw[if_neg hr,if_pos (by simp)]
    refine bad _ fun l hg=>?_
    have:=huniq l hg
    subst this
    exact hr ⟨(e7n hg).2.2.2.1,(e7n hg).2.2.2.2.1⟩
   ·rw[if_pos hr,if_neg (by simp)]
    unfold a0d
    simp only[Option.bind_some]
    by_cases hq:a8q 0 vs=b
    ·rw[if_neg (by simp[hq])]
     exact Gets.some (.inl ⟨vs,rfl,by omega,by omega,by omega,by simp[b4k,hr.1],hr.2,g4,by simpa[encB] using hq⟩)
    ·rw[if_pos (by simp[hq])]
     refine bad _ fun l hg=>?_
     have:=huniq l hg
     subst this
     exact hq (e7n hg).2.2.2.2.2.2
 unfold b1a
 refine Gets.bind key ?_
 rintro y (⟨l,rfl,hg⟩|⟨⟨msg,rfl⟩,hno⟩)
 ·exact Gets.some (.inl ⟨l,rfl,hg⟩)
 ·exact Gets.some (.inr ⟨rfl,hno⟩)
theorem e9h{t:Int}{l:List Vl}(hne:l≠[])(ht:t≤3)(h:a1z t l=true)(hv:∀v,v∈l→okV v):a5a (c0n l)=some (zig (a6j l),(putN (zig (a6j l))).length)∧(putN (zig (a6j l))).length<(c0n l).length ∧
  (c0n l).getD (putN (zig (a6j l))).length 0=((a5j (a2w l):Nat):Int)∧(c0n l).drop ((putN (zig (a6j l))).length+1)=b1k (a2w l) (a5j (a2w l)) ∧
  d1o (b1k (a2w l) (a5j (a2w l))) (l.length:Int) ((a5j (a2w l):Nat):Int)=(a2w l,true,())∨¬l.length≤1000:=by
 rcases Nat.lt_or_ge 1000 l.length with h1|h1
 ·exact .inr (by omega)
 have hlr:=b2s hv
 have hz:=b7a hlr.1 hlr.2
 have hw:=b6j hv
 refine .inl ?_
 rw[b2f hne]
 refine⟨a9n _ _ hz,by simp,?_,?_,?_⟩
 ·rw[List.getD_eq_getElem?_getD,List.getElem?_append_right (Nat.le_refl _),Nat.sub_self];rfl
 ·rw[←List.drop_drop,List.drop_left];rfl
 ·have hbb:=b6g (c1v hv)
  rw[a4v] at hbb
  unfold d1o
  simp only[Int.toNat_natCast]
  rw[hbb,if_pos ⟨by omega,by omega,by omega,by omega,by rw[a6s,a4v],rfl⟩]
theorem c6s{n:Nat}{t m:Int}{b:List Int}(ht:-9223372036854775808≤t∧t≤9223372036854775807)(hb:a4a b)(hl:b.length<1000000)(hn:70000≤n) :
  Gets (b2o n (t,m,b,())) (f3o 4 t m b):=by
 have hro:=a2k
 have key:Gets (b2q n (t,m,b,())) (d6n errC 4 t m b):=by
  have bad:∀msg,(∀l,¬a8w 4 t m b l)→Gets (some ((([]:List Vl),errC msg,()),())) (d6n errC 4 t m b):=fun msg h=>Gets.some (.inr ⟨⟨msg,rfl⟩,h⟩)
  unfold b2q
  dsimp only
  by_cases h1:m<0
  ·rw[if_pos (by simpa using h1)]
   exact bad _ fun l hg=>by have:=hg.1;omega
  rw[if_neg (by simpa using h1)]
  by_cases h2:1000<m
  ·rw[if_pos (by simpa using h2)]
   exact bad _ fun l hg=>by have:=hg.2.1;omega
  rw[if_neg (by simpa using h2)]
  obtain⟨M,rfl⟩:∃M:Nat,m=(M:Int):=⟨_,(Int.toNat_of_nonneg (by omega)).symm⟩
  refine Gets.join (I:=fun vs:List Vl=>vs.length=M∧(∀v,v∈vs→okV v)∧∀l,a8w 4 t (M:Int) b l→vs=l) ?_ ?_
  ·rintro vs ⟨hM,g4,huniq⟩
   rw[c2v g4 (by omega) (by omega)]
   simp only[Option.bind_some]
   by_cases hr:t≤3∧a1z t vs=true
   rotate_left
   ·rw[if_neg hr,if_pos (by simp)]
    refine bad _ fun l hg=>?_
    have:=huniq l hg
    subst this
    exact hr ⟨(f2i hg).2.2.2.1,(f2i hg).2.2.2.2.1⟩
   ·rw[if_pos hr,if_neg (by simp)]
    unfold a0d
    simp only[Option.bind_some]
    by_cases hq:c0n vs=b
    ·rw[if_neg (by simp[hq])]
     exact Gets.some (.inl ⟨vs,rfl,by omega,by omega,by omega,by simp[b4k,hr.1],hr.2,g4,by simpa[encB] using hq⟩)
    ·rw[if_pos (by simp[hq])]
     refine bad _ fun l hg=>?_
     have:=huniq l hg
     subst this
     exact hq (f2i hg).2.2.2.2.2.2
  ·intro J hJ
   by_cases h3:M=0
   ·subst h3
    rw[if_neg (by simp)]
    refine hJ _ ⟨rfl,by simp,fun l hg=>?_⟩
    have:=(f2i hg).2.2.1
    cases l with
    |nil=>rfl
    |cons=>simp at this;omega
   have hparts:∀l,a8w 4 t (M:Int) b l→l.length=M∧t≤3∧(∀v,v∈l→a0w t v=true∧okV v)∧a5a b=some (zig (a6j l),(putN (zig (a6j l))).length)∧(putN (zig (a6j l))).length<b.length ∧
     b.getD (putN (zig (a6j l))).length 0=((a5j (a2w l):Nat):Int)∧b.drop ((putN (zig (a6j l))).length+1)=b1k (a2w l) (a5j (a2w l)) ∧
     d1o (b1k (a2w l) (a5j (a2w l))) (M:Int) ((a5j (a2w l):Nat):Int)=(a2w l,true,()):=by
    intro l hg
    obtain⟨_,_,q3,q4,q5,q6,q7⟩:=f2i hg
    have hlm:l.length=M:=by omega
    have hne:l≠[]:=by rintro rfl;simp at hlm;omega
    rcases e9h hne q4 q5 q6 with h|h
    ·rw[q7,hlm] at h
     exact⟨hlm,q4,a6p q5 q6,h⟩
    ·omega
   rw[if_pos (by simp <;> omega),a4e hb hl (by omega)]
   simp only[Option.bind_some]
   cases htk:a5a b with
   |none =>
    dsimp only
    rw[if_pos (by simp)]
    refine bad _ fun l hg=>?_
    rw[(hparts l hg).2.2.2.1] at htk
    cases htk
   |some q =>
    obtain⟨u,k⟩:=q
    have hT:=a4q hb htk
    dsimp only
    rw[if_neg (by simp)]
    by_cases h4:k=b.length
    ·rw[if_pos (by simp <;> omega)]
     refine bad _ fun l hg=>?_
     obtain⟨_,_,_,e1,e2,_⟩:=hparts l hg
     rw[e1] at htk
     simp only[Option.some.injEq,Prod.mk.injEq] at htk
     omega
    have hk:k<b.length:=by omega
    obtain⟨c,hc1,hc2,hc3⟩:=hb.get hk
    rw[if_neg (by simp <;> omega),a0e (by omega),if_pos (by omega),a0c hk]
    simp only[Int.toNat_natCast,List.take_length]
    rw[hc1,a2a (by omega),b4r (hb.drop _) (by simp <;> omega) (by omega)]
    simp only[Option.bind_some]
    have hgood:∀l,a8w 4 t (M:Int) b l→u=zig (a6j l)∧d1o (b.drop (k+1)) (M:Int) (c:Int)=(a2w l,true,()):=by
     intro l hg
     obtain⟨_,_,_,e1,e2,e3,e4,e5⟩:=hparts l hg
     rw[e1] at htk
     simp only[Option.some.injEq,Prod.mk.injEq] at htk
     obtain⟨rfl,rfl⟩:=htk
     rw[hc1] at e3
     exact⟨rfl,by rw[e4,e3];exact e5⟩
    obtain⟨al,aok,hab⟩:∃al aok,d1o (b.drop (k+1)) (M:Int) (c:Int)=(al,aok,()):=⟨_,_,rfl⟩
    rw[hab] at hgood ⊢
    have hal:aok=true→al.length=M∧Nums al:=by
     intro h
     unfold d1o at hab
     split at hab
     ·rename_i hcnd
      simp only[Prod.mk.injEq] at hab
      rw[←hab.1]
      refine⟨?_,c5m (by simp <;> omega)⟩
      rw[c2g];simp
     ·simp only[Prod.mk.injEq] at hab
      rw[←hab.2.1] at h;cases h
    cases aok with
    |false =>
     rw[if_pos (by simp)]
     refine bad _ fun l hg=>?_
     have:=(hgood l hg).2
     simp at this
    |true =>
     obtain⟨hal1,hal2⟩:=hal rfl
     rw[if_neg (by simp)]
     have hz:=f3e hT.1
     refine Gets.iter (I:=fun s:List Vl×Int=>∃i:Nat,i≤M∧s=((al.take i).map (fun a=>(t,IntKind.i64.wrap (IntKind.u64.wrap (IntKind.u64.wrap (zag u)+a)),[],())),(i:Int))) (μ:=fun s=>M - s.2.toNat) ⟨0,by omega,by simp⟩ (by simp <;> omega) ?_
     rintro rec _ ⟨i,hi,rfl⟩ hrec
     dsimp only
     by_cases h5:i<M
     ·have h6:i<al.length:=by omega
      rw[if_pos (by simp <;> omega),a0c h6,b1p hT.1]
      simp only[Option.bind_some,Int.toNat_natCast]
      rw[a0h h6,if_pos (by simp <;> omega),a0e (by omega)]
      exact hrec _ ⟨i+1,by omega,by rw[map_take _ h6]⟩ (by simp <;> omega)
     ·obtain rfl:i=M:=by omega
      rw[if_neg (by simp <;> omega),List.take_of_length_le (by omega)]
      refine hJ _ ⟨by simp <;> omega,?_,fun l hg=>?_⟩
      ·intro v hv
       obtain⟨a,_,rfl⟩:=List.mem_map.1 hv
       exact⟨ht,c9o _,by simp,by simp⟩
      ·obtain⟨e1,e2⟩:=hgood l hg
       simp only[Prod.mk.injEq,and_true] at e2
       obtain⟨_,q2,q3,_⟩:=hparts l hg
       rw[e2,e1]
       unfold a2w
       rw[List.map_map]
       conv=>rhs;rw[←List.map_id l]
       refine List.map_congr_left fun v hv=>?_
       obtain⟨r1,r2⟩:=q3 v hv
       simp only[Function.comp_apply,id,c1o]
       have e3:IntKind.i64.wrap (IntKind.u64.wrap (IntKind.u64.wrap (a6j l)+(v.2.1 - a6j l)))=v.2.1:=by
        have:=r2.2.1
        rw[a3c,a3c,a3i]
        omega
       rw[e3]
       exact(f3j r1 (by omega)).symm
 unfold b2o
 refine Gets.bind key ?_
 rintro y (⟨l,rfl,hg⟩|⟨⟨msg,rfl⟩,hno⟩)
 ·exact Gets.some (.inl ⟨l,rfl,hg⟩)
 ·exact Gets.some (.inr ⟨rfl,hno⟩)
theorem c5f{n:Nat}{t m:Int}{b:List Int}(ht:-9223372036854775808≤t∧t≤9223372036854775807)(hb:a4a b)(hl:b.length<1000000)(hn:70000≤n) :
  Gets (b0n n (t,m,b,())) (f3o 3 t m b):=by
 refine(c7e (m:=m) ht hb hl hn).mono fun y hy=>?_
 rcases hy with⟨l,h,hg⟩|⟨h,hno⟩
 ·exact .inl ⟨l,h,g5d.2 hg⟩
 ·exact .inr ⟨h,fun l hg=>hno l (g5d.1 hg)⟩
end Go.Rb.R5

namespace Go.Rb.R5
open Go.Rb
theorem a4a.take{b:List Int}(h:a4a b)(k:Nat):a4a (b.take k):=fun x hx=>h x (List.mem_of_mem_take hx)
theorem b6u(n:Nat)(e t:Int):a4g n (e,t,())=some (match b3j e t with|some u=>(u,true,())|none=>(0,false,()),()):=by
 unfold a4g b3j
 dsimp only
 by_cases h1:t<1
 ·rw[if_pos (by simpa using h1),if_neg (by omega)]
 rw[if_neg (by simpa using h1)]
 by_cases h2:4<t
 ·rw[if_pos (by simpa using h2),if_neg (by omega)]
 rw[if_neg (by simpa using h2)]
 by_cases h3:e=5∨e=4∨e=3∨e=2∨e=1
 ·have ht:t=1∨t=2∨t=3∨t=4:=by omega
  rcases h3 with rfl|rfl|rfl|rfl|rfl <;> rcases ht with rfl|rfl|rfl|rfl <;> decide
 ·have h5:¬e=5:=by omega
  have h4:¬e=4:=by omega
  have h33:¬e=3:=by omega
  have h22:¬e=2:=by omega
  have h11:¬e=1:=by omega
  have hno:¬(1≤t∧t≤4∧1≤e∧e≤5):=by omega
  rw[if_neg hno]
  simp[h5,h4,h33,h22,h11]
theorem b9e(n:Nat)(t:Int)(v:Vl):a7r n (t,v,())=some ((a6w t v,()),()):=by
 unfold a7r a6w
 dsimp only
 rw[a2r]
 simp only[Option.bind_some]
 cases mayV v with
 |false=>rfl
 |true =>
  rw[if_pos rfl]
  by_cases h1:1≤t
  ·by_cases h2:t≤4
   ·by_cases h3:v.1=0 <;> simp[h1,h2,h3]
   ·simp[h1,h2]
  ·simp[h1]
def b8r(e t:Int)(l:List Vl):Option (List Int) :=
 match b3j e t with
 |some u=>if l.all (a6w t)=true then some (colB u t l) else none
 |none=>none
def d4s(u:Int)(l:List Vl):List Int:=if l.any isN then u::1::b7g (l.map isN) else[u,0]
theorem f4n(u t:Int)(l:List Vl):d4s u l++encB u t (a6o l)=colB u t l:=by
 unfold d4s colB
 split <;> simp
theorem f0i(u:Int){l:List Vl}(hl:l.length≤1000):(d4s u l).length≤200:=by
 unfold d4s
 split
 ·simp only[List.length_cons,b3b,List.length_map];omega
 ·simp
theorem b8a{n:Nat}{e t:Int}{l:List Vl}(hv:∀v,v∈l→okV v)(hl:l.length≤1000)(hn:2000≤n) :
  a4k n (e,t,l,())=some (match b8r e t l with|some b=>(b,true,())|none=>([],false,()),()):=by
 have hro:=a2k
 unfold a4k b8r
 dsimp only
 rw[b6u]
 simp only[Option.bind_some]
 cases hu:b3j e t with
 |none=>rfl
 |some u =>
  obtain⟨u1,u2,u3,u4,u5,_⟩:=b0z hu
  dsimp only
  rw[if_neg (by simp),b0h (q:=fun v=>!a6w t v) (fun v _=>by unfold b0w;dsimp only;rw[b9e];rfl) (by omega) (by omega)]
  simp only[Option.bind_some]
  by_cases hf:l.all (a6w t)=true
  rotate_left
  ·rw[if_neg hf,if_pos]
   rw[List.any_eq_true]
   have hf':l.all (a6w t)=false:=by simpa using hf
   rw[List.all_eq_false] at hf'
   obtain⟨x,hx,h⟩:=hf'
   exact⟨x,hx,by simpa using h⟩
  ·have hfa:∀v,v∈l→a6w t v=true:=List.all_eq_true.1 hf
   have hany:l.any (fun v=>!a6w t v)=false:=by rw[List.any_eq_false];intro x hx;simp[hfa x hx]
   have hr:=b0g ⟨u2,u3⟩ hfa
   have hok:=b4e hv
   have hsl:=b8x l
   rw[if_pos hf,if_neg (by rw[hany];simp)]
   dsimp only
   have hEL:=e5y (e:=u) hr hok (by omega)
   have hHL:=f0i u hl
   have hcat:∀b:List Int,b=encB u t (a6o l)→(if((d4s u l).length+b.length)*1≤room then(some (((d4s u l)++b,true,()),()):Option ((List Int×Bool×Unit)×Unit)) else none)=some ((colB u t l,true,()),()):=by
    rintro b rfl
    rw[if_pos (by omega),f4n]
   refine c0g (I:=fun s q=>s=d4s u l∧q=some ((colB u t l,true,()),())) ?_ ?_
   ·rintro _ _ ⟨rfl,rfl⟩
    unfold a3t a0b
    simp only[Option.bind_some]
    rw[b7v (p:=fun c=>(a3f n (c,())).bind fun r=>some r.1.1) (q:=isN) (fun v _=>rfl) (by omega) (by omega)]
    simp only[Option.bind_some]
    have hsv:(l.filter fun v=>!isN v)=a6o l:=rfl
    rw[hsv]
    by_cases c1:u=1
    ·subst c1
     rw[if_pos rfl,c0y hok (by omega) hn,if_pos hr]
     simp only[Option.bind_some]
     rw[if_neg (by simp)]
     exact hcat _ (by simp[encB])
    rw[if_neg c1]
    by_cases c2:u=2
    ·subst c2
     rw[if_pos rfl,c6d hok (by omega) hn,if_pos hr]
     simp only[Option.bind_some]
     rw[if_neg (by simp)]
     exact hcat _ (by simp[encB])
    rw[if_neg c2]
    by_cases c3:u=3
    ·subst c3
     rw[if_pos rfl,b6f hok (by omega) hn,if_pos hr]
     simp only[Option.bind_some]
     rw[if_neg (by simp)]
     exact hcat _ (by simp[encB])
    rw[if_neg c3]
    unfold b4k at u1
    simp only[Bool.or_eq_true,Bool.and_eq_true,decide_eq_true_eq] at u1
    by_cases c4:u=4
    ·subst c4
     rw[if_pos rfl,c2v hok (by omega) hn,if_pos ⟨by omega,hr⟩]
     simp only[Option.bind_some]
     rw[if_neg (by simp)]
     exact hcat _ (by simp[encB])
    rw[if_neg c4]
    obtain rfl:u=5:=by omega
    rw[if_pos rfl,c0s hok (by omega) hn,if_pos ⟨by omega,hr⟩]
    simp only[Option.bind_some]
    rw[if_neg (by simp)]
    exact hcat _ (by simp[encB])
   ·intro J hJ
    rw[b0h (p:=fun c=>(a3f n (c,())).bind fun r=>some r.1.1) (q:=isN) (fun v _=>rfl) (by omega) (by omega)]
    simp only[Option.bind_some]
    rw[a8k (by omega) (by omega)]
    cases ha:l.any isN with
    |false =>
     rw[if_neg (by simp)]
     exact hJ _ _ ⟨by unfold d4s;rw[ha];rfl,rfl⟩
    |true =>
     rw[if_pos rfl]
     refine a1n (st:=fun i=>((l.take i).map isN,(i:Int))) l.length (by simp) ?_ ?_ (by omega)
     ·intro rec i hi
      dsimp only
      rw[if_pos (by simp <;> omega),a0c hi,Int.toNat_natCast,a0h hi]
      unfold a3f
      simp only[Option.bind_some]
      rw[if_pos (by simp <;> omega),a0e (by omega),map_take _ hi]
      rfl
     ·intro rec
      dsimp only
      rw[if_neg (by simp),List.take_length,if_pos (by simp),c0p (by simp <;> omega) (by simp <;> omega)]
      simp only[Option.bind_some]
      have hnl:=b3b (l.map isN)
      rw[List.length_map] at hnl
      rw[if_pos (by simp <;> omega),if_pos (by simp <;> omega)]
      exact hJ _ _ ⟨by unfold d4s;rw[ha];rfl,rfl⟩
def b8p(t m:Int)(b:List Int)(l:List Vl)(e:Int):Prop:=0≤m∧m≤1000∧(l.length:Int)=m∧b3j e t=some e∧(∀v,v∈l→a6w t v=true)∧(∀v,v∈l→okV v)∧colB e t l=b
theorem b8p.uniq{t m e e':Int}{b:List Int}{l l':List Vl}(h:b8p t m b l e)(h':b8p t m b l' e'):l=l'∧e=e':=by
 obtain⟨_,_,g3,g4,g5,g6,g7⟩:=h
 obtain⟨_,_,k3,k4,k5,k6,k7⟩:=h'
 obtain⟨u1,u2,u3,_⟩:=b0z g4
 obtain⟨h1,h2,_⟩:=e4k u1 ⟨u2,u3⟩ g5 g6 k5 k6 (by omega) (s:=[]) (by rw[List.append_nil,g7,k7])
 exact⟨h2,h1⟩
def f7n(t m:Int)(b:List Int)(y:(List Vl×Int×Bool×Unit)×Unit):Prop:=(∃l e,y=((l,e,true,()),())∧b8p t m b l e)∨(y=(([],0,false,()),())∧∀l e,¬b8p t m b l e)
theorem b1i{t m e:Int}{b:List Int}{l:List Vl}(h:b8p t m b l e):b.getD 0 0=e∧2≤b.length∧b.getD 1 0=(if l.any isN then 1 else 0)∧b.drop 2=(if l.any isN then b7g (l.map isN)++encB e t (a6o l) else encB e t (a6o l)):=by
 obtain⟨_,_,_,_,_,_,rfl⟩:=h
 unfold colB
 split <;> simp
theorem g2s:okV ((0:Int),(0:Int),[],()):=by unfold okV;decide
theorem c3g{n:Nat}{t m:Int}{b:List Int}(ht:-9223372036854775808≤t∧t≤9223372036854775807)(hb:a4a b)(hl:b.length<1000000)(hn:1000000≤n) :
  Gets (a7x n (t,m,b,())) (f7n t m b):=by
 have hro:=a2k
 have bad:(∀l e,¬b8p t m b l e)→Gets (some ((([]:List Vl),(0:Int),false,()),())) (f7n t m b):=fun h=>Gets.some (.inr ⟨rfl,h⟩)
 unfold a7x
 dsimp only
 by_cases h1:m<0
 ·rw[if_pos (by simpa using h1)]
  exact bad fun l e hg=>by have:=hg.1;omega
 rw[if_neg (by simpa using h1)]
 by_cases h2:1000<m
 ·rw[if_pos (by simpa using h2)]
  exact bad fun l e hg=>by have:=hg.2.1;omega
 rw[if_neg (by simpa using h2)]
 obtain⟨M,rfl⟩:∃M:Nat,m=(M:Int):=⟨_,(Int.toNat_of_nonneg (by omega)).symm⟩
 by_cases h3:b.length<2
 ·rw[if_pos (by simp <;> omega)]
  exact bad fun l e hg=>by have:=(b1i hg).2.1;omega
 rw[if_neg (by simp <;> omega)]
 unfold a3t
 simp only[Option.bind_some]
 obtain⟨e,he1,he2,_⟩:=hb.get (i:=0) (by omega)
 have e0:((0:Int)).toNat=0:=rfl
 rw[a2b (by omega) (by omega),if_pos (by omega),if_pos (by omega),e0,he1,a2a (x:=e) (by omega)]
 have hE:∀l e',b8p t (M:Int) b l e'→e'=(e:Int):=fun l e' hg=>by rw[←(b1i hg).1,he1]
 refine Gets.join (I:=fun s:List Int×List Bool=>a4a s.1∧s.1.length<1000000∧s.2.length≤1000∧∀l e',b8p t (M:Int) b l e'→s.2=l.map isN∧s.1=encB (e:Int) t (a6o l)) ?_ ?_
 ·rintro⟨rest,set⟩ ⟨r1,r2,r3,r4⟩
  dsimp only at r1 r2 r3 r4 ⊢
  by_cases h5:1≤e∧e≤5
  rotate_left
  ·rw[if_pos]
   ·refine bad fun l e' hg=>?_
    have h6:=hE l e' hg
    obtain⟨_,_,_,u4,u5,_⟩:=b0z hg.2.2.2.1
    omega
   ·simp only[Bool.not_eq_true',Bool.or_eq_false_iff,decide_eq_false_iff_not]
    repeat' apply And.intro
    all_goals first|trivial|omega
  rw[if_neg (by
   simp only[Bool.not_eq_true',Bool.or_eq_false_iff,decide_eq_false_iff_not]
   omega)]
  by_cases h6:set.length=M
  rotate_left
  ·rw[if_pos (by simp <;> omega)]
   refine bad fun l e' hg=>?_
   have h7:=congrArg List.length (r4 l e' hg).1
   have:=hg.2.2.1
   simp at h7
   omega
  rw[if_neg (by simp <;> omega),c6x (by omega) (by omega)]
  simp only[Option.bind_some]
  have hcl:=List.countP_le_length (p:=fun b:Bool=>b) (l:=set)
  obtain⟨cnt,hcnt⟩:∃cnt,set.countP (fun b=>b)=cnt:=⟨_,rfl⟩
  rw[hcnt] at hcl ⊢
  have hw:IntKind.i64.wrap ((M:Int) - (cnt:Int))=((M - cnt:Nat):Int):=by
   rw[show((M:Int) - (cnt:Int))=((M - cnt:Nat):Int) by omega,a2a (by omega)]
  rw[hw]
  have hE2:∀l e',b8p t (M:Int) b l e'→a8w (e:Int) t ((M - cnt:Nat):Int) rest (a6o l):=by
   intro l e' hg
   obtain⟨q1,q2⟩:=r4 l e' hg
   have h7:=hE l e' hg
   obtain⟨g1,g2,g3,g4,g5,g6,g7⟩:=hg
   obtain⟨u1,u2,u3,_⟩:=b0z g4
   have h8:=b2m l
   rw[←q1,hcnt] at h8
   subst h7
   exact⟨by omega,by omega,by omega,u1,b0g ⟨u2,u3⟩ g5,b4e g6,q2.symm⟩
  have tail:∀sm,a8w (e:Int) t ((M - cnt:Nat):Int) rest sm→Gets (a0x (fun rec27 (s26:(List (Int×Int×List Int×Unit))×(List (Int×Int×List Int×Unit))×Int)=>(if(decide (s26.2.2<(set.length:Int)))=true then(atI s26.2.2 set.length (if(set.getD s26.2.2.toNat false)=true then(if(s26.1.length+([((0:Int),(0:Int),[],())]:List (Int×Int×List Int×Unit)).length)*32≤room then(rec27 ((s26.1++([((0:Int),(0:Int),[],())]:List (Int×Int×List Int×Unit))),s26.2.1,(IntKind.i64.wrap (s26.2.2+1)))) else none) else(atI (0:Int) s26.2.1.length (if(s26.1.length+([(s26.2.1.getD 0 ((0:Int),(0:Int),[],()))]:List (Int×Int×List Int×Unit)).length)*32≤room then(if 0≤(1:Int)∧(1:Int)≤(s26.2.1.length:Int) then(rec27 ((s26.1++([(s26.2.1.getD 0 ((0:Int),(0:Int),[],()))]:List (Int×Int×List Int×Unit))),((s26.2.1.take (s26.2.1.length:Int).toNat).drop (1:Int).toNat),(IntKind.i64.wrap (s26.2.2+1)))) else none) else none)))) else(atI (0:Int) b.length ((a2h n ((e:Int),t,s26.1,())).bind fun y28=>(if(!y28.1.2.1)=true then(some (([],(0:Int),false,()),())) else((a0d n (y28.1.1,b,())).bind fun y29=>(if(!y29.1.1)=true then(some (([],(0:Int),false,()),())) else(atI (0:Int) b.length (some ((y28.2.1,(e:Int),true,()),())))))))))) n ([],sm,(0:Int))) (f7n t (M:Int) b):=by
   intro sm hsm
   obtain⟨p1,p2,p3,p4,p5,p6,p7⟩:=hsm
   have hgl:∀l e',b8p t (M:Int) b l e'→mixV set sm=l:=by
    intro l e' hg
    obtain⟨q1,q2⟩:=r4 l e' hg
    have:=(hE2 l e' hg).uniq ⟨p1,p2,p3,p4,p5,p6,p7⟩
    rw[q1,←this]
    exact c3q hg.2.2.2.2.1
   refine Gets.iter (I:=fun s:List Vl×List Vl×Int=>∃(acc r:List Vl) (i:Nat),s=(acc,r,(i:Int))∧i≤set.length∧acc.length=i∧acc++mixV (set.drop i) r=mixV set sm∧r.length+(set.drop i).countP (fun b=>b)=(set.drop i).length∧(∀v,v∈acc→okV v)∧∀v,v∈r→okV v)
    (μ:=fun s=>set.length - s.2.2.toNat) ⟨[],sm,0,rfl,by omega,rfl,by simp,by rw[List.drop_zero,hcnt];omega,by simp,p6⟩ (by simp <;> omega) ?_
   rintro rec _ ⟨acc,r,i,rfl,k1,k2,k3,k4,k5,k6⟩ hrec
   dsimp only
   by_cases hi:i<set.length
   ·rw[if_pos (by simp <;> omega),a0c hi,Int.toNat_natCast,a0h hi,a0e (by omega)]
    have hd:=List.drop_eq_getElem_cons hi
    rw[hd] at k3 k4
    have hdl:(set.drop (i+1)).length=set.length - (i+1):=by simp
    by_cases hx:set[i]=true
    ·rw[hx] at k3 k4
     have hc1:List.countP (fun b=>b) (true::set.drop (i+1))=List.countP (fun b=>b) (set.drop (i+1))+1:=by rw[List.countP_cons];rfl
     rw[if_pos hx,if_pos (by simp <;> omega)]
     refine hrec _ ⟨acc++[((0:Int),(0:Int),[],())],r,i+1,rfl,by omega,by simp <;> omega,by rw[←k3];simp[mixV],by rw[hc1,List.length_cons] at k4;omega,?_,k6⟩ (by simp <;> omega)
     intro v hv
     rcases List.mem_append.1 hv with hv|hv
     ·exact k5 v hv
     ·simp at hv;subst hv;exact g2s
    ·have hx':set[i]=false:=by simpa using hx
     rw[hx'] at k3 k4
     have hc1:List.countP (fun b=>b) (false::set.drop (i+1))=List.countP (fun b=>b) (set.drop (i+1)):=by rw[List.countP_cons];rfl
     rw[hc1,List.length_cons] at k4
     have hcl2:=List.countP_le_length (p:=fun b:Bool=>b) (l:=set.drop (i+1))
     cases r with
     |nil=>simp at k4;omega
     |cons v r =>
      have hrl:(v::r).length≤set.length:=by omega
      rw[if_neg hx,a2b (by omega) (by simp <;> omega),if_pos (by simp <;> omega),if_pos (by simp <;> omega)]
      simp only[Int.toNat_natCast,List.take_length]
      have e1:(v::r).getD 0 ((0:Int),(0:Int),[],())=v:=rfl
      have e2:(v::r).drop ((1:Int)).toNat=r:=rfl
      rw[e1,e2]
      refine hrec _ ⟨acc++[v],r,i+1,rfl,by omega,by simp <;> omega,by rw[←k3];simp[mixV],by simp at k4;omega,?_,fun x hx=>k6 x (List.mem_cons_of_mem _ hx)⟩ (by simp <;> omega)
      intro x hx
      rcases List.mem_append.1 hx with hx|hx
      ·exact k5 x hx
      ·simp at hx;subst hx;exact k6 _ (by simp)
   ·obtain rfl:i=set.length:=by omega
    have hacc:acc=mixV set sm:=by
     rw[←k3,List.drop_length];simp[mixV]
    rw[if_neg (by simp),a2b (by omega) (by omega)]
    unfold a2h
    dsimp only
    rw[b8a k5 (by omega) (by omega)]
    simp only[Option.map_some,Option.bind_some]
    have hgood':∀l e',b8p t (M:Int) b l e'→b8r (e:Int) t acc=some b:=by
     intro l e' hg
     have h7:=hE l e' hg
     have h8:=hgl l e' hg
     rw[hacc,h8]
     obtain⟨g1,g2,g3,g4,g5,g6,g7⟩:=hg
     unfold b8r
     rw[h7] at g4 g7
     rw[g4]
     dsimp only
     rw[if_pos (List.all_eq_true.2 g5),g7]
    cases hp:b8r (e:Int) t acc with
    |none =>
     dsimp only
     rw[if_pos (by simp)]
     refine bad fun l e' hg=>?_
     have:=hgood' l e' hg
     rw[hp] at this
     cases this
    |some c =>
     dsimp only
     rw[if_neg (by simp)]
     unfold a0d
     simp only[Option.bind_some]
     by_cases hq:c=b
     ·rw[if_neg (by simp[hq]),a2b (by omega) (by omega)]
      unfold b8r at hp
      cases hu:b3j (e:Int) t with
      |none=>rw[hu] at hp;cases hp
      |some u =>
       rw[hu] at hp
       dsimp only at hp
       split at hp
       ·rename_i hall
        simp only[Option.some.injEq] at hp
        have hue:u=(e:Int):=by
         obtain⟨rr,hr1,_⟩:=f2f u t acc
         rw[hp,hq] at hr1
         rw[hr1] at he1
         simpa using he1
        subst hue
        refine Gets.some (.inl ⟨acc,_,rfl,by omega,by omega,by omega,hu,List.all_eq_true.1 hall,k5,by rw[hp,hq]⟩)
       ·cases hp
     ·rw[if_pos (by simp[hq])]
      refine bad fun l e' hg=>?_
      have:=hgood' l e' hg
      rw[hp] at this
      exact hq (Option.some.inj this)
  by_cases c1:e=1
  ·subst c1
   rw[if_pos (show((1:Nat):Int)=1 from rfl)]
   refine Gets.bind (c5j (m:=((M - cnt:Nat):Int)) ht r1 r2 (by omega)) ?_
   rintro y (⟨sm,rfl,hg⟩|⟨rfl,hno⟩)
   ·rw[if_neg (by simp)];exact tail sm hg
   ·rw[if_pos (by simp)];exact bad fun l e' hg=>hno _ (hE2 l e' hg)
  rw[if_neg (by omega)]
  by_cases c2:e=2
  ·subst c2
   rw[if_pos (show((2:Nat):Int)=2 from rfl)]
   refine Gets.bind (c9e (m:=((M - cnt:Nat):Int)) ht r1 r2 (by omega)) ?_
   rintro y (⟨sm,rfl,hg⟩|⟨rfl,hno⟩)
   ·rw[if_neg (by simp)];exact tail sm hg
   ·rw[if_pos (by simp)];exact bad fun l e' hg=>hno _ (hE2 l e' hg)
  rw[if_neg (by omega)]
  by_cases c3:e=3
  ·subst c3
   rw[if_pos (show((3:Nat):Int)=3 from rfl)]
   refine Gets.bind (c5f (m:=((M - cnt:Nat):Int)) ht r1 r2 (by omega)) ?_
   rintro y (⟨sm,rfl,hg⟩|⟨rfl,hno⟩)
   ·rw[if_neg (by simp)];exact tail sm hg
   ·rw[if_pos (by simp)];exact bad fun l e' hg=>hno _ (hE2 l e' hg)
  rw[if_neg (by omega)]
  by_cases c4:e=4
  ·subst c4
   rw[if_pos (show((4:Nat):Int)=4 from rfl)]
   refine Gets.bind (c6s (m:=((M - cnt:Nat):Int)) ht r1 r2 (by omega)) ?_
   rintro y (⟨sm,rfl,hg⟩|⟨rfl,hno⟩)
   ·rw[if_neg (by simp)];exact tail sm hg
   ·rw[if_pos (by simp)];exact bad fun l e' hg=>hno _ (hE2 l e' hg)
  rw[if_neg (by omega)]
  obtain rfl:e=5:=by omega
  rw[if_pos (show((5:Nat):Int)=5 from rfl)]
  refine Gets.bind (c4u (m:=((M - cnt:Nat):Int)) ht r1 r2 (by omega)) ?_
  rintro y (⟨sm,rfl,hg⟩|⟨rfl,hno⟩)
  ·rw[if_neg (by simp)];exact tail sm hg
  ·rw[if_pos (by simp)];exact bad fun l e' hg=>hno _ (hE2 l e' hg)
 ·intro J hJ
  obtain⟨f,hf1,hf2,_⟩:=hb.get (i:=1) (by omega)
  have e1:((1:Int)).toNat=1:=rfl
  have e2:((2:Int)).toNat=2:=rfl
  have hmany:IntKind.i64.wrap ((IntKind.i64.wrap ((M:Int)+7)).tdiv (8:Int))=(((M+7) / 8:Nat):Int):=by
   rw[show((M:Int)+7)=((M+7:Nat):Int) by omega,a2a (by omega),show((8:Int))=((8:Nat):Int) from rfl,b2b,a2a (by omega)]
  simp only[hmany,Int.toNat_natCast,List.take_length,e1,e2,e0,List.drop_zero,a2b (show(0:Int)≤1 by omega) (show(1:Int)<(b.length:Int) by omega),hf1]
  have plain:(∀l e',b8p t (M:Int) b l e'→l.any isN=false)→Gets (J (b.drop 2,List.replicate M false)) (f7n t (M:Int) b):=by
   intro h
   refine hJ _ ⟨hb.drop _,by simp <;> omega,by simp <;> omega,fun l e' hg=>?_⟩
   have h7:=(b1i hg).2.2.2
   have h8:=h l e' hg
   rw[h8] at h7
   have h9:=b5r h8
   have:=hg.2.2.1
   dsimp only
   rw[h9,h7,hE l e' hg]
   exact⟨by congr 1;omega,rfl⟩
  by_cases h7:f=1
  ·subst h7
   rw[if_pos (by simp)]
   by_cases h8:(M+7) / 8≤(b.drop 2).length
   ·rw[if_pos (by simp only[decide_eq_true_eq];omega),if_pos (by omega),c8h ((hb.drop _).take _) (by simp <;> omega) (by omega)]
    simp only[Option.bind_some]
    rw[if_pos (by omega)]
    refine hJ _ ⟨(hb.drop _).drop _,by simp <;> omega,?_,fun l e' hg=>?_⟩
    ·unfold c3c
     split
     ·dsimp only;rw[b2r];simp <;> omega
     ·simp
    ·have h10:=(b1i hg).2.2.1
     rw[hf1] at h10
     have h11:l.any isN=true:=by
      cases h:l.any isN with
      |true=>rfl
      |false=>rw[h] at h10;simp at h10
     have h12:=(b1i hg).2.2.2
     rw[h11,if_pos rfl] at h12
     have h13:=b3b (l.map isN)
     rw[List.length_map] at h13
     have h14:=hg.2.2.1
     have hlM:l.length=M:=by omega
     rw[hlM] at h13
     have h15:(b.drop 2).take ((M+7) / 8)=b7g (l.map isN):=by rw[h12,List.take_left' h13]
     have h16:(b.drop 2).drop ((M+7) / 8)=encB e' t (a6o l):=by rw[h12,List.drop_left' h13]
     dsimp only
     rw[h15,h16,hE l e' hg]
     refine⟨?_,rfl⟩
     have h17:=e8a (l.map isN)
     rw[List.length_map,hlM] at h17
     unfold c3c
     simp only[Int.toNat_natCast]
     rw[h17,if_pos ⟨by omega,by omega,h13,rfl⟩]
   ·rw[if_neg (by simp only[decide_eq_true_eq];omega)]
    refine plain fun l e' hg=>?_
    exfalso
    have h10:=(b1i hg).2.2.1
    rw[hf1] at h10
    have h11:l.any isN=true:=by
     cases h:l.any isN with
     |true=>rfl
     |false=>rw[h] at h10;simp at h10
    have h12:=(b1i hg).2.2.2
    rw[h11,if_pos rfl] at h12
    have h13:=b3b (l.map isN)
    rw[List.length_map] at h13
    have h14:=hg.2.2.1
    rw[h12,List.length_append] at h8
    omega
  ·rw[if_neg (by simp <;> omega)]
   refine plain fun l e' hg=>?_
   have h10:=(b1i hg).2.2.1
   rw[hf1] at h10
   cases h:l.any isN with
   |false=>rfl
   |true=>rw[h] at h10;simp at h10;omega
end Go.Rb.R5

namespace Go.Rb.R5
open Go.Rb
theorem b6z(n:Nat)(t:Int):a6n n (t,())=some ((((a3m t:Nat):Int),()),()):=by
 unfold a6n a3m
 dsimp only
 by_cases h1:t=1
 ·simp[h1]
 ·by_cases h2:t=2
  ·simp[h2]
  ·by_cases h3:t=3
   ·simp[h3]
   ·simp[h1,h2,h3]
theorem e1h(t:Int):a3m t≤8:=by
 unfold a3m;split <;> (try split) <;> (try split) <;> omega
theorem f3t:∀(w:Nat) (x:Int) (j:Nat),j<w→(bigB w x).take (j+1)=(bigB w x).take j++[(x / 256 ^ (w - 1 - j)) % 256]
 |0,_,_,h=>absurd h (Nat.not_lt_zero _)
 |w+1,x,0,_=>by simp[bigB]
 |w+1,x,j+1,h=>by
  rw[bigB,List.take_succ_cons,List.take_succ_cons,f3t w x j (by omega),List.cons_append]
  rw[show w+1 - 1 - (j+1)=w - 1 - j by omega]
theorem g5k(i:Nat):(2:Int) ^ (8*i)=256 ^ i:=by
 rw[Int.pow_mul];rfl
theorem f1s{x:Int}{i:Nat}(hi:i<8):IntKind.u8.wrap (x.fdiv (2 ^ min (IntKind.i64.wrap ((8:Int)*(i:Int))).toNat IntKind.i64.bits))=(x / 256 ^ i) % 256:=by
 rw[a0j (by omega) (by omega),c2s]
 have h1:((8:Int)*(i:Int)).toNat=8*i:=by omega
 have h2:min (8*i) IntKind.i64.bits=8*i:=by
  have:IntKind.i64.bits=64:=rfl
  omega
 rw[h1,h2,g5k,Int.fdiv_eq_ediv_of_nonneg _ (Int.le_of_lt (Int.pow_pos (by omega)))]
theorem c0v{n:Nat}{v:Vl}(hn:10≤n):b0q n (v,())=some ((if mayV v=true then valB v else[],()),()):=by
 have hro:=a2k
 unfold b0q
 rw[a2r]
 simp only[Option.bind_some]
 cases hm:mayV v with
 |false=>simp
 |true =>
  have hs:=c2e hm
  simp only[Bool.not_true,Bool.false_eq_true,if_false,if_true]
  unfold valB
  by_cases h4:v.1=4
  ·have hl:v.2.2.1.length≤20:=by omega
   rw[if_pos (by simpa using h4),if_pos (by simp <;> omega),if_pos (by simp <;> omega),if_pos h4,a8k (by omega) (by omega),a8k (by omega) (by omega)]
   simp
  ·have h8:=e1h v.1
   rw[if_neg (by simpa using h4),if_neg h4,b6z]
   simp only[Option.bind_some]
   refine a1n (fun j=>(v.1::(bigB (a3m v.1) v.2.1).take j,((a3m v.1:Nat):Int) - 1 - (j:Int))) (a3m v.1) ?_ ?_ ?_ (by omega)
   ·rw[a8k (by omega) (by omega),a0j (by omega) (by omega)]
    simp
   ·intro rec j hj
    dsimp only
    obtain⟨i,hi⟩:∃i:Nat,((a3m v.1:Nat):Int) - 1 - (j:Int)=(i:Int):=⟨a3m v.1 - 1 - j,by omega⟩
    have hii:i=a3m v.1 - 1 - j:=by omega
    rw[hi,if_pos (by simp <;> omega),if_neg (by rw[a0j (by omega) (by omega)];omega),f1s (by omega),if_pos (by simp <;> omega),a0j (by omega) (by omega),f3t _ _ _ hj,hii]
    congr 1
    have:((a3m v.1 - 1 - j:Nat):Int) - 1=((a3m v.1:Nat):Int) - 1 - ((j+1:Nat):Int):=by omega
    rw[this]
    simp
   ·intro rec
    dsimp only
    rw[if_neg (by simp <;> omega),List.take_of_length_le (by rw[b4c];exact Nat.le_refl _)]
theorem f3c{a c:Nat}(hc:c<256):bits .or .i64 (IntKind.i64.wrap (IntKind.i64.wrap (a:Int)*2 ^ min (8:Int).toNat IntKind.i64.bits)) (IntKind.i64.wrap (c:Int))=IntKind.i64.wrap ((a*256+c:Nat):Int):=by
 have h1:(2:Int) ^ min (8:Int).toNat IntKind.i64.bits=256:=by decide
 rw[h1,a0j (x:=(c:Int)) (by omega) (by omega)]
 unfold bits
 dsimp only
 have e1:BitVec.ofInt 64 (IntKind.i64.wrap (IntKind.i64.wrap (a:Int)*256))=BitVec.ofNat 64 (a*256):=by
  apply BitVec.eq_of_toNat_eq
  rw[BitVec.toNat_ofInt,BitVec.toNat_ofNat,a3i,a3i]
  have:((2 ^ 64:Nat):Int)=18446744073709551616:=rfl
  rw[this]
  have h3:((((((a:Int)+9223372036854775808) % 18446744073709551616 - 9223372036854775808)*256+9223372036854775808) % 18446744073709551616 - 9223372036854775808) % 18446744073709551616)=((a*256 % 2 ^ 64:Nat):Int):=by omega
  rw[h3];rfl
 have e2:BitVec.ofInt 64 (c:Int)=BitVec.ofNat 64 c:=by
  apply BitVec.eq_of_toNat_eq
  rw[BitVec.toNat_ofInt,BitVec.toNat_ofNat]
  have:((2 ^ 64:Nat):Int)=18446744073709551616:=rfl
  rw[this];omega
 show IntKind.i64.wrap (((BitVec.ofInt 64 (IntKind.i64.wrap (IntKind.i64.wrap (a:Int)*256)) ||| BitVec.ofInt 64 (c:Int)).toNat:Nat):Int)=_
 rw[e1,e2,BitVec.toNat_or,BitVec.toNat_ofNat,BitVec.toNat_ofNat,Nat.mod_eq_of_lt (a:=c) (by omega)]
 have h4:a*256 % 2 ^ 64=(a % 2 ^ 56)*2 ^ 8:=by omega
 rw[h4,←Nat.shiftLeft_eq,←Nat.shiftLeft_add_eq_or_of_lt (by omega:c<2 ^ 8),Nat.shiftLeft_eq,a3i,a3i]
 omega
def errV:UV:=UV.node b8i (.pair (.str [111,102,32,98,121,116,101,115]) (.pair (UV.sent a3d) .unit))
theorem d6j:decide (errV=UV.nil)=false:=by decide
theorem e5i{n:Nat}{b:List Int}{k:Nat}(h:b.length<k):a3b n (b,(k:Int),())=some (([],errV,()),()):=by
 unfold a3b
 dsimp only
 rw[if_pos (by simp <;> omega)];rfl
theorem e6g{n:Nat}{b:List Int}{k:Nat}(h:k≤b.length):a3b n (b,(k:Int),())=some ((b.take k,UV.nil,()),()):=by
 unfold a3b
 dsimp only
 rw[if_neg (by simp <;> omega),if_pos (by omega)]
 simp
theorem f8d:a0y 0 (errV,UV.sent a3d,())=some ((true,()),()):=by decide
theorem d9q:a0y 0 (UV.nil,UV.sent a3d,())=some ((false,()),()):=by decide
theorem c0f(n:Nat):a0y n (errV,UV.sent a3d,())=some ((true,()),()):=f8d
theorem e7a(n:Nat):a0y n (UV.nil,UV.sent a3d,())=some ((false,()),()):=d9q
def a2d:Vl:=((0:Int),(0:Int),[],())
theorem f7w{l:List Int}(h:a4a l):∃a:Nat,numT l=(a:Int):=⟨(numT l).toNat,by have:=(c4j h).1;omega⟩
theorem b7i{n:Nat}{b:List Int}(hb:a4a b)(hl:b.length<1000000)(hn:10≤n) :
  a9j n (b,())=some (match c4k b with|some (v,k)=>(v,(k:Int),true,())|none=>(a2d,0,false,()),()):=by
 unfold a9j b4a c4k
 cases b with
 |nil =>
  rw[show a3b n ([],(1:Int),())=_ from e5i (k:=1) (by simp)]
  simp only[Option.bind_some,d6j,Bool.not_false,if_true]
  rw[c0f]
  rfl
 |cons t r =>
  have ht0:=hb t (by simp)
  rw[show a3b n (t::r,(1:Int),())=_ from e6g (k:=1) (by simp)]
  simp only[Option.bind_some,decide_true,Bool.not_true,Bool.false_eq_true,if_false]
  rw[show(List.take 1 (t::r))=[t] by simp,a2b (by simp) (by simp)]
  simp only[show(0:Int).toNat=0 from rfl,List.getD_cons_zero]
  rw[a0j (x:=t) (by omega) (by omega)]
  by_cases h4:t=4
  ·subst h4
   rw[if_pos (by simp),if_pos rfl]
   cases r with
   |nil =>
    rw[show a3b n ([4],(2:Int),())=_ from e5i (k:=2) (by simp)]
    simp only[Option.bind_some,d6j,Bool.not_false,if_true]
    rw[c0f]
    rfl
   |cons m s =>
    have hm0:=hb m (by simp)
    rw[show a3b n (4::m::s,(2:Int),())=_ from e6g (k:=2) (by simp)]
    simp only[Option.bind_some,decide_true,Bool.not_true,Bool.false_eq_true,if_false]
    rw[show(List.take 2 (4::m::s))=[4,m] by simp,a2b (by simp) (by simp)]
    simp only[show(1:Int).toNat=1 from rfl,List.getD_cons_succ,List.getD_cons_zero]
    have hk:IntKind.i64.wrap ((2:Int)+IntKind.i64.wrap m)=((2+m.toNat:Nat):Int):=by
     rw[a0j (x:=m) (by omega) (by omega),a0j (by omega) (by omega)];omega
    rw[hk]
    by_cases hs:s.length<m.toNat
    ·rw[e5i (by simp;omega),if_pos hs]
     simp only[Option.bind_some,d6j,Bool.false_eq_true,if_false]
     rw[c0f]
     rfl
    ·rw[e6g (by simp;omega),if_neg hs]
     simp only[Option.bind_some,decide_true,if_true]
     have hlen:(List.take (2+m.toNat) (4::m::s)).length=2+m.toNat:=by rw[List.length_take];simp;omega
     rw[if_pos ⟨by omega,by rw[hlen];omega⟩]
     simp only[Option.bind_some]
     rw[e7a]
     simp only[Option.bind_some,Bool.false_eq_true,if_false]
     have hd:List.drop (2:Int).toNat (List.take ((List.take (2+m.toNat) (4::m::s)).length:Int).toNat (List.take (2+m.toNat) (4::m::s)))=s.take m.toNat:=by
      rw[Int.toNat_natCast,List.take_length,show(2:Int).toNat=2 from rfl,show 2+m.toNat=m.toNat+1+1 by omega,List.take_succ_cons,List.take_succ_cons]
      rfl
     rw[hd,a2r]
     simp only[Option.bind_some]
     by_cases h20:m≤20
     ·rw[if_pos h20]
      have:mayV ((4:Int),(0:Int),s.take m.toNat,())=true:=by
       unfold mayV
       simp only[Bool.or_eq_true,Bool.and_eq_true,decide_eq_true_eq]
       right
       exact⟨⟨trivial,trivial⟩,by rw[List.length_take];omega⟩
      rw[this]
      rfl
     ·rw[if_neg h20]
      have:mayV ((4:Int),(0:Int),s.take m.toNat,())=false:=by
       rw[Bool.eq_false_iff]
       intro h
       have:=c2e h
       have h7:(s.take m.toNat).length=m.toNat:=by rw[List.length_take];omega
       dsimp only at this
       omega
      rw[this]
      rfl
  ·have h8:=e1h t
   rw[if_neg (by simpa using h4),if_neg h4,b6z]
   simp only[Option.bind_some]
   have hk:IntKind.i64.wrap ((1:Int)+((a3m t:Nat):Int))=((1+a3m t:Nat):Int):=by
    rw[a0j (by omega) (by omega)];omega
   rw[hk]
   by_cases hs:r.length<a3m t
   ·rw[e5i (by simp;omega),if_pos hs]
    simp only[Option.bind_some,d6j,Bool.not_false,if_true]
    rw[c0f]
    rfl
   ·rw[e6g (by simp;omega),if_neg hs]
    simp only[Option.bind_some,decide_true,Bool.not_true,Bool.false_eq_true,if_false]
    have hlen:(List.take (1+a3m t) (t::r)).length=1+a3m t:=by rw[List.length_take];simp;omega
    have hd:List.drop (1:Int).toNat (List.take ((List.take (1+a3m t) (t::r)).length:Int).toNat (List.take (1+a3m t) (t::r)))=r.take (a3m t):=by
     rw[Int.toNat_natCast,List.take_length,show(1:Int).toNat=1 from rfl,Nat.add_comm 1,List.take_succ_cons]
     rfl
    rw[if_pos ⟨by omega,by rw[hlen];omega⟩,hd]
    have hq:∃q,q=r.take (a3m t):=⟨_,rfl⟩
    obtain⟨q,hq⟩:=hq
    rw[←hq]
    have hql:q.length=a3m t:=by rw[hq,List.length_take];omega
    have hqb:a4a q:=fun x hx=>hb x (List.mem_cons_of_mem _ (List.mem_of_mem_take (hq ▸ hx)))
    have hr:=c4j hqb
    rw[hql] at hr
    have hX:(if decide (t=(1:Int))=true then(some ((((t,IntKind.i64.wrap (IntKind.i16.wrap (IntKind.i64.wrap (numT q))),[],()):Vl),((1+a3m t:Nat):Int),UV.nil,()),()):Option ((Vl×Int×UV×Unit)×Unit)) else some ((((t,IntKind.i64.wrap (numT q),[],()):Vl),((1+a3m t:Nat):Int),UV.nil,()),())) =
      some ((((t,numV t (numT q),[],()):Vl),((1+a3m t:Nat):Int),UV.nil,()),()):=by
     unfold a3m at hr
     unfold numV
     by_cases h1:t=1
     ·rw[if_pos (by simpa using h1),if_pos h1]
      rw[if_pos h1] at hr
      have h6:=f4y (numT q)
      rw[a0j (x:=numT q) (by omega) (by omega),a0j (x:=IntKind.i16.wrap (numT q)) (by omega) (by omega)]
     ·rw[if_neg (by simpa using h1),if_neg h1]
      rw[if_neg h1] at hr
      by_cases h2:t=2
      ·rw[if_pos h2]
      ·rw[if_neg h2] at hr ⊢
       have:numT q<256:=by split at hr <;> omega
       rw[a0j (x:=numT q) (by omega) (by omega)]
    rw[a1n (r:=some ((((t,numV t (numT q),[],()):Vl),((1+a3m t:Nat):Int),UV.nil,()),())) (fun j=>((t,IntKind.i64.wrap (numT (q.take j)),[],()),(j:Int))) q.length (by show((t,IntKind.i64.wrap 0,[],()),_)=_;rfl) ?_ ?_ (by omega)]
    ·simp only[Option.bind_some]
     rw[e7a]
     simp only[Option.bind_some,Bool.false_eq_true,if_false]
     rw[a2r]
     simp only[Option.bind_some]
     cases mayV (t,numV t (numT q),[],()) with
     |true=>rfl
     |false=>rfl
    ·intro rec j hj
     dsimp only
     rw[if_pos (by simp <;> omega),a0c hj,Int.toNat_natCast,a0e (by omega)]
     obtain⟨c,hc1,hc2,hc3⟩:=hqb.get hj
     obtain⟨a,ha⟩:=f7w (l:=q.take j) fun x hx=>hqb x (List.mem_of_mem_take hx)
     rw[hc1,ha,f3c hc2]
     congr 1
     rw[List.take_succ_eq_append_getElem hj,f0u,ha,hc3,show((a*256+c:Nat):Int)=(a:Int)*256+(c:Int) by omega]
    ·intro rec
     dsimp only
     rw[if_neg (by simp),List.take_length]
     exact hX
theorem c1g{n:Nat}{ls:List (List Int)}(hn:ls.length<n)(hc:ls.length<1000000)(hl:ls.flatten.length<1000000):a0n n (ls,())=some ((ls.flatten,()),()):=by
 have hro:=a2k
 have hpre:∀i,i≤ls.length→(ls.take i).flatten.length≤ls.flatten.length:=by
  intro i _
  have:ls.flatten=(ls.take i).flatten++(ls.drop i).flatten:=by rw[←List.flatten_append,List.take_append_drop]
  rw[this,List.length_append];omega
 have hstep:∀i (hi:i<ls.length),(ls.take (i+1)).flatten=(ls.take i).flatten++ls[i]:=by
  intro i hi
  rw[List.take_succ_eq_append_getElem hi,List.flatten_append];simp
 unfold a0n a2u
 dsimp only
 refine a1n (fun i=>((((ls.take i).flatten.length:Nat):Int),(i:Int))) ls.length (by simp) ?_ ?_ hn
 ·intro rec i hi
  have h1:=hpre (i+1) hi
  rw[hstep i hi,List.length_append] at h1
  dsimp only
  rw[if_pos (by simp <;> omega),a0c hi,Int.toNat_natCast,a0h hi,a0j (x:=((ls.take i).flatten.length:Int)+(ls[i].length:Int)) (by omega) (by omega),if_neg (by simp <;> omega),a0e (by omega),hstep i hi,List.length_append]
  congr 1
 ·intro rec
  dsimp only
  rw[if_neg (by simp),List.take_length]
  unfold f7s
  dsimp only
  rw[if_pos (by omega)]
  simp only[Option.bind_some]
  refine a1n (fun i=>((ls.take i).flatten,(i:Int))) ls.length (by simp) ?_ ?_ hn
  ·intro rec i hi
   have h1:=hpre (i+1) hi
   rw[hstep i hi,List.length_append] at h1
   dsimp only
   rw[if_pos (by simp <;> omega),a0c hi,Int.toNat_natCast,a0h hi,if_pos (by omega),a0e (by omega),hstep i hi]
  ·intro rec
   dsimp only
   rw[if_neg (by simp),List.take_length]
theorem d4w{n:Nat}{z:Zn}(h:mayZ z)(hn:10≤n):a9h n (z,())=some ((b2c z,()),()):=by
 have hlz:=d8d h
 obtain⟨h1,h2,h3,h4,h5,h6⟩:=h
 unfold a9h
 dsimp only
 rw[if_neg (by simp <;> omega),a2r]
 simp only[Option.bind_some,h3,Bool.not_true,Bool.false_eq_true,if_false]
 rw[a2r]
 simp only[Option.bind_some,h5,Bool.not_true,Bool.false_eq_true,if_false]
 obtain⟨u,hu⟩:∃u:Nat,z.1=(u:Int):=⟨z.1.toNat,by omega⟩
 have hput:a2o n (IntKind.u64.wrap z.1,())=some ((putN z.1.toNat,()),()):=by
  rw[hu,a7a (by omega),a6i (by omega) hn,Int.toNat_natCast]
 rw[hput]
 simp only[Option.bind_some]
 rw[c0v hn]
 simp only[Option.bind_some,h3,if_true]
 rw[c0v hn]
 simp only[Option.bind_some,h5,if_true]
 unfold b2c at hlz ⊢
 have hfl:[putN z.1.toNat,valB z.2.1,valB z.2.2.1].flatten=putN z.1.toNat++(valB z.2.1++valB z.2.2.1):=by simp
 rw[c1g (by simp;omega) (by simp) (by rw[hfl];omega),hfl]
 simp only[Option.bind_some]
def c0k:Zn:=((0:Int),a2d,a2d,())
theorem d1x{n:Nat}{b:List Int}(hb:a4a b)(hl:b.length<1000000)(hn:11≤n) :
  b3a n (b,())=some (match c2t b with|some (z,k)=>(z,(k:Int),true,())|none=>(c0k,0,false,()),()):=by
 unfold b3a c2t
 rw[a4e hb hl hn]
 simp only[Option.bind_some]
 cases hN:a5a b with
 |none=>rfl
 |some p =>
  obtain⟨u,k⟩:=p
  obtain⟨hu,hk,_⟩:=a4q hb hN
  dsimp only
  simp only[Bool.not_true,Bool.false_eq_true,if_false]
  by_cases h63:9223372036854775808≤u
  ·rw[if_pos h63,if_pos (by rw[a3i];simp;omega)]
   rfl
  rw[if_neg h63,a0j (x:=(u:Int)) (by omega) (by omega),if_neg (by simp <;> omega),if_pos (by omega),Int.toNat_natCast,Int.toNat_natCast,List.take_length,
   b7i (fun x hx=>hb x (List.mem_of_mem_drop hx)) (by simp;omega) (by omega)]
  simp only[Option.bind_some]
  cases hV:c4k (b.drop k) with
  |none=>rfl
  |some p =>
   obtain⟨v,j⟩:=p
   have hj:=(c2j hV).2
   rw[List.length_drop] at hj
   dsimp only
   simp only[Bool.not_true,Bool.false_eq_true,if_false]
   rw[a0j (x:=(k:Int)+(j:Int)) (by omega) (by omega),if_pos (by omega),show((k:Int)+(j:Int)).toNat=k+j by omega,
    b7i (fun x hx=>hb x (List.mem_of_mem_drop hx)) (by simp;omega) (by omega)]
   simp only[Option.bind_some]
   cases hW:c4k (b.drop (k+j)) with
   |none=>rfl
   |some p =>
    obtain⟨v',j'⟩:=p
    have hj':=(c2j hW).2
    rw[List.length_drop] at hj'
    dsimp only
    simp only[Bool.not_true,Bool.false_eq_true,if_false]
    rw[a0j (x:=(k:Int)+(j:Int)+(j':Int)) (by omega) (by omega)]
    simp only[Option.some.injEq,Prod.mk.injEq,and_true,true_and]
    omega
end Go.Rb.R5

namespace Go.Rb.R5
open Go.Rb
theorem d0d(n:Nat)(e t:Int):a9a n (e,t,())=some (match b3j e t with|some u=>(u,true,())|none=>(0,false,()),()):=by
 unfold a9a b3j
 dsimp only
 rw[c3y]
 simp only[Option.bind_some]
 by_cases h1:1≤t∧t≤4
 rotate_left
 ·have:isT t=false:=by
   cases h:isT t with
   |false=>rfl
   |true=>exact absurd (f0m.1 h) h1
  rw[this,if_pos (by simp),if_neg (by omega)]
 rw[f0m.2 h1,if_neg (by simp)]
 by_cases h3:e<1
 ·rw[if_pos (by simpa using h3),if_neg (by omega)]
 rw[if_neg (by simpa using h3)]
 by_cases h4:5<e
 ·rw[if_pos (by simpa using h4),if_neg (by omega)]
 rw[if_neg (by simpa using h4)]
 have ht:t=1∨t=2∨t=3∨t=4:=by omega
 have he:e=5∨e=4∨e=3∨e=2∨e=1:=by omega
 rcases he with rfl|rfl|rfl|rfl|rfl <;> rcases ht with rfl|rfl|rfl|rfl <;> decide
end Go.Rb.R5

namespace Go.Rb.R5
open Go.Rb
def b7f(v:Vl):Int:=if v.1=0 then 0 else if v.1=4 then 2 else 1
def cmpG(x y:Vl):Int:=if b7f x=b7f y then(if x.1=0 then 0 else if x.1=4 then cmpI x.2.2.1 y.2.2.1 else cmpZ x.2.1 y.2.1) else cmpZ (b7f x) (b7f y)
theorem b7m(n:Nat)(v:Vl):a7n n (v,())=some ((b7f v,()),()):=by
 unfold a7n b7f
 dsimp only
 by_cases h1:v.1=0
 ·simp[h1]
 ·by_cases h2:v.1=4 <;> simp[h1,h2]
theorem e8v(n:Nat)(x y:Int):a4o n (x,y,())=some ((cmpZ x y,()),()):=by
 unfold a4o a5s cmpZ
 dsimp only
 simp only[decide_true,Bool.not_true,Bool.false_eq_true,if_false,Option.bind_some]
 by_cases h1:x<y
 ·simp[h1]
 ·by_cases h2:y<x <;> simp[h1,h2]
theorem d7m(n:Nat)(x y:Int):a3j n (x,y,())=some ((cmpZ x y,()),()):=by
 unfold a3j a4n cmpZ
 dsimp only
 simp only[decide_true,Bool.not_true,Bool.false_eq_true,if_false,Option.bind_some]
 by_cases h1:x<y
 ·simp[h1]
 ·by_cases h2:y<x <;> simp[h1,h2]
theorem d8x{x y:Int}:cmpZ x y=0↔x=y:=by
 unfold cmpZ;split
 ·constructor <;> intro h <;> omega
 ·split <;> constructor <;> intro h <;> omega
theorem a6r(n:Nat)(x y:Vl):a1j n (x,y,())=some ((cmpG x y,()),()):=by
 unfold a1j
 rw[b7m]
 simp only[Option.bind_some]
 rw[b7m]
 simp only[Option.bind_some]
 rw[e8v]
 simp only[Option.bind_some]
 unfold cmpG
 by_cases h:b7f x=b7f y
 ·rw[if_pos h]
  have h0:=d8x.2 h
  rw[if_neg (by simp[h0]),h0]
  by_cases h1:x.1=0
  ·simp[h1]
  ·by_cases h2:x.1=4
   ·rw[if_neg (by simpa using h1),if_pos (by simpa using h2),if_neg h1,if_pos h2]
    unfold a5u a2j csF
    simp
   ·rw[if_neg (by simpa using h1),if_neg (by simpa using h2),if_neg h1,if_neg h2,d7m]
    simp
 ·rw[if_neg h,if_pos (by simpa using fun q=>h (d8x.1 q))]
theorem d9h(x y:Int):cmpZ y x=-cmpZ x y:=by
 unfold cmpZ
 by_cases h1:x<y
 ·rw[if_neg (by omega),if_pos h1,if_pos h1];rfl
 ·by_cases h2:y<x
  ·rw[if_pos h2,if_neg h1,if_pos h2]
  ·rw[if_neg h2,if_neg h1,if_neg h1,if_neg h2];rfl
theorem d8h:∀x y:List Int,cmpI y x=-cmpI x y
 |[],[]=>rfl
 |[],_::_=>rfl
 |_::_,[]=>rfl
 |a::x,b::y=>by
  unfold cmpI
  by_cases h1:a<b
  ·rw[if_neg (by omega),if_pos h1,if_pos h1];rfl
  ·by_cases h2:b<a
   ·rw[if_pos h2,if_neg h1,if_pos h2]
   ·rw[if_neg h2,if_neg h1,if_neg h1,if_neg h2];exact d8h x y
theorem e1e(x y:Vl):cmpG y x=-cmpG x y:=by
 unfold cmpG
 by_cases h:b7f x=b7f y
 ·rw[if_pos h.symm,if_pos h]
  have h1:x.1=0↔y.1=0:=by
   unfold b7f at h
   constructor <;> intro q <;> simp only[q,if_true] at h <;> (split at h <;> (try split at h)) <;> omega
  have h2:x.1=4↔y.1=4:=by
   unfold b7f at h
   constructor <;> intro q <;> simp only[q,if_true] at h <;> (split at h <;> (try split at h)) <;> omega
  by_cases h3:x.1=0
  ·rw[if_pos (h1.1 h3),if_pos h3];rfl
  ·rw[if_neg (fun q=>h3 (h1.2 q)),if_neg h3]
   by_cases h4:x.1=4
   ·rw[if_pos (h2.1 h4),if_pos h4];exact d8h _ _
   ·rw[if_neg (fun q=>h4 (h2.2 q)),if_neg h4];exact d9h _ _
 ·rw[if_neg (fun q=>h q.symm),if_neg h];exact d9h _ _
def minF(m v:Vl):Vl:=if cmpG v m<0 then v else m
def maxF(m v:Vl):Vl:=if 0<cmpG v m then v else m
def a6h(l:List Vl):Zn:=match a6o l with
 |[]=>((l.length:Int),a2d,a2d,())
 |v::r=>((l.length:Int) - ((v::r).length:Int),(v::r).foldl minF v,(v::r).foldl maxF v,())
theorem c8a{f:Vl→Vl→Vl}(hf:∀a b,f a b=a∨f a b=b):∀(l:List Vl) (a:Vl),l.foldl f a=a∨l.foldl f a∈l
 |[],a=>.inl rfl
 |b::l,a=>by
  rw[List.foldl_cons]
  rcases c8a hf l (f a b) with h|h
  ·rw[h]
   rcases hf a b with h|h <;> rw[h]
   ·exact .inl rfl
   ·exact .inr (by simp)
  ·exact .inr (List.mem_cons_of_mem _ h)
theorem g2g(a b:Vl):minF a b=a∨minF a b=b:=by unfold minF;split <;> simp
theorem g0v(a b:Vl):maxF a b=a∨maxF a b=b:=by unfold maxF;split <;> simp
theorem d8y:mayV a2d=true:=by decide
theorem e4q:okV a2d:=by unfold okV a2d;decide
theorem e9e{l:List Vl}(hl:l.length<1000000)(h:∀v,v∈l→mayV v=true∧okV v):mayZ (a6h l):=by
 have hs:=b8x l
 unfold a6h
 split
 ·exact⟨by dsimp only;omega,by dsimp only;omega,d8y,e4q,d8y,e4q⟩
 ·rename_i v r hv
  rw[hv] at hs
  have hm:∀x,x∈v::r→mayV x=true∧okV x:=fun x hx=>h x (by
   rw[←hv] at hx
   exact(List.mem_filter.1 hx).1)
  have h1:(v::r).foldl minF v∈v::r:=(c8a g2g _ _).elim (fun h=>by rw[h];simp) id
  have h2:(v::r).foldl maxF v∈v::r:=(c8a g0v _ _).elim (fun h=>by rw[h];simp) id
  exact⟨by dsimp only;omega,by dsimp only;omega,(hm _ h1).1,(hm _ h1).2,(hm _ h2).1,(hm _ h2).2⟩
theorem d2p{f:Vl→Vl→Vl}{l:List Vl}{a:Vl}{i:Nat}(hi:i<l.length):(l.take (i+1)).foldl f a=f ((l.take i).foldl f a) l[i]:=by
 rw[List.take_succ_eq_append_getElem hi,List.foldl_append];rfl
theorem d9n{n:Nat}{l:List Vl}(hl:l.length<100000)(hn:l.length<n):b2t n (l,())=some ((a6h l,()),()):=by
 have hs:=b8x l
 unfold b2t a0b
 simp only[Option.bind_some]
 rw[b7v (q:=isN) (fun v _=>by unfold b6r isN;rfl) hl hn]
 simp only[Option.bind_some]
 have hq:(l.filter fun v=>!isN v)=a6o l:=rfl
 rw[hq]
 unfold a6h
 cases hsv:a6o l with
 |nil =>
  rw[if_pos (by simp),a0j (by simp <;> omega) (by simp <;> omega)]
  simp[a2d]
 |cons v r =>
  rw[hsv] at hs
  rw[if_neg (by simp <;> omega),a2b (by simp) (by simp <;> omega),a2b (by simp) (by simp <;> omega)]
  dsimp only
  obtain⟨q,hq⟩:∃q,q=v::r:=⟨_,rfl⟩
  rw[←hq] at hs ⊢
  have hv:q.getD (0:Int).toNat ((0:Int),(0:Int),[],())=v:=by rw[hq];rfl
  rw[hv,a0j (x:=(l.length:Int) - (q.length:Int)) (by omega) (by omega)]
  refine a1n (fun i=>(((l.length:Int) - (q.length:Int),(q.take i).foldl minF v,(q.take i).foldl maxF v,()),(i:Int))) q.length (by simp) ?_ ?_ (by omega)
  ·intro rec i hi
   dsimp only
   rw[if_pos (by simp <;> omega),a0c hi,Int.toNat_natCast,a0h hi,a6r,d2p hi,d2p hi,a0e (by omega)]
   simp only[Option.bind_some]
   generalize (q.take i).foldl minF v=a
   generalize (q.take i).foldl maxF v=b
   unfold minF maxF
   by_cases h1:cmpG q[i] a<0
   ·rw[if_pos (by simpa using h1),if_pos h1,a6r]
    simp only[Option.bind_some]
    by_cases h2:0<cmpG q[i] b
    ·rw[if_pos (by simpa using h2),if_pos h2]
    ·rw[if_neg (by simpa using h2),if_neg h2]
   ·rw[if_neg (by simpa using h1),if_neg h1,a6r]
    simp only[Option.bind_some]
    by_cases h2:0<cmpG q[i] b
    ·rw[if_pos (by simpa using h2),if_pos h2]
    ·rw[if_neg (by simpa using h2),if_neg h2]
  ·intro rec
   dsimp only
   rw[if_neg (by simp),List.take_length]
def eqZ(x y:Zn):Bool:=decide (x.1=y.1)&&(decide (x.2.1=y.2.1)&&decide (x.2.2.1=y.2.2.1))
theorem f1w{x y:Zn}:eqZ x y=true↔x=y:=by
 unfold eqZ
 obtain⟨a,b,c,u⟩:=x
 obtain⟨a',b',c',u'⟩:=y
 simp
theorem d1h(n:Nat)(x y:Zn):b3e n (x,y,())=some ((eqZ x y,()),()):=by
 unfold b3e eqZ
 dsimp only
 rw[eqVl,eqVl]
def a9e(l:List Vl):Bool:=(List.range (l.length - 1)).all fun i=>decide (0≤cmpG (l.getD (i+1) a2d) (l.getD i a2d))
theorem d1w{p:Nat→Bool}(k:Nat):(List.range (k+1)).all p=((List.range k).all p&&p k):=by
 rw[List.range_succ,List.all_append];simp
theorem d5d{n:Nat}{l:List Vl}{c:Vl→Vl→Option Int}(hc:∀x y,c x y=some (cmpG x y))(hl:l.length<100000)(hn:l.length<n):a0t n (l,c,())=some ((a9e l,()),()):=by
 unfold a0t a9e
 dsimp only
 have key:∀(k m:Nat),k≤l.length - 1→k<m→a0x (fun rec2 (s1:Int)=>(if(decide ((0:Int)<s1))=true then(atI s1 l.length (atI (IntKind.i64.wrap (s1 - 1)) l.length ((c (l.getD s1.toNat ((0:Int),(0:Int),[],())) (l.getD (IntKind.i64.wrap (s1 - 1)).toNat ((0:Int),(0:Int),[],()))).bind fun y3=>(if(decide (y3<0))=true then(some ((false,()),())) else(rec2 (IntKind.i64.wrap (s1 - 1))))))) else(some ((true,()),())))) m (k:Int)=some (((List.range k).all fun i=>decide (0≤cmpG (l.getD (i+1) a2d) (l.getD i a2d)),()),()):=by
  intro k
  induction k with
  |zero =>
   intro m _ hm
   obtain⟨m,rfl⟩:∃m',m=m'+1:=⟨m - 1,by omega⟩
   unfold a0x
   rw[if_neg (by simp)]
   simp
  |succ k ih =>
   intro m hk hm
   obtain⟨m,rfl⟩:∃m',m=m'+1:=⟨m - 1,by omega⟩
   unfold a0x
   have hw:IntKind.i64.wrap (((k+1:Nat):Int) - 1)=(k:Int):=by rw[a0j (by omega) (by omega)];omega
   rw[if_pos (by simp <;> omega),a0c (by omega),hw,a0c (by omega),Int.toNat_natCast,Int.toNat_natCast,hc]
   simp only[Option.bind_some]
   rw[d1w]
   by_cases h:cmpG (l.getD (k+1) ((0:Int),(0:Int),[],())) (l.getD k ((0:Int),(0:Int),[],()))<0
   ·rw[if_pos (by simpa using h)]
    have:decide (0≤cmpG (l.getD (k+1) a2d) (l.getD k a2d))=false:=by exact decide_eq_false (by unfold a2d;omega)
    rw[this,Bool.and_false]
   ·rw[if_neg (by simpa using h),ih m (by omega) (by omega)]
    have:decide (0≤cmpG (l.getD (k+1) a2d) (l.getD k a2d))=true:=by exact decide_eq_true (by unfold a2d;omega)
    rw[this,Bool.and_true]
 by_cases h0:l.length=0
 ·obtain⟨m,rfl⟩:∃m',n=m'+1:=⟨n - 1,by omega⟩
  rw[h0]
  unfold a0x
  rw[if_neg (by rw[a0j (by simp) (by simp)];simp)]
  simp
 ·rw[show IntKind.i64.wrap ((l.length:Int) - 1)=((l.length - 1:Nat):Int) by rw[a0j (by omega) (by omega)];omega]
  exact key _ _ (Nat.le_refl _) (by omega)
theorem d5j{n:Nat}{cs:List (List Vl)}{i:Int}(hi:0≤i∧i<cs.length)(hl:∀l,l∈cs→l.length<100000∧l.length<n):b4x n (cs,i,())=some ((a9e (cs.getD i.toNat []),()),()):=by
 have hil:i.toNat<cs.length:=by omega
 obtain⟨h1,h2⟩:=hl _ (List.getElem_mem hil)
 unfold b4x
 dsimp only
 rw[if_neg (by simp <;> omega),if_neg (by simp <;> omega),a2b hi.1 hi.2,a0h hil,d5d (fun x y=>by rw[a6r];rfl) h1 h2]
 simp
end Go.Rb.R5

namespace Go.Rb.R5
open Go.Rb
abbrev Sg:Type:=Int×Int×Int×List Int×List Int×List Zn×List (List Vl)×Unit
def b0b(cs:List (List Vl)):Nat:=(cs.getD 0 []).length
def e8q(m:Nat)(t e:Int)(z:Zn)(l:List Vl):Bool:=decide (b3j e t=some e)&&(decide (l.length=m)&&(eqZ z (a6h l)&&l.all (a6w t)))
def b5m(s:Sg):Prop:=0≤s.1∧s.1≤200∧0≤s.2.1∧s.2.1<4∧1≤s.2.2.2.2.2.2.1.length∧s.2.2.2.2.2.2.1.length≤6∧s.2.2.2.1.length=s.2.2.2.2.2.2.1.length∧s.2.2.2.2.1.length=s.2.2.2.2.2.2.1.length ∧
 s.2.2.2.2.2.1.length=s.2.2.2.2.2.2.1.length∧1≤b0b s.2.2.2.2.2.2.1∧b0b s.2.2.2.2.2.2.1≤16∧0≤s.2.2.1∧s.2.2.1≤s.2.2.2.2.2.2.1.length
instance (s:Sg):Decidable (b5m s):=by unfold b5m;infer_instance
def c2m(s:Sg)(i:Nat):Bool:=e8q (b0b s.2.2.2.2.2.2.1) (s.2.2.2.1.getD i 0) (s.2.2.2.2.1.getD i 0) (s.2.2.2.2.2.1.getD i c0k) (s.2.2.2.2.2.2.1.getD i [])
def a8m(s:Sg):Bool:=decide (b5m s)&&((List.range s.2.2.2.2.2.2.1.length).all (c2m s)&&(decide (s.2.2.1=0)||a9e (s.2.2.2.2.2.2.1.getD (s.2.2.1 - 1).toNat [])))
theorem b6b(n:Nat)(s:Sg)(hl:∀l,l∈s.2.2.2.2.2.2.1→l.length<100000):a3u n (s,())=some ((((b0b s.2.2.2.2.2.2.1:Nat):Int),()),()):=by
 unfold a3u b0b
 dsimp only
 by_cases h:s.2.2.2.2.2.2.1.length=0
 ·rw[if_pos (by simp[h]),List.length_eq_zero_iff.1 h];rfl
 ·rw[if_neg (by rw[decide_eq_true_eq];omega),a2b (i:=(0:Int)) (by omega) (by omega)];rfl
theorem e3r{α:Type}(l:List α)(p:α→Bool):(!(l.any fun v=>!p v))=l.all p:=by
 induction l with
 |nil=>rfl
 |cons a l ih=>rw[List.any_cons,List.all_cons,←ih];cases p a <;> simp
theorem d8f{n:Nat}{s:Sg}{i:Nat}(h1:i<s.2.2.2.1.length)(h2:i<s.2.2.2.2.1.length)(h3:i<s.2.2.2.2.2.1.length)(h4:i<s.2.2.2.2.2.2.1.length)(hl:∀l,l∈s.2.2.2.2.2.2.1→l.length<100000)(hn:100000≤n) :
  b7u n (s,(i:Int),())=some ((c2m s i,()),()):=by
 have hli:=hl _ (List.getElem_mem h4)
 unfold b7u c2m e8q
 dsimp only
 rw[a0c h2,a0c h1,Int.toNat_natCast,b6u]
 simp only[Option.bind_some]
 rw[a0c h4]
 cases hu:b3j (s.2.2.2.2.1.getD i 0) (s.2.2.2.1.getD i 0) with
 |none=>simp
 |some u =>
  dsimp only
  rw[if_pos rfl,a0c h2]
  by_cases he:u=s.2.2.2.2.1.getD i 0
  ·rw[if_pos (by simpa using he),b6b n s hl]
   simp only[Option.bind_some]
   rw[←he]
   simp only[decide_true,Bool.true_and]
   by_cases hr:(s.2.2.2.2.2.2.1.getD i []).length=b0b s.2.2.2.2.2.2.1
   ·rw[if_pos (decide_eq_true (by omega)),a0c h3,a0h h4]
    rw[a0h h4] at hr
    rw[d9n hli (by omega)]
    simp only[Option.bind_some]
    rw[d1h]
    simp only[Option.bind_some]
    rw[show s.2.2.2.2.2.1.getD i ((0:Int),((0:Int),(0:Int),[],()),((0:Int),(0:Int),[],()),())=s.2.2.2.2.2.1.getD i c0k from rfl]
    simp only[hr,decide_true,Bool.true_and]
    cases hz:eqZ (s.2.2.2.2.2.1.getD i c0k) (a6h s.2.2.2.2.2.2.1[i]) with
    |false=>simp
    |true =>
     rw[if_pos rfl,b0h (q:=fun v=>!a6w (s.2.2.2.1.getD i 0) v) (fun v _=>by
      unfold b5u
      dsimp only
      rw[a0c h1,Int.toNat_natCast,b9e]
      rfl) hli (by omega)]
     simp only[Option.bind_some,e3r,Bool.true_and]
   ·rw[if_neg (by rw[decide_eq_true_eq];omega),decide_eq_false hr,Bool.false_and]
  ·rw[if_neg (by simpa using he)]
   have:¬(some u=some (s.2.2.2.2.1.getD i 0)):=by simpa using he
   simp only[this,decide_false,Bool.false_and]
theorem e0y{n:Nat}{s:Sg}(hl:∀l,l∈s.2.2.2.2.2.2.1→l.length<100000)(hn:100001≤n):a7m n (s,())=some ((a8m s,()),()):=by
 unfold a7m a8m
 dsimp only
 rw[b6b n s hl]
 simp only[Option.bind_some]
 by_cases hA:b5m s
 ·simp only[hA,decide_true,Bool.true_and]
  obtain⟨a1,a2,a3,a4,a5,a6,a7,a8,a9,a10,a11,a12,a13⟩:=hA
  rw[if_neg (by simp <;> omega),if_neg (by simp <;> omega),if_neg (by simp <;> omega),if_neg (by simp <;> omega),if_neg (by simp <;> omega),if_neg (by simp <;> omega),if_neg (by simp <;> omega),if_neg (by simp <;> omega),if_neg (by simp <;> omega),
   if_neg (by simp <;> omega),if_neg (by simp <;> omega),if_neg (by simp <;> omega),if_neg (by simp <;> omega)]
  rw[b9g (List.range s.2.2.2.2.2.2.1.length) (c2m s) (some ((false,()),())) (some ((decide (s.2.2.1=0)||a9e (s.2.2.2.2.2.2.1.getD (s.2.2.1 - 1).toNat []),()),())) (by simp;omega)]
  ·cases(List.range s.2.2.2.2.2.2.1.length).all (c2m s) <;> simp
  ·intro rec i hi
   have hi':i<s.2.2.2.2.2.2.1.length:=by simpa using hi
   rw[if_pos (by simp <;> omega),d8f (by omega) (by omega) (by omega) hi' hl (by omega),a0e (by omega),List.getElem_range]
   simp only[Option.bind_some]
   cases c2m s i <;> simp
  ·intro rec
   rw[if_neg (by simp)]
   by_cases h0:s.2.2.1=0
   ·rw[if_pos (by simpa using h0)];simp[h0]
   ·rw[if_neg (by simpa using h0),a0j (by omega) (by omega),d5j (by omega) (fun l h=>⟨hl l h,by have:=hl l h;omega⟩)]
    simp[h0]
 ·simp only[hA,decide_false,Bool.false_and]
  by_cases c1:s.1<0
  ·rw[if_pos (decide_eq_true (by omega))]
  rw[if_neg (by rw[decide_eq_true_eq];omega)]
  by_cases c2:200<s.1
  ·rw[if_pos (decide_eq_true (by omega))]
  rw[if_neg (by rw[decide_eq_true_eq];omega)]
  by_cases c3:s.2.1<0
  ·rw[if_pos (decide_eq_true (by omega))]
  rw[if_neg (by rw[decide_eq_true_eq];omega)]
  by_cases c4:4≤s.2.1
  ·rw[if_pos (decide_eq_true (by omega))]
  rw[if_neg (by rw[decide_eq_true_eq];omega)]
  by_cases c5:s.2.2.2.2.2.2.1.length<1
  ·rw[if_pos (decide_eq_true (by omega))]
  rw[if_neg (by rw[decide_eq_true_eq];omega)]
  by_cases c6:6<s.2.2.2.2.2.2.1.length
  ·rw[if_pos (decide_eq_true (by omega))]
  rw[if_neg (by rw[decide_eq_true_eq];omega)]
  by_cases c7:s.2.2.2.1.length≠s.2.2.2.2.2.2.1.length
  ·rw[if_pos (by rw[Bool.not_eq_true',decide_eq_false_iff_not];omega)]
  rw[if_neg (by rw[Bool.not_eq_true',decide_eq_false_iff_not];omega)]
  by_cases c8:s.2.2.2.2.1.length≠s.2.2.2.2.2.2.1.length
  ·rw[if_pos (by rw[Bool.not_eq_true',decide_eq_false_iff_not];omega)]
  rw[if_neg (by rw[Bool.not_eq_true',decide_eq_false_iff_not];omega)]
  by_cases c9:s.2.2.2.2.2.1.length≠s.2.2.2.2.2.2.1.length
  ·rw[if_pos (by rw[Bool.not_eq_true',decide_eq_false_iff_not];omega)]
  rw[if_neg (by rw[Bool.not_eq_true',decide_eq_false_iff_not];omega)]
  by_cases c10:b0b s.2.2.2.2.2.2.1<1
  ·rw[if_pos (decide_eq_true (by omega))]
  rw[if_neg (by rw[decide_eq_true_eq];omega)]
  by_cases c11:16<b0b s.2.2.2.2.2.2.1
  ·rw[if_pos (decide_eq_true (by omega))]
  rw[if_neg (by rw[decide_eq_true_eq];omega)]
  by_cases c12:s.2.2.1<0
  ·rw[if_pos (decide_eq_true (by omega))]
  rw[if_neg (by rw[decide_eq_true_eq];omega)]
  by_cases c13:(s.2.2.2.2.2.2.1.length:Int)<s.2.2.1
  ·rw[if_pos (decide_eq_true (by omega))]
  rw[if_neg (by rw[decide_eq_true_eq];omega)]
  exact absurd ⟨by omega,by omega,by omega,by omega,by omega,by omega,by omega,by omega,by omega,by omega,by omega,by omega,by omega⟩ hA
def twoB(k:Nat):List Int:=[((k / 256 % 256:Nat):Int),((k % 256:Nat):Int)]
theorem c6i{n k:Nat}(hk:k<1000000):a7j n ((k:Int),())=some ((twoB k,()),()):=by
 unfold a7j twoB
 dsimp only
 have h1:(2:Int) ^ min (8:Int).toNat IntKind.i64.bits=((256:Nat):Int):=by decide
 rw[h1,c7n,c2s,c2s]
 simp only[Option.some.injEq,Prod.mk.injEq,List.cons.injEq,and_true]
 omega
def crB(t e:Int)(z:Zn)(l:List Vl):List Int:=t::(b2c z++(twoB (colB e t l).length++colB e t l))
def crAt(s:Sg)(i:Nat):List Int:=crB (s.2.2.2.1.getD i 0) (s.2.2.2.2.1.getD i 0) (s.2.2.2.2.2.1.getD i c0k) (s.2.2.2.2.2.2.1.getD i [])
def c0o(s:Sg):List Int:=83::71::(twoB s.1.toNat++[s.2.1,s.2.2.1,(s.2.2.2.2.2.2.1.length:Int),(b0b s.2.2.2.2.2.2.1:Int)])
def b3n(s:Sg)(k:Nat):List Int:=(List.range k).flatMap (crAt s)
def segB(s:Sg):List Int:=c0o s++b3n s s.2.2.2.2.2.2.1.length
theorem c2x(s:Sg):(c0o s).length=8:=by simp[c0o,twoB]
structure ColFine (t e:Int) (z:Zn) (l:List Vl):Prop where
 used:b3j e t=some e
 rows:l.length≤16
 zone:z=a6h l
 fits:∀v,v∈l→a6w t v=true
 ok:∀v,v∈l→okV v
theorem f5n{t:Int}{v:Vl}(h:a6w t v=true):mayV v=true:=by
 unfold a6w at h
 simp only[Bool.and_eq_true] at h
 exact h.1.1
theorem ColFine.zmay{t e:Int}{z:Zn}{l:List Vl}(h:ColFine t e z l):mayZ z:=by
 have:=h.rows
 rw[h.zone]
 exact e9e (by omega) fun v hv=>⟨f5n (h.fits v hv),h.ok v hv⟩
theorem ColFine.len{t e:Int}{z:Zn}{l:List Vl}(h:ColFine t e z l):(crB t e z l).length≤32100∧(colB e t l).length≤32000:=by
 have h1:=d8d h.zmay
 obtain⟨_,u2,u3,_⟩:=b0z h.used
 have hr:=h.rows
 have h2:=f8h (u:=e) ⟨u2,u3⟩ h.fits h.ok (by omega)
 unfold crB twoB
 simp only[List.length_cons,List.length_append,List.length_nil]
 omega
theorem d5h{s:Sg}(h:a8m s=true)(hv:∀l,l∈s.2.2.2.2.2.2.1→∀v,v∈l→okV v):b5m s∧∀i,i<s.2.2.2.2.2.2.1.length→ColFine (s.2.2.2.1.getD i 0) (s.2.2.2.2.1.getD i 0) (s.2.2.2.2.2.1.getD i c0k) (s.2.2.2.2.2.2.1.getD i []):=by
 unfold a8m at h
 simp only[Bool.and_eq_true,decide_eq_true_eq] at h
 obtain⟨h1,h2,_⟩:=h
 refine⟨h1,fun i hi=>?_⟩
 have h3:=List.all_eq_true.1 h2 i (List.mem_range.2 hi)
 unfold c2m e8q at h3
 simp only[Bool.and_eq_true,decide_eq_true_eq] at h3
 obtain⟨q1,q2,q3,q4⟩:=h3
 have h16:=h1.2.2.2.2.2.2.2.2.2.2.1
 refine⟨q1,by rw[q2];exact h16,f1w.1 q3,fun v hv'=>List.all_eq_true.1 q4 v hv',fun v hv'=>hv _ (by rw[a0h hi];exact List.getElem_mem hi) v hv'⟩
theorem c4z(s:Sg)(k:Nat):b3n s (k+1)=b3n s k++crAt s k:=by
 unfold b3n
 rw[List.range_succ,List.flatMap_append];simp
theorem c2z{s:Sg}(h:∀i,i<s.2.2.2.2.2.2.1.length→ColFine (s.2.2.2.1.getD i 0) (s.2.2.2.2.1.getD i 0) (s.2.2.2.2.2.1.getD i c0k) (s.2.2.2.2.2.2.1.getD i [])):∀k,k≤s.2.2.2.2.2.2.1.length→(b3n s k).length≤32100*k
 |0,_=>by simp[b3n]
 |k+1,hk=>by
  have h1:=c2z h k (by omega)
  have h2:=(h k (by omega)).len.1
  rw[c4z,List.length_append]
  unfold crAt
  omega
theorem f4z{n:Nat}{s:Sg}(hA:b5m s)(hC:∀i,i<s.2.2.2.2.2.2.1.length→ColFine (s.2.2.2.1.getD i 0) (s.2.2.2.2.1.getD i 0) (s.2.2.2.2.2.1.getD i c0k) (s.2.2.2.2.2.2.1.getD i []))(hn:1000000≤n){i:Nat}(hi:i<s.2.2.2.2.2.2.1.length){R:Type}(K:List Int→Option R) :
  atI (i:Int) s.2.2.2.2.2.2.1.length (atI (i:Int) s.2.2.2.2.1.length (atI (i:Int) s.2.2.2.1.length ((a4k n (s.2.2.2.2.1.getD (i:Int).toNat (0:Int),s.2.2.2.1.getD (i:Int).toNat (0:Int),s.2.2.2.2.2.2.1.getD (i:Int).toNat [],())).bind fun y7 =>
   atI (i:Int) s.2.2.2.1.length (atI (i:Int) s.2.2.2.2.2.1.length ((a9h n (s.2.2.2.2.2.1.getD (i:Int).toNat ((0:Int),((0:Int),(0:Int),[],()),((0:Int),(0:Int),[],()),()),())).bind fun y8 =>
    (a7j n ((y7.1.1.length:Int),())).bind fun y9=>(a0n n (([c0o s++b3n s i,[IntKind.u8.wrap (s.2.2.2.1.getD (i:Int).toNat (0:Int))],y8.1.1,y9.1.1,y7.1.1]:List (List Int)),())).bind fun y10=>K y10.1.1)))))=K (c0o s++b3n s (i+1)):=by
 obtain⟨a1,a2,a3,a4,a5,a6,a7,a8,a9,a10,a11,a12,a13⟩:=hA
 have hc:=hC i hi
 have hl:=c2z hC i (by omega)
 obtain⟨_,u2,u3,_⟩:=b0z hc.used
 have hr:=hc.rows
 rw[a0c hi,a0c (by omega),a0c (by omega),Int.toNat_natCast,b8a hc.ok (by omega) (by omega)]
 have hp:b8r (s.2.2.2.2.1.getD i 0) (s.2.2.2.1.getD i 0) (s.2.2.2.2.2.2.1.getD i [])=some (colB (s.2.2.2.2.1.getD i 0) (s.2.2.2.1.getD i 0) (s.2.2.2.2.2.2.1.getD i [])):=by
  unfold b8r
  rw[hc.used]
  dsimp only
  rw[if_pos (List.all_eq_true.2 hc.fits)]
 rw[hp]
 simp only[Option.bind_some]
 rw[a0c (by omega),a0c (by omega),show s.2.2.2.2.2.1.getD i ((0:Int),((0:Int),(0:Int),[],()),((0:Int),(0:Int),[],()),())=s.2.2.2.2.2.1.getD i c0k from rfl,d4w hc.zmay (by omega)]
 simp only[Option.bind_some]
 have hlen:=hc.len
 rw[c6i (by omega),a8k (by omega) (by omega)]
 simp only[Option.bind_some]
 have hfl:([c0o s++b3n s i,[s.2.2.2.1.getD i 0],b2c (s.2.2.2.2.2.1.getD i c0k),twoB (colB (s.2.2.2.2.1.getD i 0) (s.2.2.2.1.getD i 0) (s.2.2.2.2.2.2.1.getD i [])).length,colB (s.2.2.2.2.1.getD i 0) (s.2.2.2.1.getD i 0) (s.2.2.2.2.2.2.1.getD i [])]:List (List Int)).flatten=c0o s++b3n s (i+1):=by
  rw[c4z]
  unfold crAt crB
  simp
 have hfl2:(c0o s++b3n s (i+1)).length<1000000:=by
  have:=c2z hC (i+1) (by omega)
  rw[List.length_append,c2x];omega
 rw[c1g (by simp;omega) (by simp) (by rw[hfl];exact hfl2),hfl]
 simp only[Option.bind_some]
theorem c5x{n:Nat}{s:Sg}(hl:∀l,l∈s.2.2.2.2.2.2.1→l.length<100000)(hv:∀l,l∈s.2.2.2.2.2.2.1→∀v,v∈l→okV v)(hn:1000000≤n) :
  b3c n (s,())=some ((if a8m s=true then segB s else[],()),())∧a8f n (s,())=some ((if a8m s=true then segB s else[],()),()):=by
 unfold b3c a8f
 rw[e0y hl (by omega)]
 simp only[Option.bind_some]
 cases hm:a8m s with
 |false=>simp
 |true =>
  obtain⟨hA,hC⟩:=d5h hm hv
  have hA':=hA
  obtain⟨a1,a2,a3,a4,a5,a6,a7,a8,a9,a10,a11,a12,a13⟩:=hA
  simp only[Bool.not_true,Bool.false_eq_true,if_false,if_true]
  have htwo:a7j n (s.1,())=some ((twoB s.1.toNat,()),()):=by
   obtain⟨k,hk⟩:∃k:Nat,s.1=(k:Int):=⟨s.1.toNat,by omega⟩
   rw[hk,c6i (by omega),Int.toNat_natCast]
  rw[htwo]
  simp only[Option.bind_some]
  rw[b6b n s hl]
  simp only[Option.bind_some]
  have hfl:([[83,71],twoB s.1.toNat,[s.2.1,s.2.2.1,(s.2.2.2.2.2.2.1.length:Int),(b0b s.2.2.2.2.2.2.1:Int)]]:List (List Int)).flatten=c0o s:=by simp[c0o]
  rw[a8k (x:=s.2.1) (by omega) (by omega),a8k (x:=s.2.2.1) (by omega) (by omega),a8k (x:=(s.2.2.2.2.2.2.1.length:Int)) (by omega) (by omega),a8k (x:=(b0b s.2.2.2.2.2.2.1:Int)) (by omega) (by omega),
   c1g (by simp;omega) (by simp) (by rw[hfl,c2x];omega),hfl]
  simp only[Option.bind_some]
  constructor
  ·refine a1n (fun i=>(c0o s++b3n s i,(i:Int))) s.2.2.2.2.2.2.1.length (by simp[b3n]) ?_ ?_ (by omega)
   ·intro rec i hi
    dsimp only
    rw[if_pos (by simp <;> omega)]
    refine Eq.trans (f4z hA' hC hn hi fun b=>rec (b,IntKind.i64.wrap ((i:Int)+1))) ?_
    rw[a0e (by omega)]
   ·intro rec
    dsimp only
    rw[if_neg (by simp)];rfl
  ·refine a1n (fun i=>(c0o s++b3n s i,(i:Int))) s.2.2.2.2.2.2.1.length (by simp[b3n]) ?_ ?_ (by omega)
   ·intro rec i hi
    dsimp only
    rw[if_pos (by simp <;> omega)]
    refine Eq.trans (f4z hA' hC hn hi fun b=>rec (b,IntKind.i64.wrap ((i:Int)+1))) ?_
    rw[a0e (by omega)]
   ·intro rec
    dsimp only
    rw[if_neg (by simp)]
    have:c0o s++b3n s s.2.2.2.2.2.2.1.length=83::(71::(twoB s.1.toNat++[s.2.1,s.2.2.1,(s.2.2.2.2.2.2.1.length:Int),(b0b s.2.2.2.2.2.2.1:Int)])++b3n s s.2.2.2.2.2.2.1.length):=rfl
    unfold segB
    rw[this]
end Go.Rb.R5
