/- Plain law: segments out of bytes, as the program has them. Own work. -/
import Derived.Test.YthkgkalebkbndaaGreatDoorLawE
import Derived.Test.YthkgkalebkbndaaGreatDoorLawD
set_option autoImplicit false
set_option linter.unusedVariables false
set_option linter.unusedSimpArgs false
namespace Go.Rb.R5
open Go.Rb
noncomputable def e1j(t m:Int)(b:List Int):Option (List Vl×Int):=open Classical in if h:∃p:List Vl×Int,b8p t m b p.1 p.2 then some (Classical.choose h) else none
theorem b9u{t m e:Int}{b:List Int}{l:List Vl}:e1j t m b=some (l,e)↔b8p t m b l e:=by
 unfold e1j
 constructor
 ·intro h
  split at h
  ·rename_i hx
   have h2:=Classical.choose_spec hx
   rw[Option.some.inj h] at h2
   exact h2
  ·cases h
 ·intro h
  have hx:∃p:List Vl×Int,b8p t m b p.1 p.2:=⟨(l,e),h⟩
  rw[dif_pos hx]
  have h2:=Classical.choose_spec hx
  obtain⟨h3,h4⟩:=h2.uniq h
  exact congrArg some (Prod.ext h3 h4)
theorem c7f{n:Nat}{t m:Int}{b:List Int}(ht:-9223372036854775808≤t∧t≤9223372036854775807)(hb:a4a b)(hl:b.length<1000000)(hn:1000000≤n) :
  a7x n (t,m,b,())=some (match e1j t m b with|some (l,e)=>(l,e,true,())|none=>([],0,false,()),()):=by
 obtain⟨y,h1,h2⟩:=c3g (m:=m) ht hb hl hn
 rw[h1]
 rcases h2 with⟨l,e,rfl,hg⟩|⟨rfl,hno⟩
 ·rw[b9u.2 hg]
 ·cases hc:e1j t m b with
  |none=>rfl
  |some p=>exact absurd (b9u.1 hc) (hno _ _)
abbrev Cr:Type:=Int×Zn×Int×List Vl
noncomputable def b6t(m:Int)(b:List Int):Option (Cr×Nat):=match b with
 |[]=>none
 |t::r=>match c2t r with
  |none=>none
  |some (z,k)=>if b.length<k+3 then none else
   if b.length<k+3+((b.getD (k+1) 0).toNat*256+(b.getD (k+2) 0).toNat) then none else
   match e1j t m ((b.drop (k+3)).take ((b.getD (k+1) 0).toNat*256+(b.getD (k+2) 0).toNat)) with
   |none=>none
   |some (l,e)=>some ((t,z,e,l),k+3+((b.getD (k+1) 0).toNat*256+(b.getD (k+2) 0).toNat))
def errS(p:Int):UV:=UV.node a4s (.pair (.int .i64 p) .unit)
def addS(s:Sg)(c:Cr):Sg:=(s.1,s.2.1,s.2.2.1,s.2.2.2.1++[c.1],s.2.2.2.2.1++[c.2.2.1],s.2.2.2.2.2.1++[c.2.1],s.2.2.2.2.2.2.1++[c.2.2.2],s.2.2.2.2.2.2.2)
def e5w(m:Int)(s:Sg)(b:List Int)(y:(Int×UV×Unit)×(Sg×Unit)):Prop:=match b6t m b with
 |some (c,k)=>y=(((k:Int),UV.nil,()),(addS s c,()))
 |none=>∃p,y=((0,errS p,()),(s,()))
theorem e0v{a c:Int}(ha:0≤a∧a≤255)(hc:0≤c∧c≤255):bits .or .i64 (IntKind.i64.wrap (IntKind.i64.wrap a*2 ^ min (8:Int).toNat IntKind.i64.bits)) (IntKind.i64.wrap c)=((a.toNat*256+c.toNat:Nat):Int):=by
 obtain⟨x,rfl⟩:∃x:Nat,a=(x:Int):=⟨a.toNat,by omega⟩
 obtain⟨y,rfl⟩:∃y:Nat,c=(y:Int):=⟨c.toNat,by omega⟩
 rw[f3c (by omega),a0j (by omega) (by omega),Int.toNat_natCast,Int.toNat_natCast]
theorem a4a.getD{b:List Int}(h:a4a b)(i:Nat):0≤b.getD i 0∧b.getD i 0≤255:=by
 by_cases hi:i<b.length
 ·rw[a0h hi];exact h _ (List.getElem_mem hi)
 ·rw[List.getD_eq_getElem?_getD,List.getElem?_eq_none (by omega)];simp
theorem c7d{n:Nat}{m:Int}{s:Sg}{b:List Int}(hb:a4a b)(hl:b.length<1000000)(hs:s.2.2.2.1.length<1000∧s.2.2.2.2.1.length<1000∧s.2.2.2.2.2.1.length<1000∧s.2.2.2.2.2.2.1.length<1000)(hn:1000000≤n) :
  Gets (b0i n (s,m,b,())) (e5w m s b):=by
 have hro:=a2k
 obtain⟨s1,s2,s3,s4⟩:=hs
 unfold b0i
 dsimp only
 cases b with
 |nil =>
  rw[if_pos (by simp)]
  exact Gets.some ⟨0,rfl⟩
 |cons t r =>
  have ht:=hb t (by simp)
  rw[if_neg (by simp <;> omega),a2b (by simp) (by simp <;> omega),if_pos ⟨by omega,by simp <;> omega⟩]
  have e1:List.drop (1:Int).toNat (List.take ((t::r).length:Int).toNat (t::r))=r:=by rw[Int.toNat_natCast,List.take_length];rfl
  rw[e1,d1x (fun x hx=>hb x (List.mem_cons_of_mem _ hx)) (by simp at hl;omega) (by omega)]
  simp only[Option.bind_some]
  have e2:(t::r).getD (0:Int).toNat (0:Int)=t:=rfl
  rw[e2]
  obtain⟨b,hbb⟩:∃b,b=t::r:=⟨_,rfl⟩
  have hlr:b.length=r.length+1:=by rw[hbb];rfl
  have hR:∀y,e5w m s (t::r) y↔match c2t r with
   |none=>∃p,y=((0,errS p,()),(s,()))
   |some (z,k)=>if b.length<k+3 then ∃p,y=((0,errS p,()),(s,())) else
    if b.length<k+3+((b.getD (k+1) 0).toNat*256+(b.getD (k+2) 0).toNat) then ∃p,y=((0,errS p,()),(s,())) else
    match e1j t m ((b.drop (k+3)).take ((b.getD (k+1) 0).toNat*256+(b.getD (k+2) 0).toNat)) with
    |none=>∃p,y=((0,errS p,()),(s,()))
    |some (l,e)=>y=((((k+3+((b.getD (k+1) 0).toNat*256+(b.getD (k+2) 0).toNat):Nat):Int),UV.nil,()),(addS s (t,z,e,l),())):=by
   intro y
   rw[hbb]
   unfold e5w b6t
   dsimp only
   cases c2t r with
   |none=>exact Iff.rfl
   |some p =>
    obtain⟨z,k⟩:=p
    dsimp only
    by_cases h3:(t::r).length<k+3
    ·rw[if_pos h3,if_pos h3]
    rw[if_neg h3,if_neg h3]
    by_cases h4:(t::r).length<k+3+(((t::r).getD (k+1) 0).toNat*256+((t::r).getD (k+2) 0).toNat)
    ·rw[if_pos h4,if_pos h4]
    rw[if_neg h4,if_neg h4]
    cases e1j t m ((((t::r).drop (k+3)).take (((t::r).getD (k+1) 0).toNat*256+((t::r).getD (k+2) 0).toNat))) with
    |none=>exact Iff.rfl
    |some q=>exact Iff.rfl
  refine Gets.mono ?_ fun y=>(hR y).2
  rw[←hbb] at hb hl ⊢
  cases hz:c2t r with
  |none =>
   dsimp only
   rw[if_pos (by simp)]
   exact Gets.some ⟨_,rfl⟩
  |some p =>
   obtain⟨z,k⟩:=p
   have hk:=f7o hz
   dsimp only
   rw[if_neg (by simp),a0j (x:=(k:Int)+1) (by omega) (by omega),a0j (x:=(k:Int)+1+2) (by omega) (by omega)]
   by_cases h3:b.length<k+3
   ·rw[if_pos (by simp <;> omega)]
    refine Gets.some ?_
    rw[if_pos h3]
    exact⟨_,rfl⟩
   rw[if_neg (by simp <;> omega),a0j (x:=(k:Int)+1+1) (by omega) (by omega),a2b (by omega) (by omega),a2b (by omega) (by omega),
    show((k:Int)+1).toNat=k+1 by omega,show((k:Int)+1+1).toNat=k+2 by omega,e0v (hb.getD _) (hb.getD _)]
   obtain⟨g,hg⟩:∃g,(b.getD (k+1) 0).toNat*256+(b.getD (k+2) 0).toNat=g:=⟨_,rfl⟩
   have hg2:g<65536:=by
    have q1:=hb.getD (k+1)
    have q2:=hb.getD (k+2)
    omega
   rw[hg,a0j (x:=(k:Int)+1+2+(g:Int)) (by omega) (by omega)]
   by_cases h4:b.length<k+3+g
   ·rw[if_pos (by simp <;> omega)]
    refine Gets.some ?_
    rw[if_neg h3,if_pos h4]
    exact⟨_,rfl⟩
   have e3:List.drop ((k:Int)+1+2).toNat (List.take ((k:Int)+1+2+(g:Int)).toNat b)=(b.drop (k+3)).take g:=by
    rw[show((k:Int)+1+2).toNat=k+3 by omega,show((k:Int)+1+2+(g:Int)).toNat=k+3+g by omega,List.drop_take,show k+3+g - (k+3)=g by omega]
   rw[if_neg (by simp <;> omega),if_pos (by omega),e3,a0j (x:=t) (by omega) (by omega),
    c7f (by omega) (fun x hx=>hb x (List.mem_of_mem_drop (List.mem_of_mem_take hx))) (by simp;omega) hn]
   simp only[Option.bind_some]
   cases hc:e1j t m ((b.drop (k+3)).take g) with
   |none =>
    dsimp only
    rw[if_pos (by simp)]
    refine Gets.some ?_
    rw[if_neg h3,if_neg h4]
    exact⟨_,rfl⟩
   |some q =>
    obtain⟨l,e⟩:=q
    dsimp only
    rw[if_neg (by simp),if_pos (by simp <;> omega),if_pos (by simp <;> omega),if_pos (by simp <;> omega),if_pos (by simp <;> omega)]
    refine Gets.some ?_
    rw[if_neg h3,if_neg h4]
    unfold addS
    have:(k:Int)+1+2+(g:Int)=((k+3+g:Nat):Int):=by omega
    rw[this]
noncomputable def a8a:Nat→Int→List Int→Option (List Cr)
 |0,_,_=>some []
 |k+1,m,b=>match b6t m b with
  |none=>none
  |some (c,j)=>match a8a k m (b.drop j) with
   |none=>none
   |some cs=>some (c::cs)
def mkS(b:List Int)(cs:List Cr):Sg:=(((b.getD 2 0).toNat*256+(b.getD 3 0).toNat:Nat),b.getD 4 0,b.getD 5 0,cs.map (fun c=>c.1),cs.map (fun c=>c.2.2.1),cs.map (fun c=>c.2.1),cs.map (fun c=>c.2.2.2),())
theorem d9i{m:Int}{b:List Int}{c:Cr}{k:Nat}(h:b6t m b=some (c,k)):k≤b.length∧c.2.2.2.length≤1000∧∀v,v∈c.2.2.2→okV v:=by
 unfold b6t at h
 cases b with
 |nil=>cases h
 |cons t r =>
  dsimp only at h
  split at h
  ·cases h
  ·split at h
   ·cases h
   ·split at h
    ·cases h
    ·split at h
     ·cases h
     ·rename_i l e hc
      cases h
      have hg:=b9u.1 hc
      exact⟨by omega,by dsimp only;have:=hg.2.1;have:=hg.2.2.1;omega,hg.2.2.2.2.2.1⟩
theorem f4v(b:List Int)(cs ds:List Cr):ds.foldl addS (mkS b cs)=mkS b (cs++ds):=by
 induction ds generalizing cs with
 |nil=>simp
 |cons d ds ih =>
  rw[List.foldl_cons]
  have:addS (mkS b cs) d=mkS b (cs++[d]):=by unfold addS mkS;simp
  rw[this,ih];simp
noncomputable def b4u(b:List Int):Option Sg:=if b.length<8 then none else match a8a (b.getD 6 0).toNat (b.getD 7 0) (b.drop 8) with
 |none=>none
 |some cs=>if a8m (mkS b cs)=true∧segB (mkS b cs)=b then some (mkS b cs) else none
def g2f:Sg:=((0:Int),(0:Int),(0:Int),[],[],[],[],())
def c9a(b:List Int)(y:(Sg×UV×Unit)×Unit):Prop:=match b4u b with
 |some s=>y=((s,UV.nil,()),())
 |none=>∃s e,y=((s,e,()),())∧asU e=some true
theorem e3x(p:Int):asU (errS p)=some true:=by unfold errS asU;rfl
theorem g4z(i p:Int):asU (UV.node b8g (.pair (.int .i64 i) (.pair (errS p) .unit)))=some true:=by unfold errS asU;rfl
theorem c8g{n:Nat}{b:List Int}(hb:a4a b)(hl:b.length<1000000)(hn:1000001≤n):Gets (b9s n (b,())) (c9a b):=by
 unfold b9s
 dsimp only
 by_cases h8:b.length<8
 ·rw[if_pos (by simp <;> omega)]
  refine Gets.some ?_
  unfold c9a b4u
  rw[if_pos h8]
  exact⟨_,_,rfl,e3x _⟩
 rw[if_neg (by simp <;> omega),a2b (by omega) (by omega),a2b (by omega) (by omega),a2b (by omega) (by omega),a2b (by omega) (by omega),if_pos (by omega),a2b (by omega) (by omega)]
 have d:∀i:Nat,IntKind.i64.wrap (b.getD i 0)=b.getD i 0:=fun i=>a0j (by have:=hb.getD i;omega) (by have:=hb.getD i;omega)
 simp only[show(2:Int).toNat=2 from rfl,show(3:Int).toNat=3 from rfl,show(4:Int).toNat=4 from rfl,show(5:Int).toNat=5 from rfl,show(6:Int).toNat=6 from rfl,show(7:Int).toNat=7 from rfl]
 rw[e0v (hb.getD 2) (hb.getD 3),d 4,d 5,d 6,d 7,Int.toNat_natCast,List.take_length]
 have h6:=hb.getD 6
 have hbad:∀(s:Sg) (e:UV),asU e=some true→b4u b=none→c9a b ((s,e,()),()):=by
  intro s e h1 h2
  unfold c9a
  rw[h2]
  exact⟨s,e,rfl,h1⟩
 have key:∀(k j:Nat) (cs:List Cr) (rest:List Int) (f:Nat),j+k=(b.getD 6 0).toNat→cs.length=j→k<f→a4a rest→rest.length<1000000→(∀c,c∈cs→c.2.2.2.length≤1000∧∀v,v∈c.2.2.2→okV v) →
   (b4u b=match a8a k (b.getD 7 0) rest with|none=>none|some ds=>if a8m (mkS b (cs++ds))=true∧segB (mkS b (cs++ds))=b then some (mkS b (cs++ds)) else none) →
   Gets (a0x (fun rec2 (s1:Sg×List Int×Int)=>(if(decide (s1.2.2<b.getD 6 0))=true then(atI (7:Int) b.length ((b0i n (s1.1,b.getD 7 0,s1.2.1,())).bind fun y3=>(if(!decide (y3.1.2.1=UV.nil))=true then(some ((y3.2.1,(UV.node b8g (.pair (.int .i64 s1.2.2) (.pair y3.1.2.1 .unit))),()),())) else(if 0≤y3.1.1∧y3.1.1≤(s1.2.1.length:Int) then(rec2 (y3.2.1,((s1.2.1.take (s1.2.1.length:Int).toNat).drop y3.1.1.toNat),(IntKind.i64.wrap (s1.2.2+1)))) else none)))) else((a8f n (s1.1,())).bind fun y4=>(if(decide (y4.1.1=[]))=true then(some ((s1.1,(UV.node a4s (.pair (.int .i64 (b.length:Int)) .unit)),()),())) else((a0d n (y4.1.1,b,())).bind fun y5=>(if(!y5.1.1)=true then(some ((s1.1,(UV.node a4s (.pair (.int .i64 (b.length:Int)) .unit)),()),())) else(some ((s1.1,UV.nil,()),())))))))) f (mkS b cs,rest,(j:Int))) (c9a b):=by
  intro k
  induction k with
  |zero =>
   intro j cs rest f hj hcs hf hrb hrl hcv ht
   obtain⟨f,rfl⟩:∃f',f=f'+1:=⟨f - 1,by omega⟩
   unfold a0x
   dsimp only
   rw[if_neg (by rw[decide_eq_true_eq];omega)]
   have hcl:∀l,l∈(mkS b cs).2.2.2.2.2.2.1→l.length<100000:=by
    intro l hl
    obtain⟨c,hc,rfl⟩:=List.mem_map.1 hl
    have:=(hcv c hc).1
    omega
   have hcv':∀l,l∈(mkS b cs).2.2.2.2.2.2.1→∀v,v∈l→okV v:=by
    intro l hl
    obtain⟨c,hc,rfl⟩:=List.mem_map.1 hl
    exact(hcv c hc).2
   rw[(c5x hcl hcv' (by omega)).2]
   simp only[Option.bind_some]
   unfold a8a at ht
   dsimp only at ht
   rw[List.append_nil] at ht
   cases hm:a8m (mkS b cs) with
   |false =>
    rw[hm] at ht
    rw[if_pos (by simp)]
    exact Gets.some (hbad _ _ (e3x _) (by rw[ht];simp))
   |true =>
    rw[hm] at ht
    rw[if_neg (by simp[segB,c0o])]
    unfold a0d
    simp only[Option.bind_some,if_true]
    by_cases he:segB (mkS b cs)=b
    ·rw[if_neg (by simpa using he)]
     refine Gets.some ?_
     unfold c9a
     rw[ht,if_pos ⟨rfl,he⟩]
    ·rw[if_pos (by simpa using he)]
     exact Gets.some (hbad _ _ (e3x _) (by rw[ht,if_neg (fun h=>he h.2)]))
  |succ k ih =>
   intro j cs rest f hj hcs hf hrb hrl hcv ht
   obtain⟨f,rfl⟩:∃f',f=f'+1:=⟨f - 1,by omega⟩
   unfold a0x
   dsimp only
   rw[if_pos (decide_eq_true (by omega)),a2b (by omega) (by omega)]
   refine Gets.bind (c7d hrb hrl (by unfold mkS;simp;omega) (by omega)) ?_
   intro y hy
   unfold e5w at hy
   unfold a8a at ht
   cases hc:b6t (b.getD 7 0) rest with
   |none =>
    rw[hc] at hy ht
    obtain⟨p,rfl⟩:=hy
    dsimp only
    rw[if_pos (by unfold errS;simp)]
    exact Gets.some (hbad _ _ (g4z _ _) ht)
   |some q =>
    obtain⟨c,g⟩:=q
    rw[hc] at hy ht
    dsimp only at hy ht
    subst hy
    obtain⟨g1,g2,g3⟩:=d9i hc
    dsimp only
    rw[if_neg (by simp),if_pos (by omega),a0e (by omega)]
    rw[show List.take ((rest.length:Int)).toNat rest=rest by rw[Int.toNat_natCast,List.take_length],Int.toNat_natCast g]
    have hadd:addS (mkS b cs) c=mkS b (cs++[c]):=f4v b cs [c]
    rw[hadd]
    refine ih (j+1) (cs++[c]) (rest.drop g) f (by omega) (by simp[hcs]) (by omega) (fun x hx=>hrb x (List.mem_of_mem_drop hx)) (by rw[List.length_drop];omega) ?_ ?_
    ·intro x hx
     rcases List.mem_append.1 hx with hx|hx
     ·exact hcv x hx
     ·obtain rfl:=List.mem_singleton.1 hx
      exact⟨g2,g3⟩
    ·rw[ht]
     cases a8a k (b.getD 7 0) (rest.drop g) with
     |none=>rfl
     |some ds=>simp
 refine key (b.getD 6 0).toNat 0 [] (b.drop 8) n (by omega) rfl (by omega) (fun x hx=>hb x (List.mem_of_mem_drop hx)) (by rw[List.length_drop];omega) (by simp) ?_
 unfold b4u
 rw[if_neg h8]
 rfl
theorem b6h{n:Nat}{b:List Int}(hb:a4a b)(hl:b.length<1000000)(hn:1000001≤n) :
  a5v n (b,())=some (match b4u b with|some s=>(s,true,())|none=>(g2f,false,()),()):=by
 obtain⟨y,h1,h2⟩:=c8g hb hl hn
 unfold a5v
 rw[h1]
 simp only[Option.bind_some]
 unfold c9a at h2
 cases ht:b4u b with
 |some s =>
  rw[ht] at h2
  subst h2
  rfl
 |none =>
  rw[ht] at h2
  obtain⟨s,e,rfl,h3⟩:=h2
  dsimp only
  rw[h3]
  rfl
end Go.Rb.R5

namespace Go.Rb.R5
open Go.Rb
structure CrFine (m:Nat) (c:Cr):Prop extends ColFine c.1 c.2.2.1 c.2.1 c.2.2.2 where
 rows':c.2.2.2.length=m
def crBc(c:Cr):List Int:=crB c.1 c.2.2.1 c.2.1 c.2.2.2
theorem b4i{l r:List Int}{i:Nat}(j:Nat)(h:i=l.length+j):(l++r).getD i 0=r.getD j 0:=by
 subst h
 rw[List.getD_eq_getElem?_getD,List.getElem?_append_right (by omega),List.getD_eq_getElem?_getD,Nat.add_sub_cancel_left]
theorem e3o{m:Nat}{c:Cr}(h:CrFine m c)(rest:List Int):b6t (m:Int) (crBc c++rest)=some (c,(crBc c).length):=by
 obtain⟨t,z,e,l⟩:=c
 obtain⟨h1,h2⟩:=h
 dsimp only at h1 h2
 have hlen:=h1.len.2
 have hr:=h1.rows
 unfold crBc crB
 dsimp only
 obtain⟨q,hq⟩:∃q,q=colB e t l:=⟨_,rfl⟩
 rw[←hq] at hlen ⊢
 rw[List.cons_append]
 unfold b6t
 dsimp only
 rw[List.append_assoc,e7o h1.zmay]
 dsimp only
 have hb:t::(b2c z++(twoB q.length++q++rest))=(t::b2c z)++(((q.length / 256 % 256:Nat):Int)::((q.length % 256:Nat):Int)::(q++rest)):=by simp[twoB]
 have g1:(t::(b2c z++(twoB q.length++q++rest))).getD ((b2c z).length+1) 0=((q.length / 256 % 256:Nat):Int):=by
  rw[hb,b4i 0 (by simp)];rfl
 have g2:(t::(b2c z++(twoB q.length++q++rest))).getD ((b2c z).length+2) 0=((q.length % 256:Nat):Int):=by
  rw[hb,b4i 1 (by simp)];rfl
 have g3:(q.length / 256 % 256:Nat)*256+q.length % 256=q.length:=by omega
 rw[g1,g2,Int.toNat_natCast,Int.toNat_natCast,g3]
 have hl:(t::(b2c z++(twoB q.length++q++rest))).length=(b2c z).length+3+q.length+rest.length:=by simp[twoB];omega
 rw[if_neg (by rw[hl];omega),if_neg (by rw[hl];omega)]
 have g4:(t::(b2c z++(twoB q.length++q++rest))).drop ((b2c z).length+3)=q++rest:=by
  have:t::(b2c z++(twoB q.length++q++rest))=(t::(b2c z++twoB q.length))++(q++rest):=by simp
  rw[this,List.drop_left' (by simp[twoB])]
 rw[g4,List.take_left' rfl,b9u.2 (show b8p t (m:Int) q l e from⟨by omega,by omega,by omega,h1.used,h1.fits,h1.ok,hq.symm⟩)]
 dsimp only
 simp only[Option.some.injEq,Prod.mk.injEq,true_and,List.length_cons,List.length_append,twoB,List.length_nil]
 omega
theorem c2k{m:Nat}:∀(L:List Cr) (rest:List Int),(∀c,c∈L→CrFine m c)→a8a L.length (m:Int) (L.flatMap crBc++rest)=some L
 |[],rest,_=>rfl
 |c::L,rest,h=>by
  rw[List.length_cons,List.flatMap_cons,List.append_assoc]
  unfold a8a
  rw[e3o (h c (by simp))]
  dsimp only
  rw[List.drop_left,c2k L rest fun c hc=>h c (List.mem_cons_of_mem _ hc)]
def crS(s:Sg)(i:Nat):Cr:=(s.2.2.2.1.getD i 0,s.2.2.2.2.2.1.getD i c0k,s.2.2.2.2.1.getD i 0,s.2.2.2.2.2.2.1.getD i [])
theorem a5n{α:Type}(l:List α)(d:α):(List.range l.length).map (fun i=>l.getD i d)=l:=by
 refine List.ext_getElem (by simp) fun i h1 h2=>?_
 rw[List.getElem_map,List.getElem_range,a0h h2]
theorem e9s{s:Sg}(h:a8m s=true)(hv:∀l,l∈s.2.2.2.2.2.2.1→∀v,v∈l→okV v):b4u (segB s)=some s:=by
 obtain⟨hA,hC⟩:=d5h h hv
 have hA':=hA
 obtain⟨a1,a2,a3,a4,a5,a6,a7,a8,a9,a10,a11,a12,a13⟩:=hA
 have hrow:∀i,i<s.2.2.2.2.2.2.1.length→(s.2.2.2.2.2.2.1.getD i []).length=b0b s.2.2.2.2.2.2.1:=by
  intro i hi
  unfold a8m at h
  simp only[Bool.and_eq_true,decide_eq_true_eq] at h
  have h3:=List.all_eq_true.1 h.2.1 i (List.mem_range.2 hi)
  unfold c2m e8q at h3
  simp only[Bool.and_eq_true,decide_eq_true_eq] at h3
  exact h3.2.1
 have hfl:b3n s s.2.2.2.2.2.2.1.length=((List.range s.2.2.2.2.2.2.1.length).map (crS s)).flatMap crBc:=by
  unfold b3n
  rw[List.flatMap_map];rfl
 have hfine:∀c,c∈(List.range s.2.2.2.2.2.2.1.length).map (crS s)→CrFine (b0b s.2.2.2.2.2.2.1) c:=by
  intro c hc
  obtain⟨i,hi,rfl⟩:=List.mem_map.1 hc
  have hi:=List.mem_range.1 hi
  exact⟨hC i hi,hrow i hi⟩
 have hback:=c2k _ [] hfine
 rw[List.append_nil,←hfl,List.length_map,List.length_range] at hback
 have hseg:segB s=83::71::((s.1.toNat / 256 % 256:Nat):Int)::((s.1.toNat % 256:Nat):Int)::s.2.1::s.2.2.1::(s.2.2.2.2.2.2.1.length:Int)::(b0b s.2.2.2.2.2.2.1:Int)::b3n s s.2.2.2.2.2.2.1.length:=by
  unfold segB c0o twoB;simp
 have hmk:mkS (segB s) ((List.range s.2.2.2.2.2.2.1.length).map (crS s))=s:=by
  unfold mkS
  have m1:((List.range s.2.2.2.2.2.2.1.length).map (crS s)).map (fun c=>c.1)=s.2.2.2.1:=by
   rw[List.map_map,←a7];exact a5n _ _
  have m2:((List.range s.2.2.2.2.2.2.1.length).map (crS s)).map (fun c=>c.2.2.1)=s.2.2.2.2.1:=by
   rw[List.map_map,←a8];exact a5n _ _
  have m3:((List.range s.2.2.2.2.2.2.1.length).map (crS s)).map (fun c=>c.2.1)=s.2.2.2.2.2.1:=by
   rw[List.map_map,←a9];exact a5n _ _
  have m4:((List.range s.2.2.2.2.2.2.1.length).map (crS s)).map (fun c=>c.2.2.2)=s.2.2.2.2.2.2.1:=by
   rw[List.map_map];exact a5n _ _
  rw[m1,m2,m3,m4,hseg]
  obtain⟨v,p,sb,ty,en,zo,co,u⟩:=s
  dsimp only at a1 a2 ⊢
  simp only[List.getD_cons_succ,List.getD_cons_zero,Prod.mk.injEq,true_and,and_true]
  omega
 unfold b4u
 rw[if_neg (by rw[hseg];simp <;> omega)]
 have e1:(segB s).getD 6 0=(s.2.2.2.2.2.2.1.length:Int):=by rw[hseg];rfl
 have e2:(segB s).getD 7 0=(b0b s.2.2.2.2.2.2.1:Int):=by rw[hseg];rfl
 have e3:(segB s).drop 8=b3n s s.2.2.2.2.2.2.1.length:=by rw[hseg];rfl
 rw[e1,e2,e3,Int.toNat_natCast,hback]
 dsimp only
 rw[hmk,if_pos ⟨h,rfl⟩]
theorem e1z{m:Int}{b:List Int}{c:Cr}{k:Nat}(x:List Int)(h:b6t m b=some (c,k)):b6t m (b++x)=some (c,k):=by
 unfold b6t at h ⊢
 cases b with
 |nil=>cases h
 |cons t r =>
  rw[List.cons_append]
  dsimp only at h ⊢
  cases hz:c2t r with
  |none=>rw[hz] at h;cases h
  |some p =>
   obtain⟨z,j⟩:=p
   rw[hz] at h
   rw[e8p x hz]
   dsimp only at h ⊢
   split at h
   ·cases h
   ·rename_i h3
    rw[←List.cons_append]
    have hg:∀i,i<(t::r).length→((t::r)++x).getD i 0=(t::r).getD i 0:=by
     intro i hi
     rw[List.getD_eq_getElem?_getD,List.getElem?_append_left hi,List.getD_eq_getElem?_getD]
    rw[hg _ (by omega),hg _ (by omega),if_neg (by rw[List.length_append];omega)]
    split at h
    ·cases h
    ·rename_i h4
     rw[if_neg (by rw[List.length_append];omega),List.drop_append_of_le_length (by omega),List.take_append_of_le_length (by rw[List.length_drop];omega)]
     exact h
theorem c3n:∀(k:Nat) {m:Int} {b:List Int} {cs:List Cr} (x:List Int),a8a k m b=some cs→a8a k m (b++x)=some cs
 |0,m,b,cs,x,h=>h
 |k+1,m,b,cs,x,h=>by
  unfold a8a at h ⊢
  cases hc:b6t m b with
  |none=>rw[hc] at h;cases h
  |some p =>
   obtain⟨c,j⟩:=p
   rw[hc] at h
   rw[e1z x hc]
   dsimp only at h ⊢
   rw[List.drop_append_of_le_length (d9i hc).1]
   cases hr:a8a k m (b.drop j) with
   |none=>rw[hr] at h;cases h
   |some cs' =>
    rw[hr] at h
    rw[c3n k x hr]
    exact h
theorem d3d{b:List Int}{s:Sg}(h:b4u b=some s):a8m s=true∧segB s=b:=by
 unfold b4u at h
 split at h
 ·cases h
 ·split at h
  ·cases h
  ·split at h
   ·rename_i h2
    cases h
    exact h2
   ·cases h
theorem e0g{b x:List Int}{s s':Sg}(h:b4u b=some s)(h':b4u (b++x)=some s'):x=[]:=by
 have e1:=(d3d h).2
 have e2:=(d3d h').2
 unfold b4u at h h'
 split at h
 ·cases h
 ·rename_i h8
  have hg:∀i,i<b.length→(b++x).getD i 0=b.getD i 0:=by
   intro i hi
   rw[List.getD_eq_getElem?_getD,List.getElem?_append_left hi,List.getD_eq_getElem?_getD]
  rw[if_neg (by rw[List.length_append];omega),hg 6 (by omega),hg 7 (by omega),List.drop_append_of_le_length (by omega)] at h'
  cases hr:a8a (b.getD 6 0).toNat (b.getD 7 0) (b.drop 8) with
  |none=>rw[hr] at h;cases h
  |some cs =>
   rw[hr] at h
   rw[c3n _ x hr] at h'
   dsimp only at h h'
   split at h
   ·split at h'
    ·cases h
     cases h'
     have hmk:mkS (b++x) cs=mkS b cs:=by
      unfold mkS
      rw[hg 2 (by omega),hg 3 (by omega),hg 4 (by omega),hg 5 (by omega)]
     rw[hmk,e1] at e2
     have:=congrArg List.length e2
     rw[List.length_append] at this
     exact List.length_eq_zero_iff.1 (by omega)
    ·cases h'
   ·cases h
theorem d9g{b:List Int}{s:Sg}(h:b4u b=some s){x:List Int}(hx:x≠[]):b4u (b++x)=none:=by
 cases h':b4u (b++x) with
 |none=>rfl
 |some s'=>exact absurd (e0g h h') hx
theorem d5z{b:List Int}{s:Sg}(h:b4u b=some s){k:Nat}(hk:k<b.length):b4u (b.take k)=none:=by
 cases h':b4u (b.take k) with
 |none=>rfl
 |some s' =>
  have h2:b4u (b.take k++b.drop k)=some s:=by rw[List.take_append_drop];exact h
  have:=congrArg List.length (e0g h' h2)
  rw[List.length_drop] at this
  simp at this
  omega
end Go.Rb.R5

namespace Go.Rb.R5
open Go.Rb
theorem c3d{σ R:Type}{f:(σ→Option R)→σ→Option R}{s0:σ}(st:Nat→σ)(k:Nat)(p:Nat→Bool)(no fin:Option R)(h0:st 0=s0)
  (hb:∀rec i,i<k→f rec (st i)=if p i=true then rec (st (i+1)) else no) (he:∀rec,f rec (st k)=fin) {n:Nat} (hn:k<n):a0x f n s0=if(List.range k).all p=true then fin else no:=by
 have key:∀(m n i:Nat),i+m=k→m<n→a0x f n (st i)=if(List.range' i m).all p=true then fin else no:=by
  intro m
  induction m with
  |zero =>
   intro n i hi hn
   obtain⟨n,rfl⟩:∃n',n=n'+1:=⟨n - 1,by omega⟩
   obtain rfl:i=k:=by omega
   unfold a0x
   rw[he];simp
  |succ m ih =>
   intro n i hi hn
   obtain⟨n,rfl⟩:∃n',n=n'+1:=⟨n - 1,by omega⟩
   unfold a0x
   rw[hb _ i (by omega),List.range'_succ,List.all_cons]
   cases hp:p i with
   |true=>rw[if_pos rfl,ih n (i+1) (by omega) (by omega),Bool.true_and]
   |false=>rw[if_neg (by simp),if_neg (by simp)]
 subst h0
 rw[key k n 0 (by omega) hn,List.range_eq_range']
theorem c5r(n:Nat)(v:Vl):a9g n (v,())=some ((b7f v,()),()):=by
 unfold a9g b7f
 dsimp only
 by_cases h0:v.1=0
 ·rw[if_pos (by simpa using h0),if_pos h0]
 ·rw[if_neg (by simpa using h0),if_neg h0]
  by_cases h4:v.1=4
  ·rw[if_pos (by simpa using h4),if_pos h4]
  ·rw[if_neg (by simpa using h4),if_neg h4]
theorem d3g(v:Vl):(b7f v=0∧v.1=0)∨(b7f v=2∧v.1=4)∨(b7f v=1∧v.1≠0∧v.1≠4):=by
 unfold b7f
 by_cases h0:v.1=0
 ·simp[h0]
 ·by_cases h4:v.1=4
  ·simp[h4]
  ·simp[h0,h4]
theorem a7o(n:Nat)(x y:Vl):a2y n (x,y,())=some ((cmpG x y,()),()):=by
 unfold a2y cmpG
 dsimp only
 rw[c5r,c5r]
 simp only[Option.bind_some]
 have hs:=a7p x.2.2.1 y.2.2.1
 have ht:=a7p y.2.2.1 x.2.2.1
 have hw:=b5f x.2.2.1 y.2.2.1
 have hi:=e2y x.2.2.1 y.2.2.1
 rcases d3g x with⟨a,a0⟩|⟨a,a0⟩|⟨a,a0,a4⟩ <;> rcases d3g y with⟨b,b0⟩|⟨b,b0⟩|⟨b,b0,b4⟩ <;> rw[a,b]
 ·simp[a0]
 ·simp[cmpZ]
 ·simp[cmpZ]
 ·simp[cmpZ]
 ·rw[hs,ht,hw]
  by_cases h1:cmpI x.2.2.1 y.2.2.1<0
  ·have:cmpI x.2.2.1 y.2.2.1=-1:=by omega
   simp[a0,this]
  ·by_cases h2:0<cmpI x.2.2.1 y.2.2.1
   ·have:cmpI x.2.2.1 y.2.2.1=1:=by omega
    simp[a0,this]
   ·have:cmpI x.2.2.1 y.2.2.1=0:=by omega
    simp[a0,this]
 ·simp[cmpZ]
 ·simp[cmpZ]
 ·simp[cmpZ]
 ·by_cases h1:x.2.1<y.2.1
  ·simp[a0,a4,cmpZ,h1]
  ·by_cases h2:y.2.1<x.2.1
   ·simp[a0,a4,cmpZ,h1,h2]
   ·simp[a0,a4,cmpZ,h1,h2]
theorem f0o{n:Nat}{cs:List (List Vl)}{i:Int}(hi:0≤i∧i<cs.length)(hl:∀l,l∈cs→l.length<100000∧l.length<n):b0o n (cs,i,())=some ((a9e (cs.getD i.toNat []),()),()):=by
 have hil:i.toNat<cs.length:=by omega
 obtain⟨h1,h2⟩:=hl _ (List.getElem_mem hil)
 unfold b0o a9e
 dsimp only
 rw[if_neg (by simp <;> omega),if_neg (by simp <;> omega),a0h hil]
 generalize cs[i.toNat]=l at h1 h2
 refine Eq.trans (c3d (fun j=>((j+1:Nat):Int)) (l.length - 1) (fun j=>decide (0≤cmpG (l.getD (j+1) a2d) (l.getD j a2d))) (some ((false,()),())) (some ((true,()),())) (by rfl) ?_ ?_ (by omega)) ?_
 ·intro rec j hj
  have hw:IntKind.i64.wrap (((j+1:Nat):Int) - 1)=(j:Int):=by rw[a0j (by omega) (by omega)];omega
  rw[a2b hi.1 hi.2,if_pos (by simp <;> omega),a2b hi.1 hi.2,hw,a0c (by omega),a2b hi.1 hi.2,a0c (by omega),a7o,a0e (by omega),Int.toNat_natCast,Int.toNat_natCast]
  simp only[Option.bind_some]
  have ha:=e1e (l.getD (j+1) a2d) (l.getD j a2d)
  change (if decide (0<cmpG (l.getD j a2d) (l.getD (j+1) a2d))=true then _ else _)=_
  rw[ha]
  by_cases h:0≤cmpG (l.getD (j+1) a2d) (l.getD j a2d)
  ·rw[if_neg (by rw[decide_eq_true_eq];omega),if_pos (decide_eq_true h)]
  ·rw[if_pos (decide_eq_true (by omega)),if_neg (by rw[decide_eq_true_eq];exact h)]
 ·intro rec
  rw[a2b hi.1 hi.2,if_neg (by simp <;> omega)]
 ·cases(List.range (l.length - 1)).all fun j=>decide (0≤cmpG (l.getD (j+1) a2d) (l.getD j a2d)) <;> rfl
theorem e7u(l:List Vl)(v:Vl):a6o (l++[v])=if v.1=0 then a6o l else a6o l++[v]:=by
 unfold a6o isN
 rw[List.filter_append]
 by_cases h:v.1=0 <;> simp[h]
theorem f0r(v:Vl):minF v v=v:=by unfold minF;split <;> rfl
theorem f2r(v:Vl):maxF v v=v:=by unfold maxF;split <;> rfl
theorem d6r{n:Nat}{l:List Vl}(hl:l.length<100000)(hn:l.length<n):b2v n (l,())=some ((a6h l,()),()):=by
 unfold b2v
 dsimp only
 refine a1n (fun i=>(a6h (l.take i),!(a6o (l.take i)).isEmpty,(i:Int))) l.length rfl ?_ ?_ (by omega)
 ·intro rec i hi
  have htl:(l.take i).length=i:=by simp <;> omega
  have hs:=b8x (l.take i)
  dsimp only
  rw[if_pos (by simp <;> omega),a0c hi,Int.toNat_natCast,a0h hi,a0e (by omega),List.take_succ_eq_append_getElem hi]
  generalize l.take i=t at htl hs
  generalize l[i]=v
  have hsn:=e7u t v
  by_cases h0:v.1=0
  ·rw[if_pos h0] at hsn
   rw[if_pos (by simpa using h0),hsn]
   congr 1
   unfold a6h
   rw[hsn]
   split
   ·rename_i h
    simp only[List.length_append,List.length_singleton]
    rw[a0j (by omega) (by omega)]
    simp
   ·rename_i w r h
    rw[h] at hs
    simp only[List.length_append,List.length_singleton]
    rw[a0j (by omega) (by omega)]
    congr 2
    omega
  ·rw[if_neg h0] at hsn
   rw[if_neg (by simpa using h0)]
   unfold b3q
   dsimp only
   cases hc:a6o t with
   |nil =>
    rw[hc] at hsn
    rw[if_pos (by simp),a0c hi,if_pos (by simp),a0c hi,hsn]
    congr 1
    unfold a6h
    rw[hc,hsn]
    simp[f0r,f2r]
   |cons w r =>
    rw[hc] at hsn hs
    have hz:a6h t=((t.length:Int) - ((w::r).length:Int),(w::r).foldl minF w,(w::r).foldl maxF w,()):=by unfold a6h;rw[hc]
    have hz2:a6h (t++[v])=((t.length:Int) - ((w::r).length:Int),minF ((w::r).foldl minF w) v,maxF ((w::r).foldl maxF w) v,()):=by
     unfold a6h
     rw[hsn]
     simp only[List.cons_append,List.length_append,List.length_cons,List.length_nil]
     rw[←List.cons_append,List.foldl_append,List.foldl_append]
     simp only[List.foldl_cons,List.foldl_nil]
     congr 1
     omega
    rw[hsn,hz,hz2]
    generalize (w::r).foldl minF w=a
    generalize (w::r).foldl maxF w=b
    rw[if_neg (by simp),a0c hi,a7o]
    simp only[Option.bind_some]
    unfold minF maxF
    by_cases h1:cmpG v a<0
    ·rw[if_pos (by simpa using h1),if_pos h1,a0c hi]
     rw[if_neg (by simp),a0c hi,a7o]
     simp only[Option.bind_some]
     by_cases h2:0<cmpG v b
     ·rw[if_pos (by simpa using h2),if_pos h2,a0c hi];rfl
     ·rw[if_neg (by simpa using h2),if_neg h2];rfl
    ·rw[if_neg (by simpa using h1),if_neg h1]
     rw[if_neg (by simp),a0c hi,a7o]
     simp only[Option.bind_some]
     by_cases h2:0<cmpG v b
     ·rw[if_pos (by simpa using h2),if_pos h2,a0c hi];rfl
     ·rw[if_neg (by simpa using h2),if_neg h2];rfl
 ·intro rec
  dsimp only
  rw[if_neg (by simp),List.take_length]
end Go.Rb.R5

namespace Go.Rb.R5
open Go.Rb
theorem e7r(n:Nat)(t:Int)(v:Vl):b0m n (t,v,())=some ((a6w t v,()),()):=by
 rw[e3w]
 unfold a6w isT
 simp only[Bool.and_assoc]
theorem g1v(x y:Zn):(!((decide (x.1=y.1))&&(((decide (x.2.1.1=y.2.1.1))&&((decide (x.2.1.2.1=y.2.1.2.1))&&(decide (x.2.1.2.2.1=y.2.1.2.2.1))))&&((decide (x.2.2.1.1=y.2.2.1.1))&&((decide (x.2.2.1.2.1=y.2.2.1.2.1))&&(decide (x.2.2.1.2.2.1=y.2.2.1.2.2.1)))))))=!eqZ x y:=by
 unfold eqZ
 rw[eqVl,eqVl]
theorem d4f{n:Nat}{s:Sg}(hl:∀l,l∈s.2.2.2.2.2.2.1→l.length<100000)(hn:100001≤n):a8n n (s,())=some ((a8m s,()),()):=by
 unfold a8n
 dsimp only
 have no:¬b5m s→some ((false,()),())=some ((a8m s,()),()):=fun h=>by
  unfold a8m;rw[decide_eq_false h,Bool.false_and]
 by_cases c1:s.1<0
 ·rw[if_pos (decide_eq_true (by omega))];exact no fun h=>by have:=h.1;omega
 rw[if_neg (by rw[decide_eq_true_eq];omega)]
 by_cases c2:200<s.1
 ·rw[if_pos (decide_eq_true (by omega))];exact no fun h=>by have:=h.2.1;omega
 rw[if_neg (by rw[decide_eq_true_eq];omega)]
 by_cases c3:s.2.1<0
 ·rw[if_pos (decide_eq_true (by omega))];exact no fun h=>by have:=h.2.2.1;omega
 rw[if_neg (by rw[decide_eq_true_eq];omega)]
 by_cases c4:4≤s.2.1
 ·rw[if_pos (decide_eq_true (by omega))];exact no fun h=>by have:=h.2.2.2.1;omega
 rw[if_neg (by rw[decide_eq_true_eq];omega)]
 by_cases c5:s.2.2.2.2.2.2.1.length<1
 ·rw[if_pos (decide_eq_true (by omega))];exact no fun h=>by have:=h.2.2.2.2.1;omega
 rw[if_neg (by rw[decide_eq_true_eq];omega)]
 by_cases c6:6<s.2.2.2.2.2.2.1.length
 ·rw[if_pos (decide_eq_true (by omega))];exact no fun h=>by have:=h.2.2.2.2.2.1;omega
 rw[if_neg (by rw[decide_eq_true_eq];omega)]
 by_cases c7:s.2.2.2.1.length≠s.2.2.2.2.2.2.1.length
 ·rw[if_pos (by rw[Bool.not_eq_true',decide_eq_false_iff_not];omega)];exact no fun h=>by have:=h.2.2.2.2.2.2.1;omega
 rw[if_neg (by rw[Bool.not_eq_true',decide_eq_false_iff_not];omega)]
 by_cases c8:s.2.2.2.2.1.length≠s.2.2.2.2.2.2.1.length
 ·rw[if_pos (by rw[Bool.not_eq_true',decide_eq_false_iff_not];omega)];exact no fun h=>by have:=h.2.2.2.2.2.2.2.1;omega
 rw[if_neg (by rw[Bool.not_eq_true',decide_eq_false_iff_not];omega)]
 by_cases c9:s.2.2.2.2.2.1.length≠s.2.2.2.2.2.2.1.length
 ·rw[if_pos (by rw[Bool.not_eq_true',decide_eq_false_iff_not];omega)];exact no fun h=>by have:=h.2.2.2.2.2.2.2.2.1;omega
 rw[if_neg (by rw[Bool.not_eq_true',decide_eq_false_iff_not];omega)]
 by_cases c12:s.2.2.1<0
 ·rw[if_pos (decide_eq_true (by omega))];exact no fun h=>by obtain⟨a1,a2,a3,a4,a5,a6,a7,a8,a9,a10,a11,a12,a13⟩:=h;omega
 rw[if_neg (by rw[decide_eq_true_eq];omega)]
 by_cases c13:(s.2.2.2.2.2.2.1.length:Int)<s.2.2.1
 ·rw[if_pos (decide_eq_true (by omega))];exact no fun h=>by obtain⟨a1,a2,a3,a4,a5,a6,a7,a8,a9,a10,a11,a12,a13⟩:=h;omega
 rw[if_neg (by rw[decide_eq_true_eq];omega)]
 have hIs:b0o n (s.2.2.2.2.2.2.1,IntKind.i64.wrap (s.2.2.1 - 1),())=some ((decide (s.2.2.1=0)||a9e (s.2.2.2.2.2.2.1.getD (s.2.2.1 - 1).toNat []),()),()):=by
  rw[a0j (by omega) (by omega)]
  by_cases h0:s.2.2.1=0
  ·unfold b0o
   rw[if_pos (by simp[h0]),decide_eq_true h0,Bool.true_or]
  ·rw[f0o (by omega) (fun l h=>⟨hl l h,by have:=hl l h;omega⟩),decide_eq_false h0,Bool.false_or]
 rw[hIs]
 simp only[Option.bind_some]
 have hms:a8m s=(decide (b5m s)&&((List.range s.2.2.2.2.2.2.1.length).all (c2m s)&&(decide (s.2.2.1=0)||a9e (s.2.2.2.2.2.2.1.getD (s.2.2.1 - 1).toNat [])))):=rfl
 cases hS:(decide (s.2.2.1=0)||a9e (s.2.2.2.2.2.2.1.getD (s.2.2.1 - 1).toNat [])) with
 |false =>
  rw[if_pos (by rfl),hms,hS,Bool.and_false,Bool.and_false]
 |true =>
  rw[if_neg (by simp),a2b (by omega) (by omega),hms,hS,Bool.and_true]
  have hr0:(s.2.2.2.2.2.2.1.getD (0:Int).toNat []).length=b0b s.2.2.2.2.2.2.1:=rfl
  rw[hr0]
  have hrl:b0b s.2.2.2.2.2.2.1<100000:=by
   rw[←hr0,a0h (show(0:Int).toNat<s.2.2.2.2.2.2.1.length by simp <;> omega)]
   exact hl _ (List.getElem_mem _)
  refine Eq.trans (c3d (fun i=>(i:Int)) s.2.2.2.2.2.2.1.length (c2m s) (some ((false,()),())) (some ((decide (1≤b0b s.2.2.2.2.2.2.1)&&decide (b0b s.2.2.2.2.2.2.1≤16),()),())) (by rfl) ?_ ?_ (by omega)) ?_
  ·intro rec i hi
   rw[if_pos (by simp <;> omega),a0c (by omega),a0c (by omega),d0d]
   simp only[Option.bind_some,Int.toNat_natCast]
   unfold c2m e8q
   cases hu:b3j (s.2.2.2.2.1.getD i 0) (s.2.2.2.1.getD i 0) with
   |none=>simp
   |some u =>
    dsimp only
    rw[if_neg (by simp),a0c (by omega)]
    by_cases hue:u=s.2.2.2.2.1.getD i 0
    rotate_left
    ·rw[if_pos (by simpa using hue),if_neg (by rw[Bool.and_eq_true,decide_eq_true_eq];rintro⟨h,_⟩;exact hue (Option.some.inj h))]
    rw[if_neg (by simpa using hue),decide_eq_true (show some u=some (s.2.2.2.2.1.getD i 0) by rw[hue]),Bool.true_and,a0c hi]
    have hli:(s.2.2.2.2.2.2.1.getD i []).length<100000:=by
     rw[a0h hi];exact hl _ (List.getElem_mem _)
    by_cases hle:(s.2.2.2.2.2.2.1.getD i []).length=b0b s.2.2.2.2.2.2.1
    rotate_left
    ·rw[if_pos (by rw[Bool.not_eq_true',decide_eq_false_iff_not];omega),decide_eq_false hle,Bool.false_and,if_neg (by simp)]
    rw[if_neg (by rw[Bool.not_eq_true',decide_eq_false_iff_not];omega),decide_eq_true hle,Bool.true_and]
    have ht:s.2.2.2.1.getD i 0=s.2.2.2.1.getD i 0:=rfl
    refine Eq.trans (c3d (fun k=>(k:Int)) (s.2.2.2.2.2.2.1.getD i []).length (fun k=>a6w (s.2.2.2.1.getD i 0) ((s.2.2.2.2.2.2.1.getD i []).getD k a2d)) (some ((false,()),())) (if eqZ (s.2.2.2.2.2.1.getD i c0k) (a6h (s.2.2.2.2.2.2.1.getD i []))=true then rec ((i+1:Nat):Int) else some ((false,()),())) (by rfl) ?_ ?_ (by omega)) ?_
    ·intro rec2 k hk
     rw[if_pos (by simp <;> omega),a0c (by omega),a0c hi,a0c hk,e7r,a0e (by omega),Int.toNat_natCast]
     simp only[Option.bind_some]
     change (if(!a6w (s.2.2.2.1.getD i 0) ((s.2.2.2.2.2.2.1.getD i []).getD k a2d))=true then _ else _)=_
     cases a6w (s.2.2.2.1.getD i 0) ((s.2.2.2.2.2.2.1.getD i []).getD k a2d) <;> rfl
    ·intro rec2
     rw[if_neg (by rw[decide_eq_true_eq];omega),a0c (by omega),a0c hi,d6r hli (by omega)]
     simp only[Option.bind_some]
     have hz:=g1v (s.2.2.2.2.2.1.getD i ((0:Int),((0:Int),(0:Int),[],()),((0:Int),(0:Int),[],()),())) (a6h (s.2.2.2.2.2.2.1.getD i []))
     change _=!eqZ (s.2.2.2.2.2.1.getD i c0k) (a6h (s.2.2.2.2.2.2.1.getD i [])) at hz
     rw[a0e (by omega)]
     cases hb:eqZ (s.2.2.2.2.2.1.getD i c0k) (a6h (s.2.2.2.2.2.2.1.getD i [])) with
     |true =>
      rw[hb] at hz
      rw[if_neg (fun h=>by rw[hz] at h;cases h),if_pos rfl]
     |false =>
      rw[hb] at hz
      rw[if_pos (hz.trans Bool.not_false),if_neg Bool.false_ne_true]
    ·have hall:((List.range (s.2.2.2.2.2.2.1.getD i []).length).all fun k=>a6w (s.2.2.2.1.getD i 0) ((s.2.2.2.2.2.2.1.getD i []).getD k a2d))=(s.2.2.2.2.2.2.1.getD i []).all (a6w (s.2.2.2.1.getD i 0)):=by
      generalize s.2.2.2.2.2.2.1.getD i []=l
      conv=>rhs;rw[←a5n l a2d,List.all_map]
      rfl
     rw[hall]
     cases(s.2.2.2.2.2.2.1.getD i []).all (a6w (s.2.2.2.1.getD i 0)) <;> cases eqZ (s.2.2.2.2.2.1.getD i c0k) (a6h (s.2.2.2.2.2.2.1.getD i [])) <;> rfl
  ·intro rec
   rw[if_neg (by simp)]
   by_cases h1:1≤b0b s.2.2.2.2.2.2.1
   ·rw[if_pos (decide_eq_true (by omega)),decide_eq_true h1,Bool.true_and]
    by_cases h2:b0b s.2.2.2.2.2.2.1≤16
    ·rw[decide_eq_true h2,decide_eq_true (by omega)]
    ·rw[decide_eq_false h2,decide_eq_false (by omega)]
   ·rw[if_neg (by rw[decide_eq_true_eq];omega),decide_eq_false h1,Bool.false_and]
  ·by_cases hr:1≤b0b s.2.2.2.2.2.2.1∧b0b s.2.2.2.2.2.2.1≤16
   ·have hA:b5m s:=⟨by omega,by omega,by omega,by omega,by omega,by omega,by omega,by omega,by omega,by omega,by omega,by omega,by omega⟩
    rw[decide_eq_true hA,decide_eq_true hr.1,decide_eq_true hr.2,Bool.true_and]
    cases(List.range s.2.2.2.2.2.2.1.length).all (c2m s) <;> rfl
   ·have hA:¬b5m s:=fun h=>by obtain⟨a1,a2,a3,a4,a5,a6,a7,a8,a9,a10,a11,a12,a13⟩:=h;omega
    have hb:(decide (1≤b0b s.2.2.2.2.2.2.1)&&decide (b0b s.2.2.2.2.2.2.1≤16))=false:=by
     rw[Bool.and_eq_false_iff,decide_eq_false_iff_not,decide_eq_false_iff_not];omega
    rw[decide_eq_false hA,hb,Bool.false_and]
    cases(List.range s.2.2.2.2.2.2.1.length).all (c2m s) <;> rfl
theorem c2a{n:Nat}{l:List Int}(hl:l.length<n)(hc:l.length<1000000):a5b n (l,l,())=some ((true,()),()):=by
 unfold a5b
 dsimp only
 rw[if_neg (by simp)]
 refine a1n (st:=fun i=>(i:Int)) l.length rfl ?_ ?_ hl
 ·intro rec i hi
  rw[if_pos (by simp <;> omega),a0c hi,a0c hi,if_neg (by simp),a0e (by omega)]
 ·intro rec
  rw[if_neg (by simp)]
theorem d4o{n:Nat}{l:List Vl}(hl:l.length<n)(hc:l.length<1000000):a5x n (l,l,())=some ((true,()),()):=by
 unfold a5x
 dsimp only
 rw[if_neg (by simp)]
 refine a1n (st:=fun i=>(i:Int)) l.length rfl ?_ ?_ hl
 ·intro rec i hi
  rw[if_pos (by simp <;> omega),a0c hi,a0c hi,if_neg (by simp),a0e (by omega)]
 ·intro rec
  rw[if_neg (by simp)]
theorem d4x{n:Nat}{cs:List (List Vl)}(hn:cs.length<n)(hc:cs.length<1000000)(hl:∀l,l∈cs→l.length<n∧l.length<1000000):a7g n (cs,cs,())=some ((true,()),()):=by
 unfold a7g
 dsimp only
 rw[if_neg (by simp)]
 refine a1n (st:=fun i=>(i:Int)) cs.length rfl ?_ ?_ hn
 ·intro rec i hi
  have:=hl _ (List.getElem_mem hi)
  rw[if_pos (by simp <;> omega),a0c hi,a0c hi,Int.toNat_natCast,a0h hi,d4o this.1 this.2]
  simp only[Option.bind_some]
  rw[if_neg (by simp),a0e (by omega)]
 ·intro rec
  rw[if_neg (by simp)]
theorem d7f{n:Nat}{s:Sg}(hn:100001≤n)(h1:s.2.2.2.1.length<100000)(h2:s.2.2.2.2.1.length<100000)(h3:s.2.2.2.2.2.1.length<100000)(h4:s.2.2.2.2.2.2.1.length<100000)(hl:∀l,l∈s.2.2.2.2.2.2.1→l.length<100000) :
  a4u n (s,s,())=some ((true,()),()):=by
 unfold a4u
 dsimp only
 rw[if_neg (by simp),if_neg (by simp),if_neg (by simp),c2a (by omega) (by omega)]
 simp only[Option.bind_some]
 rw[if_neg (by simp),c2a (by omega) (by omega)]
 simp only[Option.bind_some]
 rw[if_neg (by simp),if_neg (by simp),d4x (by omega) (by omega) (fun l h=>⟨by have:=hl l h;omega,by have:=hl l h;omega⟩)]
 simp only[Option.bind_some]
 rw[if_neg (by simp)]
 refine a1n (st:=fun i=>(i:Int)) s.2.2.2.2.2.1.length rfl ?_ ?_ (by omega)
 ·intro rec i hi
  rw[if_pos (by simp <;> omega),a0c hi,a0c hi,if_neg (by simp),a0e (by omega)]
 ·intro rec
  rw[if_neg (by simp)]
end Go.Rb.R5

namespace Go.Rb.R5
open Go.Rb
def uAt(types enc:List Int)(i:Nat):Int:=(b3j (enc.getD i 0) (types.getD i 0)).getD 0
def isAt(types enc:List Int)(i:Nat):Bool:=(b3j (enc.getD i 0) (types.getD i 0)).isSome
def mkSg(v p sb:Int)(types enc:List Int)(cs:List (List Vl)):Sg:=(v,p,sb,types,(List.range cs.length).map (uAt types enc),cs.map a6h,cs,())
def f6i(v p sb:Int)(types enc:List Int)(cs:List (List Vl)):Option Sg :=
 if types.length=cs.length∧enc.length=cs.length∧(List.range cs.length).all (isAt types enc)=true∧a8m (mkSg v p sb types enc cs)=true then some (mkSg v p sb types enc cs) else none
def outS(o:Option Sg):Sg×Bool×Unit:=match o with
 |some s=>(s,true,())
 |none=>(g2f,false,())
theorem f5s(cs:List (List Vl)):(List.range cs.length).map (fun k=>a6h (cs.getD k []))=cs.map a6h:=by
 conv=>rhs;rw[←a5n cs [],List.map_map]
 rfl
theorem b0t{α:Type}(f:Nat→α)(i:Nat):(List.range (i+1)).map f=(List.range i).map f++[f i]:=by
 rw[List.range_succ,List.map_append];rfl
theorem e4f{n:Nat}{v p sb:Int}{types enc:List Int}{cs:List (List Vl)}(ht:types.length<100000)(hc:cs.length<100000)(hl:∀l,l∈cs→l.length<100000)(hn:100001≤n) :
  b1h n (v,p,sb,types,enc,cs,())=some (outS (f6i v p sb types enc cs),()):=by
 have hro:=a2k
 unfold b1h
 dsimp only
 rw[if_pos (by simp <;> omega)]
 refine Eq.trans (c3d (fun i=>(g2f,(v,p,sb,types,(List.range i).map (uAt types enc),(List.range i).map (fun k=>a6h (cs.getD k [])),(List.range i).map (fun k=>cs.getD k []),()),(i:Int))) cs.length (fun i=>decide (i<enc.length)&&(decide (i<types.length)&&isAt types enc i))
  (some (outS none,())) (some (outS (if enc.length=cs.length∧a8m (mkSg v p sb types enc cs)=true then some (mkSg v p sb types enc cs) else none),())) (by rfl) ?_ ?_ (by omega)) ?_
 ·intro rec i hi
  have hli:(cs.getD i []).length<100000:=by rw[a0h hi];exact hl _ (List.getElem_mem _)
  dsimp only
  rw[if_pos (by simp <;> omega)]
  by_cases h2:i<enc.length
  rotate_left
  ·rw[if_pos (by rw[decide_eq_true_eq];omega),decide_eq_false h2,Bool.false_and];rfl
  rw[if_neg (by rw[decide_eq_true_eq];omega),decide_eq_true h2,Bool.true_and]
  by_cases h1:i<types.length
  rotate_left
  ·rw[if_pos (by rw[decide_eq_true_eq];omega),decide_eq_false h1,Bool.false_and];rfl
  rw[if_neg (by rw[decide_eq_true_eq];omega),decide_eq_true h1,Bool.true_and,a0c h2,a0c h1,d0d,Int.toNat_natCast]
  simp only[Option.bind_some]
  unfold isAt
  have hu:uAt types enc i=(b3j (enc.getD i 0) (types.getD i 0)).getD 0:=rfl
  cases hus:b3j (enc.getD i 0) (types.getD i 0) with
  |none=>rw[if_pos (by rfl)];rfl
  |some u =>
   rw[hus] at hu
   rw[if_neg (by simp),if_pos (by simp <;> omega),a0c hi,d6r hli (by omega)]
   simp only[Option.bind_some]
   rw[if_pos (by simp <;> omega),a0c hi,if_pos (by simp only[List.length_nil,Nat.zero_add];omega),if_pos (by simp <;> omega),a0e (by omega),b0t,b0t,b0t,hu]
   rfl
 ·intro rec
  dsimp only
  rw[if_neg (by simp),f5s,a5n]
  by_cases h2:enc.length=cs.length
  rotate_left
  ·rw[if_pos (by rw[Bool.not_eq_true',decide_eq_false_iff_not];omega),if_neg (fun h=>h2 h.1)];rfl
  rw[if_neg (by rw[Bool.not_eq_true',decide_eq_false_iff_not];omega)]
  rw[d4f (fun l h=>hl l h) hn]
  simp only[Option.bind_some]
  change (if(!a8m (mkSg v p sb types enc cs))=true then _ else _)=_
  simp only[h2,true_and]
  cases a8m (mkSg v p sb types enc cs) <;> rfl
 ·have hm:a8m (mkSg v p sb types enc cs)=true→types.length=cs.length:=fun h=>by
   unfold a8m at h
   rw[Bool.and_eq_true,decide_eq_true_eq] at h
   obtain⟨a1,a2,a3,a4,a5,a6,a7,a8,a9,a10,a11,a12,a13⟩:=h.1
   exact a7
  unfold f6i
  by_cases hg:types.length=cs.length∧enc.length=cs.length
  ·have hall:((List.range cs.length).all fun i=>decide (i<enc.length)&&(decide (i<types.length)&&isAt types enc i))=(List.range cs.length).all (isAt types enc):=by
    rw[Bool.eq_iff_iff,List.all_eq_true,List.all_eq_true]
    refine forall_congr' fun i=>forall_congr' fun hi=>?_
    have:=List.mem_range.1 hi
    rw[decide_eq_true (show i<enc.length by omega),decide_eq_true (show i<types.length by omega),Bool.true_and,Bool.true_and]
   rw[hall]
   simp only[hg.1,hg.2,true_and]
   cases(List.range cs.length).all (isAt types enc) <;> cases a8m (mkSg v p sb types enc cs) <;> rfl
  ·have e1:¬(types.length=cs.length∧enc.length=cs.length∧(List.range cs.length).all (isAt types enc)=true∧a8m (mkSg v p sb types enc cs)=true):=fun h=>hg ⟨h.1,h.2.1⟩
   have e2:¬(enc.length=cs.length∧a8m (mkSg v p sb types enc cs)=true):=fun h=>hg ⟨hm h.2,h.1⟩
   rw[if_neg e1,if_neg e2]
   split <;> rfl
end Go.Rb.R5

namespace Go.Rb.R5
open Go.Rb
theorem f3d{α:Type}(r:List α)(v d:α):(r++[v]).getD r.length d=v:=by simp[List.getD_eq_getElem?_getD]
theorem b9a{n:Nat}{b:List Int}{a m:Int}(hb:a4a b)(hl:b.length<100000)(ha:0≤a∧a≤b.length)(hm:1≤m∧m≤1000) :
  Gets (a0u n ((b,a,()),m,())) fun y=>∃v a,y=((v,()),((b,a,()),()))∧(0≤v∧v<m)∧0≤a∧a≤b.length:=by
 unfold a0u
 dsimp only
 by_cases h:(b.length:Int)≤a
 ·rw[if_pos (by simpa using h)]
  exact Gets.some ⟨_,_,rfl,by omega,ha⟩
 ·rw[if_neg (by simpa using h),a0j (x:=a+1) (by omega) (by omega),a0j (x:=a+1 - 1) (by omega) (by omega),show a+1 - 1=a by omega]
  refine Gets.atI (by omega) (by omega) ?_
  rw[if_neg (by omega)]
  have hx:b.getD a.toNat 0∈b:=by
   rw[a0h (show a.toNat<b.length by omega)]
   exact List.getElem_mem _
  have h2:=hb _ hx
  rw[a0j (by omega) (by omega)]
  refine Gets.some ⟨_,_,rfl,⟨?_,?_⟩,by omega,by omega⟩
  ·exact Int.tmod_nonneg _ h2.1
  ·exact Int.tmod_lt_of_pos _ (by omega)
theorem f6r{v:Int}(h:0≤v∧v<9):v=0∨v=1∨v=2∨v=3∨v=4∨v=5∨v=6∨v=7∨v=8:=by omega
theorem f7d{n:Nat}{b:List Int}{a k:Int}(hb:a4a b)(hl:b.length<100000)(ha:0≤a∧a≤b.length)(hk:1≤k∧k≤4) :
  Gets (a5k n ((b,a,()),k,())) fun y=>∃v a,y=((v,()),((b,a,()),()))∧(okV v∧a6w k v=true)∧0≤a∧a≤b.length:=by
 have v0:okV ((0:Int),(0:Int),[],())∧a6w k ((0:Int),(0:Int),[],())=true:=by
  refine⟨by unfold okV;decide,?_⟩
  have:k=1∨k=2∨k=3∨k=4:=by omega
  rcases this with rfl|rfl|rfl|rfl <;> decide
 unfold a5k
 refine Gets.bind (b9a hb hl ha (by omega)) ?_
 rintro _ ⟨v,a,rfl,hv,ha2⟩
 refine Gets.join (I:=fun s=>s=((b,a,()),0,0,[],())) ?_ ?_
 ·rintro _ rfl
  dsimp only
  by_cases h1:k=1
  ·subst h1
   rw[if_pos (by simp)]
   rcases f6r hv with rfl|rfl|rfl|rfl|rfl|rfl|rfl|rfl|rfl <;>
    exact Gets.atI (by decide) (by decide) (Gets.some ⟨_,_,rfl,⟨by unfold okV;decide,by decide⟩,ha2⟩)
  rw[if_neg (by simpa using h1)]
  by_cases h2:k=2
  ·subst h2
   rw[if_pos (by simp)]
   rcases f6r hv with rfl|rfl|rfl|rfl|rfl|rfl|rfl|rfl|rfl <;>
    exact Gets.atI (by decide) (by decide) (Gets.some ⟨_,_,rfl,⟨by unfold okV;decide,by decide⟩,ha2⟩)
  rw[if_neg (by simpa using h2)]
  by_cases h3:k=3
  ·subst h3
   rw[if_pos (by simp)]
   rcases f6r hv with rfl|rfl|rfl|rfl|rfl|rfl|rfl|rfl|rfl <;>
    exact Gets.some ⟨_,_,rfl,⟨by unfold okV;decide,by decide⟩,ha2⟩
  rw[if_neg (by simpa using h3)]
  obtain rfl:k=4:=by omega
  rcases f6r hv with rfl|rfl|rfl|rfl|rfl|rfl|rfl|rfl|rfl <;>
   exact Gets.atI (by decide) (by decide) (Gets.some ⟨_,_,rfl,⟨by unfold okV;decide,by decide⟩,ha2⟩)
 ·intro J hJ
  dsimp only
  by_cases h0:v=0
  ·rw[if_pos (by simpa using h0)]
   unfold a7z
   simp only[Option.bind_some]
   cases hd:(!decide ((b.length:Int)≤a)) with
   |true =>
    rw[if_pos rfl]
    exact Gets.some ⟨_,_,rfl,v0,ha2⟩
   |false =>
    rw[if_neg Bool.false_ne_true]
    exact hJ _ rfl
  ·rw[if_neg (by simpa using h0)]
   exact hJ _ rfl
abbrev Co:Type:=Int×List Int×Int×Unit
abbrev Ly:Type:=Int×Int×Int×List Int×Unit
def coOK(cs:List Co):Prop:=∀c,c∈cs→1≤c.2.2.1∧c.2.2.1≤4
theorem coOK.snoc{cs:List Co}{c:Co}(h:coOK cs)(hc:1≤c.2.2.1∧c.2.2.1≤4):coOK (cs++[c]):=by
 intro x hx
 rcases List.mem_append.1 hx with hx|hx
 ·exact h x hx
 ·obtain rfl:=List.mem_singleton.1 hx
  exact hc
theorem f4p{n:Nat}{b:List Int}{a:Int}(hb:a4a b)(hl:b.length<100000)(ha:0≤a∧a≤b.length)(hn:100≤n) :
  Gets (a4x n ((b,a,()),())) fun y=>∃(cs:List Co) (la:Int) (ly:Ly) (a:Int),y=(((cs,la,()),ly,()),((b,a,()),()))∧(2≤cs.length∧cs.length≤4∧coOK cs)∧(ly.2.2.2.1.length=cs.length∧∀e,e∈ly.2.2.2.1→1≤e∧e≤5)∧0≤a∧a≤b.length:=by
 have hro:=a2k
 unfold a4x
 dsimp only
 refine Gets.bind (b9a hb hl ha (by omega)) ?_
 rintro _ ⟨v,a,rfl,hv,ha2⟩
 refine Gets.bind (b9a hb hl ha2 (by omega)) ?_
 rintro _ ⟨w,a,rfl,hw,ha3⟩
 dsimp only
 rw[a0j (x:=1+v) (by omega) (by omega)]
 refine Gets.iter (I:=fun s=>∃(a:Int) (cs:List Co) (la i:Int),s=((b,a,()),(cs,la,()),i)∧(0≤a∧a≤b.length)∧(0≤i∧i≤2∧2≤cs.length∧(cs.length:Int)+i≤4)∧(0≤la∧la+i≤4)∧coOK cs)
  (μ:=fun s=>s.2.2.toNat) ⟨_,_,_,_,rfl,ha3,by simp <;> omega,by omega,?_⟩ (by simp <;> omega) ?_
 ·intro c hc
  simp only[List.mem_cons,List.not_mem_nil,or_false] at hc
  rcases hc with rfl|rfl
  ·dsimp only;omega
  ·dsimp only;omega
 rintro rec _ ⟨a,cs,la,i,rfl,h1,h2,h3,h4⟩ hrec
 dsimp only
 by_cases hi:0<i
 ·rw[if_pos (by simpa using hi),if_pos (by simp)]
  refine Gets.bind (b9a hb hl h1 (by omega)) ?_
  rintro _ ⟨v,a,rfl,hv,ha2⟩
  dsimp only
  rw[a0j (x:=1+v) (by omega) (by omega),a0j (x:=la+1) (by omega) (by omega),a0j (x:=i - 1) (by omega) (by omega),if_pos (by simp <;> omega)]
  exact hrec _ ⟨_,_,_,_,rfl,ha2,by simp <;> omega,by omega,h4.snoc (by dsimp only;omega)⟩ (by simp <;> omega)
 rw[if_neg (by simpa using hi)]
 refine Gets.iter (I:=fun s=>∃(a:Int) (ly:Ly) (i:Nat),s=((b,a,()),(cs,la,()),ly,(i:Int))∧(0≤a∧a≤b.length)∧i≤cs.length∧ly.2.2.2.1.length=i∧∀e,e∈ly.2.2.2.1→1≤e∧e≤5)
  (μ:=fun s=>cs.length - s.2.2.2.toNat) ⟨_,_,0,rfl,h1,by omega,rfl,by simp⟩ (by simp <;> omega) ?_
 rintro rec2 _ ⟨a,ly,i,rfl,g1,g2,g3,g4⟩ hrec2
 dsimp only
 by_cases hi:i<cs.length
 ·rw[if_pos (by simp <;> omega)]
  refine Gets.bind (b9a hb hl g1 (by omega)) ?_
  rintro _ ⟨v,a,rfl,hv,ha2⟩
  dsimp only
  rw[a0j (x:=1+v) (by omega) (by omega),a0e (by omega),if_pos (by simp <;> omega)]
  refine hrec2 _ ⟨_,_,i+1,rfl,ha2,by omega,by simp <;> omega,?_⟩ (by simp <;> omega)
  intro e he
  rcases List.mem_append.1 he with he|he
  ·exact g4 e he
  ·obtain rfl:=List.mem_singleton.1 he
   omega
 rw[if_neg (by simp <;> omega)]
 have hcl:1≤(cs.length:Int)∧(cs.length:Int)≤1000:=by omega
 refine Gets.join (I:=fun s=>∃(a so:Int),s=((b,a,()),(cs,la,()),so,ly.2)∧0≤a∧a≤b.length) ?_ ?_
 ·rintro _ ⟨a,so,rfl,ha⟩
  dsimp only
  refine Gets.bind (b9a hb hl ha (by omega)) ?_
  rintro _ ⟨v,a,rfl,hv,ha2⟩
  dsimp only
  refine Gets.dec (fun _=>?_) fun _=>Gets.some ⟨_,_,_,_,rfl,⟨by omega,by omega,h4⟩,⟨by dsimp only;omega,g4⟩,ha2⟩
  refine Gets.bind (b9a hb hl ha2 hcl) ?_
  rintro _ ⟨v,a,rfl,hv,ha2⟩
  dsimp only
  refine Gets.bind (b9a hb hl ha2 (by omega)) ?_
  rintro _ ⟨w,a,rfl,hw,ha2⟩
  exact Gets.some ⟨_,_,_,_,rfl,⟨by omega,by omega,h4⟩,⟨by dsimp only;omega,g4⟩,ha2⟩
 ·intro J hJ
  refine Gets.bind (b9a hb hl g1 (by omega)) ?_
  rintro _ ⟨v,a,rfl,hv,ha2⟩
  dsimp only
  refine Gets.dec (fun _=>?_) fun _=>hJ _ ⟨_,_,rfl,ha2⟩
  refine Gets.bind (b9a hb hl ha2 hcl) ?_
  rintro _ ⟨v,a,rfl,hv,ha2⟩
  exact hJ _ ⟨_,_,rfl,ha2⟩
def tyOf(cs:List Co)(i:Nat):Int:=(cs.getD i ((0:Int),[],(0:Int),())).2.2.1
def g3p(cs:List Co)(r:List Vl):Prop:=r.length=cs.length∧∀i,i<cs.length→okV (r.getD i a2d)∧a6w (tyOf cs i) (r.getD i a2d)=true
theorem g5b{n:Nat}{b:List Int}{a la:Int}{cs:List Co}(hb:a4a b)(hl:b.length<100000)(ha:0≤a∧a≤b.length)(hc:cs.length≤4)(hco:coOK cs)(hn:100≤n) :
  Gets (a6u n ((b,a,()),(cs,la,()),())) fun y=>∃r a,y=((r,()),((b,a,()),()))∧g3p cs r∧0≤a∧a≤b.length:=by
 have hro:=a2k
 unfold a6u
 refine Gets.iter (I:=fun s=>∃(a:Int) (r:List Vl) (i:Nat),s=((b,a,()),r,(i:Int))∧(0≤a∧a≤b.length)∧i≤cs.length∧r.length=i∧∀k,k<i→okV (r.getD k a2d)∧a6w (tyOf cs k) (r.getD k a2d)=true)
  (μ:=fun s=>cs.length - s.2.2.toNat) ⟨_,_,0,rfl,ha,by omega,rfl,fun k hk=>by omega⟩ (by simp <;> omega) ?_
 rintro rec _ ⟨a,r,i,rfl,h1,h2,h3,h4⟩ hrec
 dsimp only
 by_cases hi:i<cs.length
 ·rw[if_pos (by simp <;> omega),a0c hi,Int.toNat_natCast]
  have ht:=hco _ (List.getElem_mem hi)
  rw[←a0h hi (d:=((0:Int),[],(0:Int),()))] at ht
  refine Gets.bind (f7d hb hl h1 ht) ?_
  rintro _ ⟨v,a,rfl,hv,ha2⟩
  dsimp only
  rw[if_pos (by simp <;> omega),a0e (by omega)]
  refine hrec _ ⟨_,_,i+1,rfl,ha2,by omega,by simp <;> omega,?_⟩ (by simp <;> omega)
  intro k hk
  by_cases hki:k<i
  ·have:(r++[v]).getD k a2d=r.getD k a2d:=by
    rw[a0h (by simp <;> omega),a0h (by omega),List.getElem_append_left]
   rw[this];exact h4 k hki
  ·obtain rfl:k=i:=by omega
   have:(r++[v]).getD k a2d=v:=by
    rw[←h3];exact f3d r v a2d
   rw[this];exact hv
 ·rw[if_neg (by simp <;> omega)]
  obtain rfl:i=cs.length:=by omega
  exact Gets.some ⟨_,_,rfl,⟨h3,h4⟩,h1⟩
theorem g2j{n:Nat}{b:List Int}{a la m:Int}{cs:List Co}(hb:a4a b)(hl:b.length<100000)(ha:0≤a∧a≤b.length)(hc:cs.length≤4)(hco:coOK cs)(hm:0≤m∧m≤50)(hn:100≤n) :
  Gets (a5w n ((b,a,()),(cs,la,()),m,())) fun y=>∃rs a,y=((rs,()),((b,a,()),()))∧((rs.length:Int)=m∧∀r,r∈rs→g3p cs r)∧0≤a∧a≤b.length:=by
 have hro:=a2k
 unfold a5w
 refine Gets.iter (I:=fun s=>∃(a:Int) (rs:List (List Vl)) (i:Nat),s=((b,a,()),rs,(i:Int))∧(0≤a∧a≤b.length)∧(i:Int)≤m∧rs.length=i∧∀r,r∈rs→g3p cs r)
  (μ:=fun s=>m.toNat - s.2.2.toNat) ⟨_,_,0,rfl,ha,by omega,rfl,by simp⟩ (by simp <;> omega) ?_
 rintro rec _ ⟨a,rs,i,rfl,h1,h2,h3,h4⟩ hrec
 dsimp only
 by_cases hi:(i:Int)<m
 ·rw[if_pos (by simp <;> omega)]
  refine Gets.bind (g5b hb hl h1 hc hco hn) ?_
  rintro _ ⟨r,a,rfl,hr,ha2⟩
  dsimp only
  rw[if_pos (by simp <;> omega),a0e (by omega)]
  refine hrec _ ⟨_,_,i+1,rfl,ha2,by omega,by simp <;> omega,?_⟩ (by simp <;> omega)
  intro x hx
  rcases List.mem_append.1 hx with hx|hx
  ·exact h4 x hx
  ·obtain rfl:=List.mem_singleton.1 hx
   exact hr
 ·rw[if_neg (by simp <;> omega)]
  exact Gets.some ⟨_,_,rfl,⟨by omega,h4⟩,h1⟩
end Go.Rb.R5

namespace Go.Rb.R5
open Go.Rb
theorem b9p{α:Type}(l:List α)(i j:Nat)(x d:α)(hi:i<l.length):(l.set i x).getD j d=if i=j then x else l.getD j d:=by
 simp only[List.getD_eq_getElem?_getD,List.getElem?_set]
 by_cases h:i=j
 ·subst h;simp[hi]
 ·simp[h]
theorem c0u{α:Type}(m j:Nat)(x:α):(List.replicate m x).getD j x=x:=by
 simp only[List.getD_eq_getElem?_getD,List.getElem?_replicate]
 split <;> rfl
theorem c7c{n:Nat}{rs:List (List Vl)}{w:Nat}(hw:1≤w∧w≤6)(hr:∀r,r∈rs→r.length=w)(hl:rs.length≤50)(hn:100≤n) :
  Gets (a7k n (rs,(w:Int),())) fun y=>∃cs:List (List Vl),y=((cs,true,()),())∧cs.length=w∧∀j,j<w→cs.getD j []=rs.map (fun r=>r.getD j a2d):=by
 have hro:=a2k
 unfold a7k
 dsimp only
 rw[if_neg (by simp <;> omega),if_neg (by simp <;> omega),if_pos (by omega),Int.toNat_natCast]
 refine Gets.iter (I:=fun s=>∃(cs:List (List Vl)) (i:Nat),s=(cs,(i:Int))∧i≤rs.length∧cs.length=w∧∀j,j<w→cs.getD j []=(rs.take i).map (fun r=>r.getD j a2d))
  (μ:=fun s=>rs.length - s.2.toNat) ⟨_,0,rfl,by omega,by simp,fun j hj=>by rw[c0u];simp⟩ (by simp <;> omega) ?_
 rintro rec _ ⟨cs,i,rfl,h1,h2,h3⟩ hrec
 dsimp only
 by_cases hi:i<rs.length
 ·have hri:=hr _ (List.getElem_mem hi)
  rw[if_pos (by simp <;> omega),a0c hi,Int.toNat_natCast,a0h hi,if_neg (by simp[hri])]
  refine Gets.iter (I:=fun s=>∃(cs:List (List Vl)) (k:Nat),s=(cs,(k:Int))∧k≤w∧cs.length=w∧∀j,j<w→cs.getD j []=(rs.take (if j<k then i+1 else i)).map (fun r=>r.getD j a2d))
   (μ:=fun s=>w - s.2.toNat) ⟨_,0,rfl,by omega,h2,fun j hj=>by rw[if_neg (by omega)];exact h3 j hj⟩ (by simp <;> omega) ?_
  rintro rec2 _ ⟨cs,k,rfl,g1,g2,g3⟩ hrec2
  dsimp only
  by_cases hk:k<w
  ·have hck:=g3 k hk
   rw[if_neg (by omega)] at hck
   have hcl:(cs.getD k []).length≤50:=by rw[hck,List.length_map,List.length_take];omega
   rw[if_pos (by simp <;> omega),a0c (by omega),a0c hi,a0c (by omega),Int.toNat_natCast,if_pos (by simp only[List.length_singleton];omega),a0c (by omega),if_pos rfl,a0e (by omega)]
   refine hrec2 _ ⟨_,k+1,rfl,by omega,by rw[List.length_set];exact g2,?_⟩ (by simp <;> omega)
   intro j hj
   rw[b9p _ _ _ _ _ (by omega)]
   by_cases hkj:k=j
   ·subst hkj
    rw[if_pos rfl,if_pos (by omega),hck,List.take_succ_eq_append_getElem hi,List.map_append]
    rfl
   ·rw[if_neg hkj,g3 j hj]
    by_cases hjk:j<k
    ·rw[if_pos hjk,if_pos (by omega)]
    ·rw[if_neg hjk,if_neg (by omega)]
  ·rw[if_neg (by simp <;> omega),a0e (by omega)]
   refine hrec _ ⟨_,i+1,rfl,by omega,g2,fun j hj=>?_⟩ (by simp <;> omega)
   rw[g3 j hj,if_pos (by omega)]
 ·rw[if_neg (by simp <;> omega)]
  obtain rfl:i=rs.length:=by omega
  refine Gets.some ⟨_,rfl,h2,fun j hj=>?_⟩
  rw[h3 j hj,List.take_length]
def f0b(cs:List Co)(m:Nat)(tb:List (List Vl)):Prop:=tb.length=cs.length∧∀j,j<cs.length→(tb.getD j []).length=m∧∀v,v∈tb.getD j []→okV v∧a6w (tyOf cs j) v=true
theorem f8c{n:Nat}{b:List Int}{a la m:Int}{cs:List Co}(hb:a4a b)(hl:b.length<100000)(ha:0≤a∧a≤b.length)(hc:1≤cs.length∧cs.length≤4)(hco:coOK cs)(hm:0≤m∧m≤50)(hn:100≤n) :
  Gets (a5i n ((b,a,()),(cs,la,()),m,())) fun y=>∃tb a,y=((tb,()),((b,a,()),()))∧f0b cs m.toNat tb∧0≤a∧a≤b.length:=by
 unfold a5i
 dsimp only
 refine Gets.bind (g2j hb hl ha hc.2 hco hm hn) ?_
 rintro _ ⟨rs,a,rfl,⟨hr1,hr2⟩,ha2⟩
 dsimp only
 refine Gets.bind (c7c (w:=cs.length) (by omega) (fun r h=>(hr2 r h).1) (by omega) hn) ?_
 rintro _ ⟨tb,rfl,h1,h2⟩
 refine Gets.some ⟨_,_,rfl,⟨h1,fun j hj=>⟨by rw[h2 j hj,List.length_map];omega,fun v hv=>?_⟩⟩,ha2⟩
 rw[h2 j hj] at hv
 obtain⟨r,hr,rfl⟩:=List.mem_map.1 hv
 exact(hr2 r hr).2 j hj
theorem d9w{n m:Nat}{tb:List (List Vl)}(h0:1≤tb.length)(hl:tb.length≤10)(h:∀j,j<tb.length→(tb.getD j []).length=m)(hm:m≤50)(hn:100≤n):a9t n (tb,())=some (((m:Int),()),()):=by
 unfold a9t
 dsimp only
 refine a1n (st:=fun i=>(if i=0 then(0:Int) else(m:Int),(i:Int))) tb.length rfl ?_ ?_ (by omega)
 ·intro rec i hi
  have hh:=h i hi
  dsimp only
  rw[if_pos (by simp <;> omega),Int.toNat_natCast,hh,a0e (by omega),if_neg (show ¬(i+1=0) by omega)]
  by_cases hi0:i=0
  ·subst hi0
   rw[if_pos (by simp),a0c hi]
  ·rw[if_neg (by simp <;> omega),a0c hi,if_neg hi0,if_neg (by simp)]
 ·intro rec
  dsimp only
  rw[if_neg (by simp),if_neg (by omega)]
theorem d4a{n m at' i k:Nat}{tb:List (List Vl)}(ha:at'<tb.length)(hc:tb.length<100)(h:(tb.getD at' []).length=m)(hi:i<m)(hk:k<m)(hm:m≤50)(hn:100≤n) :
  a8u n (tb,[((at':Int),false,())],(i:Int),(k:Int),())=some ((decide (cmpG ((tb.getD at' []).getD i a2d) ((tb.getD at' []).getD k a2d)<0),()),()):=by
 obtain⟨n,rfl⟩:∃n',n=n'+2:=⟨n - 2,by omega⟩
 unfold a8u
 dsimp only
 have hl1:[((at':Int),false,())].length=1:=rfl
 rw[hl1]
 unfold a0x
 have hg:[((at':Int),false,())].getD (0:Int).toNat ((0:Int),false,())=((at':Int),false,()):=rfl
 rw[if_pos (by decide),a2b (by decide) (by decide),hg]
 dsimp only
 rw[if_neg (by simp),a2b (by decide) (by decide),if_neg (by simp <;> omega),a2b (by decide) (by decide),a0c ha,Int.toNat_natCast,a0c (by omega),a2b (by decide) (by decide),a0c ha,a0c (by omega),a7o]
 simp only[Option.bind_some,Int.toNat_natCast]
 rw[a2b (by decide) (by decide),if_neg Bool.false_ne_true]
 change (if(!decide (cmpG ((tb.getD at' []).getD i a2d) ((tb.getD at' []).getD k a2d)=0))=true then some ((decide (cmpG ((tb.getD at' []).getD i a2d) ((tb.getD at' []).getD k a2d)<0),()),()) else _)=_
 by_cases hz:cmpG ((tb.getD at' []).getD i a2d) ((tb.getD at' []).getD k a2d)=0
 ·rw[if_neg (by rw[decide_eq_true hz];decide),hz]
  unfold a0x
  rw[if_neg (by decide)]
  rfl
 ·rw[if_pos (by rw[decide_eq_false hz];rfl)]
def upC(f:Int→Vl)(o:List Int):Prop:=∀j,j+1<o.length→0≤cmpG (f (o.getD (j+1) 0)) (f (o.getD j 0))
theorem g1f{f:Int→Vl}{o:List Int}(h:upC f o){k:Nat}(hk:k≤o.length)(i:Int)(h1:k=0∨0≤cmpG (f i) (f (o.getD (k - 1) 0)))(h2:k=o.length∨0≤cmpG (f (o.getD k 0)) (f i)):upC f ((o.take k++[i])++o.drop k):=by
 have hlt:(o.take k).length=k:=by simp <;> omega
 have g1:∀j,j<k→((o.take k++[i])++o.drop k).getD j 0=o.getD j 0:=fun j hj=>by
  simp only[List.getD_eq_getElem?_getD]
  rw[List.getElem?_append_left (by simp <;> omega),List.getElem?_append_left (by omega),List.getElem?_take,if_pos hj]
 have g2:((o.take k++[i])++o.drop k).getD k 0=i:=by
  simp only[List.getD_eq_getElem?_getD]
  rw[List.getElem?_append_left (by simp <;> omega),List.getElem?_append_right (by omega),hlt]
  simp
 have g3:∀j,k<j→((o.take k++[i])++o.drop k).getD j 0=o.getD (j - 1) 0:=fun j hj=>by
  simp only[List.getD_eq_getElem?_getD]
  rw[List.getElem?_append_right (by simp <;> omega),List.getElem?_drop]
  congr 2
  simp <;> omega
 intro j hj
 have hl:((o.take k++[i])++o.drop k).length=o.length+1:=by simp <;> omega
 rw[hl] at hj
 by_cases c1:j+1<k
 ·rw[g1 _ c1,g1 j (by omega)];exact h j (by omega)
 by_cases c2:j+1=k
 ·rw[c2,g2,g1 j (by omega)]
  rcases h1 with h1|h1
  ·omega
  ·rw[show k - 1=j by omega] at h1;exact h1
 by_cases c3:j=k
 ·subst c3
  rw[g2,g3 (j+1) (by omega),show j+1 - 1=j by omega]
  rcases h2 with h2|h2
  ·omega
  ·exact h2
 ·rw[g3 (j+1) (by omega),g3 j (by omega),show j+1 - 1=(j - 1)+1 by omega]
  exact h (j - 1) (by omega)
theorem d1s{n m at':Nat}{tb:List (List Vl)}(ha:at'<tb.length)(hc:tb.length≤10)(h:∀j,j<tb.length→(tb.getD j []).length=m)(hm:m≤50)(hn:200≤n) :
  Gets (a9u n (tb,[((at':Int),false,())],())) fun y=>∃o:List Int,y=((o,()),())∧o.length=m∧(∀x,x∈o→0≤x∧x<m)∧upC (fun x=>(tb.getD at' []).getD x.toNat a2d) o:=by
 have hro:=a2k
 unfold a9u
 refine Gets.iter (I:=fun s=>∃(o:List Int) (i:Nat),s=(o,(i:Int))∧i≤m∧o.length=i∧(∀x,x∈o→0≤x∧x<i)∧upC (fun x=>(tb.getD at' []).getD x.toNat a2d) o)
  (μ:=fun s=>m - s.2.toNat) ⟨_,0,rfl,by omega,rfl,by simp,fun j hj=>by simp at hj⟩ (by simp <;> omega) ?_
 rintro rec _ ⟨o,i,rfl,h1,h2,h3,h4⟩ hrec
 dsimp only
 rw[d9w (by omega) hc h hm (by omega)]
 simp only[Option.bind_some]
 by_cases hi:i<m
 rotate_left
 ·rw[if_neg (by simp <;> omega)]
  obtain rfl:i=m:=by omega
  exact Gets.some ⟨_,rfl,h2,h3,h4⟩
 rw[if_pos (by simp <;> omega)]
 refine Gets.join (I:=fun s=>∃k:Nat,s=(k:Int)∧k≤o.length∧(k=0∨0≤cmpG ((tb.getD at' []).getD i a2d) ((tb.getD at' []).getD (o.getD (k - 1) 0).toNat a2d))∧(k=o.length∨cmpG ((tb.getD at' []).getD i a2d) ((tb.getD at' []).getD (o.getD k 0).toNat a2d)<0)) ?_ ?_
 ·rintro _ ⟨k,rfl,hk,k1,k2⟩
  have e1:((o.take (k:Int).toNat).drop (0:Int).toNat)=o.take k:=by simp
  have e2:((o.take (o.length:Int).toNat).drop (k:Int).toNat)=o.drop k:=by simp
  rw[e1,e2,if_pos (by omega),if_pos (by simp <;> omega),if_pos (by simp <;> omega),if_pos (by omega),if_pos (by simp <;> omega),a0e (by omega),List.nil_append]
  refine hrec _ ⟨_,i+1,rfl,by omega,by simp <;> omega,?_,?_⟩ (by simp <;> omega)
  ·intro x hx
   simp only[List.mem_append,List.mem_singleton] at hx
   rcases hx with(hx|rfl)|hx
   ·have:=h3 x (List.mem_of_mem_take hx);omega
   ·omega
   ·have:=h3 x (List.mem_of_mem_drop hx);omega
  ·refine g1f h4 hk _ ?_ ?_
   ·rcases k1 with k1|k1
    ·exact .inl k1
    ·exact .inr (by simpa using k1)
   ·rcases k2 with k2|k2
    ·exact .inl k2
    ·refine .inr ?_
     have:=e1e ((tb.getD at' []).getD i a2d) ((tb.getD at' []).getD (o.getD k 0).toNat a2d)
     simp only[Int.toNat_natCast]
     omega
 ·intro J hJ
  refine Gets.iter (I:=fun s=>∃k:Nat,s=(k:Int)∧k≤o.length∧(k=o.length∨cmpG ((tb.getD at' []).getD i a2d) ((tb.getD at' []).getD (o.getD k 0).toNat a2d)<0))
   (μ:=fun s=>s.toNat) ⟨o.length,rfl,by omega,.inl rfl⟩ (by simp <;> omega) ?_
  rintro rec2 _ ⟨k,rfl,hk,k2⟩ hrec2
  by_cases hk0:k=0
  ·subst hk0
   rw[if_neg (by simp)]
   exact hJ _ ⟨0,rfl,by omega,.inl rfl,k2⟩
  ·rw[if_pos (by simp <;> omega),a0j (by omega) (by omega)]
   have hko:k - 1<o.length:=by omega
   have hx:=h3 _ (List.getElem_mem hko)
   rw[←a0h hko (d:=(0:Int))] at hx
   obtain⟨x,hxx⟩:∃x:Nat,o.getD (k - 1) 0=(x:Int):=⟨(o.getD (k - 1) 0).toNat,by omega⟩
   have hkk:((k:Int) - 1).toNat=k - 1:=by omega
   refine Gets.atI (by omega) (by omega) ?_
   rw[hkk,hxx,d4a ha (by omega) (h _ ha) hi (by omega) hm (by omega)]
   simp only[Option.bind_some]
   by_cases hb:cmpG ((tb.getD at' []).getD i a2d) ((tb.getD at' []).getD x a2d)<0
   ·rw[if_pos (by simpa using hb)]
    exact hrec2 _ ⟨k - 1,by omega,by omega,.inr (by rw[hxx];simpa using hb)⟩ (by simp <;> omega)
   ·rw[if_neg (by simpa using hb)]
    exact hJ _ ⟨k,rfl,hk,.inr (by rw[hxx];simp only[Int.toNat_natCast];omega),k2⟩
theorem d5o{n m:Nat}{tb:List (List Vl)}{o:List Int}(hc:tb.length≤10)(h:∀j,j<tb.length→(tb.getD j []).length=m)(hm:m≤50)(hol:o.length≤50)(ho:∀x,x∈o→0≤x∧x<m)(hn:200≤n) :
  Gets (b1j n (tb,o,())) fun y=>∃cs:List (List Vl),y=((cs,()),())∧cs.length=tb.length∧∀j,j<tb.length→cs.getD j []=o.map (fun x=>(tb.getD j []).getD x.toNat a2d):=by
 have hro:=a2k
 unfold b1j
 dsimp only
 rw[if_pos (by omega),Int.toNat_natCast]
 refine Gets.iter (I:=fun s=>∃(cs:List (List Vl)) (i:Nat),s=(cs,(i:Int))∧i≤tb.length∧cs.length=tb.length∧∀j,j<tb.length→cs.getD j []=if j<i then o.map (fun x=>(tb.getD j []).getD x.toNat a2d) else[])
  (μ:=fun s=>tb.length - s.2.toNat) ⟨_,0,rfl,by omega,by simp,fun j hj=>by rw[c0u];simp⟩ (by simp <;> omega) ?_
 rintro rec _ ⟨cs,i,rfl,h1,h2,h3⟩ hrec
 dsimp only
 by_cases hi:i<tb.length
 ·rw[if_pos (by simp <;> omega)]
  refine Gets.iter (I:=fun s=>∃(cs:List (List Vl)) (k:Nat),s=(cs,(k:Int))∧k≤o.length∧cs.length=tb.length∧∀j,j<tb.length→cs.getD j []=if j<i then o.map (fun x=>(tb.getD j []).getD x.toNat a2d) else if j=i then(o.take k).map (fun x=>(tb.getD j []).getD x.toNat a2d) else[])
   (μ:=fun s=>o.length - s.2.toNat) ⟨_,0,rfl,by omega,h2,fun j hj=>by rw[h3 j hj];by_cases c:j<i <;> simp[c]⟩ (by simp <;> omega) ?_
  rintro rec2 _ ⟨cs,k,rfl,g1,g2,g3⟩ hrec2
  dsimp only
  by_cases hk:k<o.length
  ·have hx:=ho _ (List.getElem_mem hk)
   have hck:=g3 i hi
   rw[if_neg (by omega),if_pos rfl] at hck
   have hcl:(cs.getD i []).length≤50:=by rw[hck,List.length_map,List.length_take];omega
   have hti:=h i hi
   rw[if_pos (by simp <;> omega),a0c hk,Int.toNat_natCast,a0h hk,if_pos (by simpa using hx.1),a0c hk,a0c hi,Int.toNat_natCast,if_pos (by rw[decide_eq_true_eq];omega),a0c (by omega),a0c hi,a0c hk,a2b hx.1 (by omega),if_pos (by simp only[List.length_singleton];omega),a0c (by omega),if_pos rfl,a0e (by omega)]
   refine hrec2 _ ⟨_,k+1,rfl,by omega,by rw[List.length_set];exact g2,?_⟩ (by simp <;> omega)
   intro j hj
   rw[b9p _ _ _ _ _ (by omega)]
   by_cases hkj:i=j
   ·subst hkj
    rw[if_pos rfl,if_neg (by omega),if_pos rfl,hck,List.take_succ_eq_append_getElem hk,List.map_append]
    rfl
   ·rw[if_neg hkj,g3 j hj]
    by_cases c:j<i
    ·rw[if_pos c,if_pos c]
    ·rw[if_neg c,if_neg c,if_neg (by omega),if_neg (by omega)]
  ·rw[if_neg (by simp <;> omega),a0e (by omega)]
   refine hrec _ ⟨_,i+1,rfl,by omega,g2,fun j hj=>?_⟩ (by simp <;> omega)
   rw[g3 j hj]
   obtain rfl:k=o.length:=by omega
   rw[List.take_length]
   by_cases c:j<i
   ·rw[if_pos c,if_pos (by omega)]
   ·rw[if_neg c]
    by_cases c2:j=i
    ·rw[if_pos c2,if_pos (by omega)]
    ·rw[if_neg c2,if_neg (by omega)]
 ·rw[if_neg (by simp <;> omega)]
  refine Gets.some ⟨_,rfl,h2,fun j hj=>?_⟩
  rw[h3 j hj,if_pos (by omega)]
end Go.Rb.R5

namespace Go.Rb.R5
open Go.Rb
theorem e4m{f:Int→Vl}{o:List Int}(h:upC f o):a9e (o.map f)=true:=by
 unfold a9e
 rw[List.all_eq_true]
 intro j hj
 have hj':j+1<o.length:=by
  have:=List.mem_range.1 hj
  rw[List.length_map] at this
  omega
 have e1:(o.map f).getD (j+1) a2d=f (o.getD (j+1) 0):=by
  rw[a0h (by rw[List.length_map];exact hj'),a0h hj',List.getElem_map]
 have e2:(o.map f).getD j a2d=f (o.getD j 0):=by
  rw[a0h (by rw[List.length_map];omega),a0h (by omega),List.getElem_map]
 rw[e1,e2,decide_eq_true (h j hj')]
theorem f7e{cs:List Co}{m:Nat}{tb tc:List (List Vl)}{o:List Int}(h:f0b cs m tb)(ho:o.length=m)(hx:∀x,x∈o→0≤x∧x<m)(h1:tc.length=tb.length)(h2:∀j,j<tb.length→tc.getD j []=o.map (fun x=>(tb.getD j []).getD x.toNat a2d)):f0b cs m tc:=by
 refine⟨h1.trans h.1,fun j hj=>?_⟩
 have hjt:j<tb.length:=by rw[h.1];exact hj
 rw[h2 j hjt]
 refine⟨by rw[List.length_map];exact ho,fun v hv=>?_⟩
 obtain⟨x,hxo,rfl⟩:=List.mem_map.1 hv
 have hxx:=hx x hxo
 obtain⟨g1,g2⟩:=h.2 j hj
 have hlt:x.toNat<(tb.getD j []).length:=by omega
 refine g2 _ ?_
 rw[a0h hlt]
 exact List.getElem_mem _
theorem f2d{v p sb:Int}{types enc:List Int}{cs:List Co}{m:Nat}{tb:List (List Vl)}(hv:0≤v∧v≤200)(hp:0≤p∧p<4)(hc:1≤cs.length∧cs.length≤4)(hco:coOK cs)(ht:types=(List.range cs.length).map (tyOf cs))(he:enc.length=cs.length∧∀e,e∈enc→1≤e∧e≤5)
  (hm:1≤m∧m≤16) (hT:f0b cs m tb) (hsb:0≤sb∧sb≤cs.length) (hso:sb=0∨a9e (tb.getD (sb - 1).toNat [])=true) :
  f6i v p sb types enc tb=some (mkSg v p sb types enc tb)∧a8m (mkSg v p sb types enc tb)=true:=by
 have htl:types.length=cs.length:=by rw[ht];simp
 have hty:∀i,i<cs.length→types.getD i 0=tyOf cs i:=fun i hi=>by
  rw[a0h (by omega)]
  simp[ht]
 have htr:∀i,i<cs.length→1≤tyOf cs i∧tyOf cs i≤4:=fun i hi=>by
  have:=hco _ (List.getElem_mem hi)
  unfold tyOf
  rw[a0h hi]
  exact this
 have her:∀i,i<cs.length→1≤enc.getD i 0∧enc.getD i 0≤5:=fun i hi=>by
  have hi':i<enc.length:=by omega
  rw[a0h hi']
  exact he.2 _ (List.getElem_mem hi')
 have hus:∀i,i<cs.length→∃u,b3j (enc.getD i 0) (types.getD i 0)=some u:=fun i hi=>by
  rw[hty i hi]
  have a:=htr i hi
  have b:=her i hi
  unfold b3j
  rw[if_pos (by omega)]
  exact⟨_,rfl⟩
 have hall:(List.range tb.length).all (isAt types enc)=true:=by
  rw[List.all_eq_true]
  intro i hi
  have hi:=List.mem_range.1 hi
  rw[hT.1] at hi
  obtain⟨u,hu⟩:=hus i hi
  unfold isAt
  rw[hu];rfl
 have hrow:b0b tb=m:=(hT.2 0 (by omega)).1
 have hmay:a8m (mkSg v p sb types enc tb)=true:=by
  unfold a8m
  have hA:b5m (mkSg v p sb types enc tb):=by
   have hlen:=hT.1
   unfold b5m mkSg
   dsimp only
   rw[hrow]
   simp only[List.length_map,List.length_range,true_and]
   exact⟨by omega,by omega,by omega,by omega,by omega,by omega,by omega,by omega,by omega,by omega,by omega⟩
  rw[decide_eq_true hA,Bool.true_and,Bool.and_eq_true]
  constructor
  ·rw[List.all_eq_true]
   intro i hi
   have hi':i<tb.length:=List.mem_range.1 hi
   have hic:i<cs.length:=by rw[←hT.1];exact hi'
   obtain⟨u,hu⟩:=hus i hic
   obtain⟨hl,hf⟩:=hT.2 i hic
   unfold c2m mkSg e8q
   dsimp only
   have e1:((List.range tb.length).map (uAt types enc)).getD i 0=u:=by
    rw[a0h (by simpa using hi'),List.getElem_map,List.getElem_range]
    unfold uAt
    rw[hu];rfl
   have e2:(tb.map a6h).getD i c0k=a6h (tb.getD i []):=by
    rw[a0h (by simpa using hi'),List.getElem_map,a0h hi']
   rw[e1,e2,(b0z hu).2.2.2.2.2,hl,hrow,hty i hic,decide_eq_true rfl,decide_eq_true rfl,f1w.2 rfl,Bool.true_and,Bool.true_and,Bool.true_and,List.all_eq_true]
   exact fun x hx=>(hf x hx).2
  ·show(decide (sb=0)||a9e (tb.getD (sb - 1).toNat []))=true
   rcases hso with h|h
   ·rw[decide_eq_true h,Bool.true_or]
   ·rw[h,Bool.or_true]
 refine⟨?_,hmay⟩
 unfold f6i
 rw[if_pos ⟨by rw[htl,hT.1],by rw[he.1,hT.1],hall,hmay⟩]
theorem f7a{cs:List Co}{m:Nat}{tb:List (List Vl)}(h:f0b cs m tb):∀l,l∈tb→l.length=m∧∀v,v∈l→okV v:=by
 intro l hl
 obtain⟨j,hj,rfl⟩:=List.getElem_of_mem hl
 obtain⟨a,b⟩:=h.2 j (by rw[←h.1];exact hj)
 rw[a0h hj] at a b
 exact⟨a,fun v hv=>(b v hv).1⟩
def g7w(m:Sg):Prop:=a8m m=true∧∀l,l∈m.2.2.2.2.2.2.1→l.length≤16∧∀v,v∈l→okV v
theorem f1h{n:Nat}{b:List Int}{v p a:Int}(hb:a4a b)(hl:b.length<100000)(hv:0≤v∧v≤255)(hp:0≤p∧p≤255)(ha:0≤a∧a≤255)(hn:100001≤n) :
  Gets (b1b n (b,v,p,a,())) fun y=>∃m:Sg,y=((m,true,()),())∧g7w m:=by
 have hro:=a2k
 unfold b1b b5y
 simp only[Option.bind_some]
 refine Gets.bind (f4p hb hl (by omega) (by omega)) ?_
 rintro _ ⟨cs,la,ly,a2,rfl,⟨hc1,hc2,hco⟩,hly,ha2⟩
 dsimp only
 refine Gets.bind (b9a hb hl ha2 (by omega)) ?_
 rintro _ ⟨w,a3,rfl,hw,ha3⟩
 dsimp only
 rw[a0j (x:=1+w) (by omega) (by omega)]
 refine Gets.bind (f8c hb hl ha3 ⟨by omega,hc2⟩ hco (by omega) (by omega)) ?_
 rintro _ ⟨tb,a4,rfl,hT,ha4⟩
 dsimp only
 have hm:(1+w).toNat=w.toNat+1:=by omega
 rw[hm] at hT
 rw[a0j (x:=(cs.length:Int)+1) (by omega) (by omega),if_neg (by omega),a0j (x:=a) (by omega) (by omega)]
 have hsb0:0≤a.tmod ((cs.length:Int)+1):=Int.tmod_nonneg _ ha.1
 have hsb1:a.tmod ((cs.length:Int)+1)<(cs.length:Int)+1:=Int.tmod_lt_of_pos _ (by omega)
 generalize a.tmod ((cs.length:Int)+1)=sb at hsb0 hsb1
 refine Gets.join (I:=fun s=>∃tb:List (List Vl),s=tb∧f0b cs (w.toNat+1) tb∧(sb=0∨a9e (tb.getD (sb - 1).toNat [])=true)) ?_ ?_
 ·rintro tb ⟨_,rfl,hT,hso⟩
  refine Gets.iter (I:=fun s=>∃i:Nat,s=((List.range i).map (tyOf cs),(i:Int))∧i≤cs.length) (μ:=fun s=>cs.length - s.2.toNat) ⟨0,rfl,by omega⟩ (by simp <;> omega) ?_
  rintro rec _ ⟨i,rfl,hi⟩ hrec
  dsimp only
  by_cases hic:i<cs.length
  ·rw[if_pos (by simp <;> omega),a0c hic,if_pos (by simp <;> omega),a0e (by omega)]
   exact hrec _ ⟨i+1,by rw[b0t];rfl,by omega⟩ (by simp <;> omega)
  rw[if_neg (by simp <;> omega)]
  obtain rfl:i=cs.length:=by omega
  have t1:0≤v.tmod 201:=Int.tmod_nonneg _ hv.1
  have t2:v.tmod 201<201:=Int.tmod_lt_of_pos _ (by omega)
  have t3:0≤p.tmod 4:=Int.tmod_nonneg _ hp.1
  have t4:p.tmod 4<4:=Int.tmod_lt_of_pos _ (by omega)
  rw[a0j (x:=v.tmod 201) (by omega) (by omega),a0j (x:=p.tmod 4) (by omega) (by omega)]
  have hvals:=f7a hT
  obtain⟨e1,e2⟩:=f2d (v:=v.tmod 201) (p:=p.tmod 4) (sb:=sb) (types:=(List.range cs.length).map (tyOf cs)) (enc:=ly.2.2.2.1) (m:=w.toNat+1) (tb:=tb) ⟨t1,by omega⟩ ⟨t3,t4⟩ ⟨by omega,hc2⟩ hco rfl hly (by omega) hT ⟨hsb0,by omega⟩ hso
  rw[e4f (by simp <;> omega) (by rw[hT.1];omega) (fun l h=>by have:=(hvals l h).1;omega) hn,e1]
  simp only[Option.bind_some]
  exact Gets.some ⟨_,rfl,e2,fun l h=>⟨by have:=(hvals l h).1;omega,(hvals l h).2⟩⟩
 ·intro J hJ
  refine Gets.dec (fun h=>?_) fun h=>hJ _ ⟨_,rfl,hT,.inl (by omega)⟩
  have hlen:∀j,j<tb.length→(tb.getD j []).length=w.toNat+1:=fun j hj=>(hT.2 j (by rw[←hT.1];exact hj)).1
  have hat:(sb - 1).toNat<tb.length:=by rw[hT.1];omega
  rw[a0j (x:=sb - 1) (by omega) (by omega),show sb - 1=((sb - 1).toNat:Int) by omega]
  refine Gets.bind (d1s hat (by rw[hT.1];omega) hlen (by omega) (by omega)) ?_
  rintro _ ⟨o,rfl,ho1,ho2,ho3⟩
  dsimp only
  refine Gets.bind (d5o (by rw[hT.1];omega) hlen (by omega) (by omega) ho2 (by omega)) ?_
  rintro _ ⟨tc,rfl,hp1,hp2⟩
  refine hJ _ ⟨tc,rfl,f7e hT ho1 ho2 hp1 hp2,.inr ?_⟩
  rw[hp2 _ hat]
  exact e4m ho3
end Go.Rb.R5

namespace Go.Rb.R5
open Go.Rb
theorem f4a(k:Nat):∀x,x∈twoB k→0≤x∧x≤255:=by
 intro x hx
 unfold twoB at hx
 simp only[List.mem_cons,List.not_mem_nil,or_false] at hx
 rcases hx with rfl|rfl <;> omega
theorem g4k{t e:Int}{z:Zn}{l:List Vl}(h:ColFine t e z l):∀x,x∈crB t e z l→0≤x∧x≤255:=by
 obtain⟨u1,u2,u3,u4,u5,u6⟩:=b0z h.used
 intro x hx
 unfold crB at hx
 simp only[List.mem_cons,List.mem_append] at hx
 rcases hx with rfl|hx|hx|hx
 ·omega
 ·exact f6m h.zmay x hx
 ·exact f4a _ x hx
 ·exact g1a ⟨u4,u5⟩ ⟨u2,u3⟩ h.fits h.ok x hx
theorem f1f{s:Sg}(h:a8m s=true)(hv:∀l,l∈s.2.2.2.2.2.2.1→∀v,v∈l→okV v):a4a (segB s)∧9≤(segB s).length∧(segB s).length<200000:=by
 obtain⟨hA,hC⟩:=d5h h hv
 have hA':=hA
 obtain⟨a1,a2,a3,a4,a5,a6,a7,a8,a9,a10,a11,a12,a13⟩:=hA
 refine⟨?_,?_,?_⟩
 ·intro x hx
  unfold segB at hx
  rcases List.mem_append.1 hx with hx|hx
  ·unfold c0o at hx
   simp only[List.mem_cons,List.mem_append,List.not_mem_nil,or_false] at hx
   rcases hx with rfl|rfl|hx|rfl|rfl|rfl|rfl
   ·omega
   ·omega
   ·exact f4a _ x hx
   ·omega
   ·omega
   ·omega
   ·omega
  ·unfold b3n at hx
   obtain⟨i,hi,hx⟩:=List.mem_flatMap.1 hx
   exact g4k (hC i (List.mem_range.1 hi)) x hx
 ·unfold segB
  rw[List.length_append,c2x]
  obtain⟨k,hk⟩:∃k,s.2.2.2.2.2.2.1.length=k+1:=⟨s.2.2.2.2.2.2.1.length - 1,by omega⟩
  rw[hk,c4z,List.length_append]
  unfold crAt crB
  rw[List.length_cons]
  omega
 ·have:=c2z hC _ (Nat.le_refl _)
  unfold segB
  rw[List.length_append,c2x]
  omega
theorem d4t:a9p 1000001 ()=some ((true,()),()):=by decide +kernel
theorem f7k{s:Sg}(h:a8m s=true):b5m s:=by
 unfold a8m at h
 rw[Bool.and_eq_true,decide_eq_true_eq] at h
 exact h.1
theorem d6s{v p a c d:Int}{b:List Int}(hb:a4a b)(hv:0≤v∧v≤255)(hp:0≤p∧p≤255)(ha:0≤a∧a≤255)(hc:0≤c∧c≤65535)(hd:0≤d∧d≤255) :
  ∃n y,a4w n (b,v,p,a,c,d,())=some y∧y.1.1=true:=by
 have hro:=a2k
 obtain⟨n,hn,hbeg⟩:∃n,1000001≤n∧a9p n ()=some ((true,()),()):=⟨1000001,by omega,d4t⟩
 refine⟨n,?_⟩
 suffices h:Gets (a4w n (b,v,p,a,c,d,())) fun y=>y.1.1=true from h
 unfold a4w
 rw[hbeg]
 simp only[Option.bind_some]
 rw[if_neg (by decide)]
 by_cases h100:(100:Int)<(b.length:Int)
 ·rw[if_pos (by simpa using h100)];exact Gets.some rfl
 rw[if_neg (by simpa using h100)]
 refine Gets.bind (f1h hb (by omega) hv hp ha (by omega)) ?_
 rintro _ ⟨m,rfl,hm,hml⟩
 have hval:∀l,l∈m.2.2.2.2.2.2.1→∀v,v∈l→okV v:=fun l hl=>(hml l hl).2
 have hA:=f7k hm
 obtain⟨a1,a2,a3,a4,a5,a6,a7,a8,a9,a10,a11,a12,a13⟩:=hA
 obtain⟨b1,b2,b3⟩:=f1f hm hval
 have hback:=e9s hm hval
 dsimp only
 rw[(c5x (fun l hl=>by have:=(hml l hl).1;omega) hval (by omega)).1,if_pos hm]
 simp only[Option.bind_some]
 rw[if_neg (by decide),if_neg (by simp only[decide_eq_true_eq];omega),b6h b1 (by omega) hn,hback]
 simp only[Option.bind_some]
 rw[if_neg (by omega),a0j (x:=c) (by omega) (by omega)]
 have hq0:0≤c.tmod ((segB m).length:Int):=Int.tmod_nonneg _ hc.1
 have hq1:c.tmod ((segB m).length:Int)<((segB m).length:Int):=Int.tmod_lt_of_pos c (by omega)
 generalize c.tmod ((segB m).length:Int)=q at hq0 hq1
 rw[if_pos ⟨hq0,by omega⟩]
 have e0:((segB m).take q.toNat).drop (0:Int).toNat=(segB m).take q.toNat:=by simp
 rw[e0,b6h (fun x hx=>b1 x (List.mem_of_mem_take hx)) (by rw[List.length_take];omega) hn,d5z hback (by omega)]
 simp only[Option.bind_some]
 have hone:a4a (segB m++[d]):=by
  intro x hx
  simp only[List.mem_append,List.mem_singleton] at hx
  rcases hx with hx|rfl
  ·exact b1 x hx
  ·exact hd
 rw[if_pos (by simp only[List.length_nil];omega),if_pos (by simp only[List.length_append,List.length_nil,List.length_singleton];omega),List.nil_append,b6h hone (by simp only[List.length_append,List.length_singleton];omega) hn,d9g hback (by simp)]
 simp only[Option.bind_some]
 rw[if_pos True.intro,d7f (by omega) (by omega) (by omega) (by omega) (by omega) (fun l hl=>by have:=(hml l hl).1;omega)]
 simp only[Option.bind_some]
 first|rw[if_pos rfl,if_pos (by decide)]|rw[if_pos True.intro,if_pos (by decide)]
 exact Gets.some (by decide)
end Go.Rb.R5
