/- Plain law: segments out of bytes, as the program has them. Own work. -/
import Derived.Test.YthkgkalebkbndaaGreatDoorLawE
import Derived.Test.YthkgkalebkbndaaGreatDoorLawD
set_option autoImplicit false
set_option linter.unusedVariables false
set_option linter.unusedSimpArgs false
open Bool renaming and_eq_true->Af,and_false->GK,false_and->BY,false_ne_true->DS,not_eq_true'->A8,true_and->Bd,true_or->FD
open Classical renaming choose_spec->EV
open Eq renaming trans->DY
open Go.IntKind renaming i64->Aa
open Iff renaming rfl->Jm
open Int renaming tmod_lt_of_pos->Dh,tmod_nonneg->Dc,toNat_natCast->Ac
open List renaming all_eq_true->AK,append_assoc->Al,append_nil->A3,cons_append->AT,drop->ER,foldl_append->Cy,foldl_cons->BK,getD_eq_getElem?_getD->AJ,getElem?_append_left->Dl,getElem?_append_right->De,getElem_map->Bj,getElem_mem->Aj,getElem_range->BT,length_append->Ap,length_cons->A6,length_drop->AM,length_map->Bb,length_nil->D9,length_range->Dt,length_set->CB,length_singleton->AZ,length_take->AC,map_append->EN,map_map->Cv,mem_append->Ao,mem_cons->Az,mem_cons_of_mem->Ar,mem_map->Bu,mem_of_mem_drop->Bf,mem_of_mem_take->Bk,mem_range->Bz,mem_singleton->B9,not_mem_nil->C6,range->AA,take->BO,take_length->Aq,take_succ_eq_append_getElem->Am
open Option renaming bind_some->Ab
open Option.some renaming inj->Ai,injEq->Ad
open Prod.mk renaming injEq->Ak
namespace Go.Rb.R5
open Go.Rb
noncomputable def d0b(t m:Int)(b:List Int):Option (List Vl×Int):=open Classical in if h:∃p:List Vl×Int,b1w t m b p.1 p.2 then some (Classical.choose h) else none
theorem b2a{t m e:Int}{b:List Int}{l:List Vl}:d0b t m b=some (l,e)↔b1w t m b l e:=by
 unfold d0b;constructor
 ·intro h;split at h
  ·rename_i hx;have h2:=EV hx;rw[Ai h] at h2;exact h2
  ·cases h
 ·intro h;have hx:∃p:List Vl×Int,b1w t m b p.1 p.2:=⟨(l,e),h⟩
  rw[dif_pos hx];have h2:=EV hx;obtain⟨h3,h4⟩:=h2.uniq h;exact congrArg some (Prod.ext h3 h4)
theorem d0o{n:Nat}{t m:Int}{b:List Int}(ht:-9223372036854775808≤t∧t≤9223372036854775807)(hb:a1h b)(hl:b.length<1000000)(hn:1000000≤n) :
  b1d n (t,m,b,())=some (match d0b t m b with|some (l,e)=>(l,e,true,())|none=>([],0,false,()),()):=by
 obtain⟨y,h1,h2⟩:=c5w (m:=m) ht hb hl hn;rw[h1];rcases h2 with⟨l,e,rfl,hg⟩|⟨rfl,hno⟩
 ·rw[b2a.2 hg]
 ·cases hc:d0b t m b with
  |none=>rfl
  |some p=>exact absurd (b2a.1 hc) (hno _ _)
abbrev Cr:Type:=Int×Zn×Int×List Vl
noncomputable def c0b(m:Int)(b:List Int):Option (Cr×Nat):=match b with
 |[]=>none
 |t::r=>match c5s r with
  |none=>none
  |some (z,k)=>if b.length<k+3 then none else
   if b.length<k+3+((b.getD (k+1) 0).toNat*256+(b.getD (k+2) 0).toNat) then none else
   match d0b t m ((b.drop (k+3)).take ((b.getD (k+1) 0).toNat*256+(b.getD (k+2) 0).toNat)) with
   |none=>none
   |some (l,e)=>some ((t,z,e,l),k+3+((b.getD (k+1) 0).toNat*256+(b.getD (k+2) 0).toNat))
def errS(p:Int):UV:=UV.node a5c (.pair (.int .i64 p) .unit)
def addS(s:Sg)(c:Cr):Sg:=(s.1,s.2.1,s.2.2.1,s.2.2.2.1++[c.1],s.2.2.2.2.1++[c.2.2.1],s.2.2.2.2.2.1++[c.2.1],s.2.2.2.2.2.2.1++[c.2.2.2],s.2.2.2.2.2.2.2)
def f0b(m:Int)(s:Sg)(b:List Int)(y:(Int×UV×Unit)×(Sg×Unit)):Prop:=match c0b m b with
 |some (c,k)=>y=(((k:Int),UV.nil,()),(addS s c,()))
 |none=>∃p,y=((0,errS p,()),(s,()))
theorem e3n{a c:Int}(ha:0≤a∧a≤255)(hc:0≤c∧c≤255):bits .or .i64 (Aa.wrap (Aa.wrap a*2 ^ min (8:Int).toNat Aa.bits)) (Aa.wrap c)=((a.toNat*256+c.toNat:Nat):Int):=by
 obtain⟨x,rfl⟩:∃x:Nat,a=(x:Int):=⟨a.toNat,by omega⟩
 obtain⟨y,rfl⟩:∃y:Nat,c=(y:Int):=⟨c.toNat,by omega⟩
 rw[g0g (by omega),a0d (by omega) (by omega),Ac,Ac]
theorem a1h.getD{b:List Int}(h:a1h b)(i:Nat):0≤b.getD i 0∧b.getD i 0≤255:=by
 by_cases hi:i<b.length
 ·rw[a0c hi];exact h _ (Aj hi)
 ·rw[AJ,List.getElem?_eq_none (by omega)];simp
theorem d0r{n:Nat}{m:Int}{s:Sg}{b:List Int}(hb:a1h b)(hl:b.length<1000000)(hs:s.2.2.2.1.length<1000∧s.2.2.2.2.1.length<1000∧s.2.2.2.2.2.1.length<1000∧s.2.2.2.2.2.2.1.length<1000)(hn:1000000≤n) :
  Gets (b5f n (s,m,b,())) (f0b m s b):=by
 have hro:=a0p;obtain⟨s1,s2,s3,s4⟩:=hs;unfold b5f;dsimp only;cases b with
 |nil =>
  rw[if_pos (by simp)];exact Gets.some ⟨0,rfl⟩
 |cons t r =>
  have ht:=hb t (by simp);rw[if_neg (by simp <;> omega),a0s (by simp) (by simp <;> omega),if_pos ⟨by omega,by simp <;> omega⟩];have e1:ER (1:Int).toNat (BO ((t::r).length:Int).toNat (t::r))=r:=by rw[Ac,Aq];rfl
  rw[e1,d6p (fun x hx=>hb x (Ar _ hx)) (by simp at hl;omega) (by omega)];simp only[Ab];have e2:(t::r).getD (0:Int).toNat (0:Int)=t:=rfl;rw[e2];obtain⟨b,hbb⟩:∃b,b=t::r:=⟨_,rfl⟩
  have hlr:b.length=r.length+1:=by rw[hbb];rfl
  have hR:∀y,f0b m s (t::r) y↔match c5s r with
   |none=>∃p,y=((0,errS p,()),(s,()))
   |some (z,k)=>if b.length<k+3 then ∃p,y=((0,errS p,()),(s,())) else
    if b.length<k+3+((b.getD (k+1) 0).toNat*256+(b.getD (k+2) 0).toNat) then ∃p,y=((0,errS p,()),(s,())) else
    match d0b t m ((b.drop (k+3)).take ((b.getD (k+1) 0).toNat*256+(b.getD (k+2) 0).toNat)) with
    |none=>∃p,y=((0,errS p,()),(s,()))
    |some (l,e)=>y=((((k+3+((b.getD (k+1) 0).toNat*256+(b.getD (k+2) 0).toNat):Nat):Int),UV.nil,()),(addS s (t,z,e,l),())):=by
   intro y;rw[hbb];unfold f0b c0b;dsimp only;cases c5s r with
   |none=>exact Jm
   |some p =>
    obtain⟨z,k⟩:=p;dsimp only;by_cases h3:(t::r).length<k+3
    ·rw[if_pos h3,if_pos h3]
    rw[if_neg h3,if_neg h3];by_cases h4:(t::r).length<k+3+(((t::r).getD (k+1) 0).toNat*256+((t::r).getD (k+2) 0).toNat)
    ·rw[if_pos h4,if_pos h4]
    rw[if_neg h4,if_neg h4];cases d0b t m ((((t::r).drop (k+3)).take (((t::r).getD (k+1) 0).toNat*256+((t::r).getD (k+2) 0).toNat))) with
    |none=>exact Jm
    |some q=>exact Jm
  refine Gets.mono ?_ fun y=>(hR y).2
  rw[←hbb] at hb hl ⊢;cases hz:c5s r with
  |none =>
   dsimp only;rw[if_pos (by simp)];exact Gets.some ⟨_,rfl⟩
  |some p =>
   obtain⟨z,k⟩:=p;have hk:=f0z hz;dsimp only;rw[if_neg (by simp),a0d (x:=(k:Int)+1) (by omega) (by omega),a0d (x:=(k:Int)+1+2) (by omega) (by omega)];by_cases h3:b.length<k+3
   ·rw[if_pos (by simp <;> omega)];refine Gets.some ?_;rw[if_pos h3];exact⟨_,rfl⟩
   rw[if_neg (by simp <;> omega),a0d (x:=(k:Int)+1+1) (by omega) (by omega),a0s (by omega) (by omega),a0s (by omega) (by omega),
    show((k:Int)+1).toNat=k+1 by omega,show((k:Int)+1+1).toNat=k+2 by omega,e3n (hb.getD _) (hb.getD _)]
   obtain⟨g,hg⟩:∃g,(b.getD (k+1) 0).toNat*256+(b.getD (k+2) 0).toNat=g:=⟨_,rfl⟩
   have hg2:g<65536:=by
    have q1:=hb.getD (k+1);have q2:=hb.getD (k+2);omega
   rw[hg,a0d (x:=(k:Int)+1+2+(g:Int)) (by omega) (by omega)];by_cases h4:b.length<k+3+g
   ·rw[if_pos (by simp <;> omega)];refine Gets.some ?_;rw[if_neg h3,if_pos h4];exact⟨_,rfl⟩
   have e3:ER ((k:Int)+1+2).toNat (BO ((k:Int)+1+2+(g:Int)).toNat b)=(b.drop (k+3)).take g:=by
    rw[show((k:Int)+1+2).toNat=k+3 by omega,show((k:Int)+1+2+(g:Int)).toNat=k+3+g by omega,List.drop_take,show k+3+g - (k+3)=g by omega]
   rw[if_neg (by simp <;> omega),if_pos (by omega),e3,a0d (x:=t) (by omega) (by omega),
    d0o (by omega) (fun x hx=>hb x (Bf (Bk hx))) (by simp;omega) hn]
   simp only[Ab];cases hc:d0b t m ((b.drop (k+3)).take g) with
   |none =>
    dsimp only;rw[if_pos (by simp)];refine Gets.some ?_;rw[if_neg h3,if_neg h4];exact⟨_,rfl⟩
   |some q =>
    obtain⟨l,e⟩:=q;dsimp only;rw[if_neg (by simp),if_pos (by simp <;> omega),if_pos (by simp <;> omega),if_pos (by simp <;> omega),if_pos (by simp <;> omega)];refine Gets.some ?_;rw[if_neg h3,if_neg h4];unfold addS;have:(k:Int)+1+2+(g:Int)=((k+3+g:Nat):Int):=by omega
    rw[this]
noncomputable def a7w:Nat→Int→List Int→Option (List Cr)
 |0,_,_=>some []
 |k+1,m,b=>match c0b m b with
  |none=>none
  |some (c,j)=>match a7w k m (b.drop j) with
   |none=>none
   |some cs=>some (c::cs)
def mkS(b:List Int)(cs:List Cr):Sg:=(((b.getD 2 0).toNat*256+(b.getD 3 0).toNat:Nat),b.getD 4 0,b.getD 5 0,cs.map (fun c=>c.1),cs.map (fun c=>c.2.2.1),cs.map (fun c=>c.2.1),cs.map (fun c=>c.2.2.2),())
theorem e2j{m:Int}{b:List Int}{c:Cr}{k:Nat}(h:c0b m b=some (c,k)):k≤b.length∧c.2.2.2.length≤1000∧∀v,v∈c.2.2.2→okV v:=by
 unfold c0b at h;cases b with
 |nil=>cases h
 |cons t r =>
  dsimp only at h;split at h
  ·cases h
  ·split at h
   ·cases h
   ·split at h
    ·cases h
    ·split at h
     ·cases h
     ·rename_i l e hc;cases h;have hg:=b2a.1 hc;exact⟨by omega,by dsimp only;have:=hg.2.1;have:=hg.2.2.1;omega,hg.2.2.2.2.2.1⟩
theorem d5w:∀(k:Nat) {m:Int} {b:List Int} {cs:List Cr},a7w k m b=some cs→cs.length=k∧∀c,c∈cs→c.2.2.2.length≤1000∧∀v,v∈c.2.2.2→okV v
 |0,m,b,cs,h=>by cases h;simp
 |k+1,m,b,cs,h=>by
  unfold a7w at h;split at h
  ·cases h
  ·rename_i c j hc;split at h
   ·cases h
   ·rename_i cs' hcs;cases h;obtain⟨h1,h2⟩:=d5w k hcs;refine⟨by simp[h1],fun x hx=>?_⟩;rcases Az.1 hx with rfl|hx
    ·exact(e2j hc).2
    ·exact h2 x hx
theorem e5i(b:List Int)(cs ds:List Cr):ds.foldl addS (mkS b cs)=mkS b (cs++ds):=by
 induction ds generalizing cs with
 |nil=>simp
 |cons d ds ih =>
  rw[BK];have:addS (mkS b cs) d=mkS b (cs++[d]):=by unfold addS mkS;simp
  rw[this,ih];simp
noncomputable def b5p(b:List Int):Option Sg:=if b.length<8 then none else match a7w (b.getD 6 0).toNat (b.getD 7 0) (b.drop 8) with
 |none=>none
 |some cs=>if a5j (mkS b cs)=true∧segB (mkS b cs)=b then some (mkS b cs) else none
def e7r:Sg:=((0:Int),(0:Int),(0:Int),[],[],[],[],())
def d5k(b:List Int)(y:(Sg×UV×Unit)×Unit):Prop:=match b5p b with
 |some s=>y=((s,UV.nil,()),())
 |none=>∃s e,y=((s,e,()),())∧asU e=some true
theorem e9g(p:Int):asU (errS p)=some true:=by unfold errS asU;rfl
theorem g9n(i p:Int):asU (UV.node c0u (.pair (.int .i64 i) (.pair (errS p) .unit)))=some true:=by unfold errS asU;rfl
theorem d5q{n:Nat}{b:List Int}(hb:a1h b)(hl:b.length<1000000)(hn:1000001≤n):Gets (c2z n (b,())) (d5k b):=by
 unfold c2z;dsimp only;by_cases h8:b.length<8
 ·rw[if_pos (by simp <;> omega)];refine Gets.some ?_;unfold d5k b5p;rw[if_pos h8];exact⟨_,_,rfl,e9g _⟩
 rw[if_neg (by simp <;> omega),a0s (by omega) (by omega),a0s (by omega) (by omega),a0s (by omega) (by omega),a0s (by omega) (by omega),if_pos (by omega),a0s (by omega) (by omega)];have d:∀i:Nat,Aa.wrap (b.getD i 0)=b.getD i 0:=fun i=>a0d (by have:=hb.getD i;omega) (by have:=hb.getD i;omega)
 simp only[show(2:Int).toNat=2 from rfl,show(3:Int).toNat=3 from rfl,show(4:Int).toNat=4 from rfl,show(5:Int).toNat=5 from rfl,show(6:Int).toNat=6 from rfl,show(7:Int).toNat=7 from rfl];rw[e3n (hb.getD 2) (hb.getD 3),d 4,d 5,d 6,d 7,Ac,Aq];have h6:=hb.getD 6;have hbad:∀(s:Sg) (e:UV),asU e=some true→b5p b=none→d5k b ((s,e,()),()):=by
  intro s e h1 h2;unfold d5k;rw[h2];exact⟨s,e,rfl,h1⟩
 have key:∀(k j:Nat) (cs:List Cr) (rest:List Int) (f:Nat),j+k=(b.getD 6 0).toNat→cs.length=j→k<f→a1h rest→rest.length<1000000→(∀c,c∈cs→c.2.2.2.length≤1000∧∀v,v∈c.2.2.2→okV v) →
   (b5p b=match a7w k (b.getD 7 0) rest with|none=>none|some ds=>if a5j (mkS b (cs++ds))=true∧segB (mkS b (cs++ds))=b then some (mkS b (cs++ds)) else none) →
   Gets (a0h (fun rec2 (s1:Sg×List Int×Int)=>(if(decide (s1.2.2<b.getD 6 0))=true then(atI (7:Int) b.length ((b5f n (s1.1,b.getD 7 0,s1.2.1,())).bind fun y3=>(if(!decide (y3.1.2.1=UV.nil))=true then(some ((y3.2.1,(UV.node c0u (.pair (.int .i64 s1.2.2) (.pair y3.1.2.1 .unit))),()),())) else(if 0≤y3.1.1∧y3.1.1≤(s1.2.1.length:Int) then(rec2 (y3.2.1,((s1.2.1.take (s1.2.1.length:Int).toNat).drop y3.1.1.toNat),(Aa.wrap (s1.2.2+1)))) else none)))) else((a8q n (s1.1,())).bind fun y4=>(if(decide (y4.1.1=[]))=true then(some ((s1.1,(UV.node a5c (.pair (.int .i64 (b.length:Int)) .unit)),()),())) else((a0k n (y4.1.1,b,())).bind fun y5=>(if(!y5.1.1)=true then(some ((s1.1,(UV.node a5c (.pair (.int .i64 (b.length:Int)) .unit)),()),())) else(some ((s1.1,UV.nil,()),())))))))) f (mkS b cs,rest,(j:Int))) (d5k b):=by
  intro k
  induction k with
  |zero =>
   intro j cs rest f hj hcs hf hrb hrl hcv ht;obtain⟨f,rfl⟩:∃f',f=f'+1:=⟨f - 1,by omega⟩
   unfold a0h;dsimp only;rw[if_neg (by rw[decide_eq_true_eq];omega)];have hcl:∀l,l∈(mkS b cs).2.2.2.2.2.2.1→l.length<100000:=by
    intro l hl;obtain⟨c,hc,rfl⟩:=Bu.1 hl;have:=(hcv c hc).1;omega
   have hcv':∀l,l∈(mkS b cs).2.2.2.2.2.2.1→∀v,v∈l→okV v:=by
    intro l hl;obtain⟨c,hc,rfl⟩:=Bu.1 hl;exact(hcv c hc).2
   rw[(b2s hcl hcv' (by omega)).2];simp only[Ab];unfold a7w at ht;dsimp only at ht;rw[A3] at ht;cases hm:a5j (mkS b cs) with
   |false =>
    rw[hm] at ht;rw[if_pos (by simp)];exact Gets.some (hbad _ _ (e9g _) (by rw[ht];simp))
   |true =>
    rw[hm] at ht;rw[if_neg (by simp[segB,b8z])];unfold a0k;simp only[Ab,if_true];by_cases he:segB (mkS b cs)=b
    ·rw[if_neg (by simpa using he)];refine Gets.some ?_;unfold d5k;rw[ht,if_pos ⟨rfl,he⟩]
    ·rw[if_pos (by simpa using he)];exact Gets.some (hbad _ _ (e9g _) (by rw[ht,if_neg (fun h=>he h.2)]))
  |succ k ih =>
   intro j cs rest f hj hcs hf hrb hrl hcv ht;obtain⟨f,rfl⟩:∃f',f=f'+1:=⟨f - 1,by omega⟩
   unfold a0h;dsimp only;rw[if_pos (decide_eq_true (by omega)),a0s (by omega) (by omega)];refine Gets.bind (d0r hrb hrl (by unfold mkS;simp;omega) (by omega)) ?_;intro y hy;unfold f0b at hy;unfold a7w at ht;cases hc:c0b (b.getD 7 0) rest with
   |none =>
    rw[hc] at hy ht;obtain⟨p,rfl⟩:=hy;dsimp only;rw[if_pos (by unfold errS;simp)];exact Gets.some (hbad _ _ (g9n _ _) ht)
   |some q =>
    obtain⟨c,g⟩:=q;rw[hc] at hy ht;dsimp only at hy ht;subst hy;obtain⟨g1,g2,g3⟩:=e2j hc;dsimp only;rw[if_neg (by simp),if_pos (by omega),a0b (by omega)];rw[show BO ((rest.length:Int)).toNat rest=rest by rw[Ac,Aq],Ac g];have hadd:addS (mkS b cs) c=mkS b (cs++[c]):=e5i b cs [c];rw[hadd];refine ih (j+1) (cs++[c]) (rest.drop g) f (by omega) (by simp[hcs]) (by omega) (fun x hx=>hrb x (Bf hx)) (by rw[AM];omega) ?_ ?_
    ·intro x hx;rcases Ao.1 hx with hx|hx
     ·exact hcv x hx
     ·obtain rfl:=B9.1 hx;exact⟨g2,g3⟩
    ·rw[ht];cases a7w k (b.getD 7 0) (rest.drop g) with
     |none=>rfl
     |some ds=>simp
 refine key (b.getD 6 0).toNat 0 [] (b.drop 8) n (by omega) rfl (by omega) (fun x hx=>hb x (Bf hx)) (by rw[AM];omega) (by simp) ?_;unfold b5p;rw[if_neg h8];rfl
theorem b1k{n:Nat}{b:List Int}(hb:a1h b)(hl:b.length<1000000)(hn:1000001≤n) :
  a4i n (b,())=some (match b5p b with|some s=>(s,true,())|none=>(e7r,false,()),()):=by
 obtain⟨y,h1,h2⟩:=d5q hb hl hn;unfold a4i;rw[h1];simp only[Ab];unfold d5k at h2;cases ht:b5p b with
 |some s =>
  rw[ht] at h2;subst h2;rfl
 |none =>
  rw[ht] at h2;obtain⟨s,e,rfl,h3⟩:=h2;dsimp only;rw[h3];rfl
end Go.Rb.R5

namespace Go.Rb.R5
open Go.Rb
structure CrFine (m:Nat) (c:Cr):Prop extends ColFine c.1 c.2.2.1 c.2.1 c.2.2.2 where
 rows':c.2.2.2.length=m
def crBc(c:Cr):List Int:=crB c.1 c.2.2.1 c.2.1 c.2.2.2
theorem b6g{l r:List Int}{i:Nat}(j:Nat)(h:i=l.length+j):(l++r).getD i 0=r.getD j 0:=by
 subst h;rw[AJ,De (by omega),AJ,Nat.add_sub_cancel_left]
theorem e7h{m:Nat}{c:Cr}(h:CrFine m c)(rest:List Int):c0b (m:Int) (crBc c++rest)=some (c,(crBc c).length):=by
 obtain⟨t,z,e,l⟩:=c;obtain⟨h1,h2⟩:=h;dsimp only at h1 h2;have hlen:=h1.len.2;have hr:=h1.rows;unfold crBc crB;dsimp only;obtain⟨q,hq⟩:∃q,q=colB e t l:=⟨_,rfl⟩
 rw[←hq] at hlen ⊢;rw[AT];unfold c0b;dsimp only;rw[Al,f4y h1.zmay];dsimp only;have hb:t::(b1p z++(twoB q.length++q++rest))=(t::b1p z)++(((q.length / 256 % 256:Nat):Int)::((q.length % 256:Nat):Int)::(q++rest)):=by simp[twoB]
 have g1:(t::(b1p z++(twoB q.length++q++rest))).getD ((b1p z).length+1) 0=((q.length / 256 % 256:Nat):Int):=by
  rw[hb,b6g 0 (by simp)];rfl
 have g2:(t::(b1p z++(twoB q.length++q++rest))).getD ((b1p z).length+2) 0=((q.length % 256:Nat):Int):=by
  rw[hb,b6g 1 (by simp)];rfl
 have g3:(q.length / 256 % 256:Nat)*256+q.length % 256=q.length:=by omega
 rw[g1,g2,Ac,Ac,g3];have hl:(t::(b1p z++(twoB q.length++q++rest))).length=(b1p z).length+3+q.length+rest.length:=by simp[twoB];omega
 rw[if_neg (by rw[hl];omega),if_neg (by rw[hl];omega)];have g4:(t::(b1p z++(twoB q.length++q++rest))).drop ((b1p z).length+3)=q++rest:=by
  have:t::(b1p z++(twoB q.length++q++rest))=(t::(b1p z++twoB q.length))++(q++rest):=by simp
  rw[this,List.drop_left' (by simp[twoB])]
 rw[g4,List.take_left' rfl,b2a.2 (show b1w t (m:Int) q l e from⟨by omega,by omega,by omega,h1.used,h1.fits,h1.ok,hq.symm⟩)];dsimp only;simp only[Ad,Ak,true_and,A6,Ap,twoB,D9];omega
theorem c5y{m:Nat}:∀(L:List Cr) (rest:List Int),(∀c,c∈L→CrFine m c)→a7w L.length (m:Int) (L.flatMap crBc++rest)=some L
 |[],rest,_=>rfl
 |c::L,rest,h=>by
  rw[A6,List.flatMap_cons,Al];unfold a7w;rw[e7h (h c (by simp))];dsimp only;rw[List.drop_left,c5y L rest fun c hc=>h c (Ar _ hc)]
def crS(s:Sg)(i:Nat):Cr:=(s.2.2.2.1.getD i 0,s.2.2.2.2.2.1.getD i c0e,s.2.2.2.2.1.getD i 0,s.2.2.2.2.2.2.1.getD i [])
theorem a4w{α:Type}(l:List α)(d:α):(AA l.length).map (fun i=>l.getD i d)=l:=by
 refine List.ext_getElem (by simp) fun i h1 h2=>?_
 rw[Bj,BT,a0c h2]
theorem f4e{s:Sg}(h:a5j s=true)(hv:∀l,l∈s.2.2.2.2.2.2.1→∀v,v∈l→okV v):b5p (segB s)=some s:=by
 obtain⟨hA,hC⟩:=d1b h hv;have hA':=hA;obtain⟨a1,a2,a3,a4,a5,a6,a7,a8,a9,a10,a11,a12,a13⟩:=hA;have hrow:∀i,i<s.2.2.2.2.2.2.1.length→(s.2.2.2.2.2.2.1.getD i []).length=a9q s.2.2.2.2.2.2.1:=by
  intro i hi;unfold a5j at h;simp only[Af,decide_eq_true_eq] at h;have h3:=AK.1 h.2.1 i (Bz.2 hi);unfold c4m e7q at h3;simp only[Af,decide_eq_true_eq] at h3;exact h3.2.1
 have hfl:b3p s s.2.2.2.2.2.2.1.length=((AA s.2.2.2.2.2.2.1.length).map (crS s)).flatMap crBc:=by
  unfold b3p;rw[List.flatMap_map];rfl
 have hfine:∀c,c∈(AA s.2.2.2.2.2.2.1.length).map (crS s)→CrFine (a9q s.2.2.2.2.2.2.1) c:=by
  intro c hc;obtain⟨i,hi,rfl⟩:=Bu.1 hc;have hi:=Bz.1 hi;exact⟨hC i hi,hrow i hi⟩
 have hback:=c5y _ [] hfine;rw[A3,←hfl,Bb,Dt] at hback;have hseg:segB s=83::71::((s.1.toNat / 256 % 256:Nat):Int)::((s.1.toNat % 256:Nat):Int)::s.2.1::s.2.2.1::(s.2.2.2.2.2.2.1.length:Int)::(a9q s.2.2.2.2.2.2.1:Int)::b3p s s.2.2.2.2.2.2.1.length:=by
  unfold segB b8z twoB;simp
 have hmk:mkS (segB s) ((AA s.2.2.2.2.2.2.1.length).map (crS s))=s:=by
  unfold mkS;have m1:((AA s.2.2.2.2.2.2.1.length).map (crS s)).map (fun c=>c.1)=s.2.2.2.1:=by
   rw[Cv,←a7];exact a4w _ _
  have m2:((AA s.2.2.2.2.2.2.1.length).map (crS s)).map (fun c=>c.2.2.1)=s.2.2.2.2.1:=by
   rw[Cv,←a8];exact a4w _ _
  have m3:((AA s.2.2.2.2.2.2.1.length).map (crS s)).map (fun c=>c.2.1)=s.2.2.2.2.2.1:=by
   rw[Cv,←a9];exact a4w _ _
  have m4:((AA s.2.2.2.2.2.2.1.length).map (crS s)).map (fun c=>c.2.2.2)=s.2.2.2.2.2.2.1:=by
   rw[Cv];exact a4w _ _
  rw[m1,m2,m3,m4,hseg];obtain⟨v,p,sb,ty,en,zo,co,u⟩:=s;dsimp only at a1 a2 ⊢;simp only[List.getD_cons_succ,List.getD_cons_zero,Ak,true_and,and_true];omega
 unfold b5p;rw[if_neg (by rw[hseg];simp <;> omega)];have e1:(segB s).getD 6 0=(s.2.2.2.2.2.2.1.length:Int):=by rw[hseg];rfl
 have e2:(segB s).getD 7 0=(a9q s.2.2.2.2.2.2.1:Int):=by rw[hseg];rfl
 have e3:(segB s).drop 8=b3p s s.2.2.2.2.2.2.1.length:=by rw[hseg];rfl
 rw[e1,e2,e3,Ac,hback];dsimp only;rw[hmk,if_pos ⟨h,rfl⟩]
theorem d7c{b:List Int}{s:Sg}(h:b5p b=some s):a5j s=true∧segB s=b:=by
 unfold b5p at h;split at h
 ·cases h
 ·split at h
  ·cases h
  ·split at h
   ·rename_i h2;cases h;exact h2
   ·cases h
end Go.Rb.R5

namespace Go.Rb.R5
open Go.Rb
theorem c2d{σ R:Type}{f:(σ→Option R)→σ→Option R}{s0:σ}(st:Nat→σ)(k:Nat)(p:Nat→Bool)(no fin:Option R)(h0:st 0=s0)
  (hb:∀rec i,i<k→f rec (st i)=if p i=true then rec (st (i+1)) else no) (he:∀rec,f rec (st k)=fin) {n:Nat} (hn:k<n):a0h f n s0=if(AA k).all p=true then fin else no:=by
 have key:∀(m n i:Nat),i+m=k→m<n→a0h f n (st i)=if(List.range' i m).all p=true then fin else no:=by
  intro m
  induction m with
  |zero =>
   intro n i hi hn;obtain⟨n,rfl⟩:∃n',n=n'+1:=⟨n - 1,by omega⟩
   obtain rfl:i=k:=by omega
   unfold a0h;rw[he];simp
  |succ m ih =>
   intro n i hi hn;obtain⟨n,rfl⟩:∃n',n=n'+1:=⟨n - 1,by omega⟩
   unfold a0h;rw[hb _ i (by omega),List.range'_succ,List.all_cons];cases hp:p i with
   |true=>rw[if_pos rfl,ih n (i+1) (by omega) (by omega),Bd]
   |false=>rw[if_neg (by simp),if_neg (by simp)]
 subst h0;rw[key k n 0 (by omega) hn,List.range_eq_range']
theorem c9d(n:Nat)(v:Vl):b0a n (v,())=some ((c0f v,()),()):=by
 unfold b0a c0f;dsimp only;by_cases h0:v.1=0
 ·rw[if_pos (by simpa using h0),if_pos h0]
 ·rw[if_neg (by simpa using h0),if_neg h0];by_cases h4:v.1=4
  ·rw[if_pos (by simpa using h4),if_pos h4]
  ·rw[if_neg (by simpa using h4),if_neg h4]
theorem d6w(v:Vl):(c0f v=0∧v.1=0)∨(c0f v=2∧v.1=4)∨(c0f v=1∧v.1≠0∧v.1≠4):=by
 unfold c0f;by_cases h0:v.1=0
 ·simp[h0]
 ·by_cases h4:v.1=4
  ·simp[h4]
  ·simp[h0,h4]
theorem a8k(n:Nat)(x y:Vl):a2s n (x,y,())=some ((cmpG x y,()),()):=by
 unfold a2s cmpG;dsimp only;rw[c9d,c9d];simp only[Ab];have hs:=a8d x.2.2.1 y.2.2.1;have ht:=a8d y.2.2.1 x.2.2.1;have hw:=b8i x.2.2.1 y.2.2.1;have hi:=e8h x.2.2.1 y.2.2.1;rcases d6w x with⟨a,a0⟩|⟨a,a0⟩|⟨a,a0,a4⟩ <;> rcases d6w y with⟨b,b0⟩|⟨b,b0⟩|⟨b,b0,b4⟩ <;> rw[a,b]
 ·simp[a0]
 ·simp[cmpZ]
 ·simp[cmpZ]
 ·simp[cmpZ]
 ·rw[hs,ht,hw];by_cases h1:cmpI x.2.2.1 y.2.2.1<0
  ·have:cmpI x.2.2.1 y.2.2.1=-1:=by omega
   simp[a0,this]
  ·by_cases h2:0<cmpI x.2.2.1 y.2.2.1
   ·have:cmpI x.2.2.1 y.2.2.1=1:=by omega
    simp[a0,this]
   ·have:cmpI x.2.2.1 y.2.2.1=0:=by omega
    simp[a0,this]
 ·simp[cmpZ]
 ·simp[cmpZ]
 ·simp[cmpZ]
 ·by_cases h1:x.2.1<y.2.1
  ·simp[a0,a4,cmpZ,h1]
  ·by_cases h2:y.2.1<x.2.1
   ·simp[a0,a4,cmpZ,h1,h2]
   ·simp[a0,a4,cmpZ,h1,h2]
theorem g0i{n:Nat}{cs:List (List Vl)}{i:Int}(hi:0≤i∧i<cs.length)(hl:∀l,l∈cs→l.length<100000∧l.length<n):b4n n (cs,i,())=some ((a9s (cs.getD i.toNat []),()),()):=by
 have hil:i.toNat<cs.length:=by omega
 obtain⟨h1,h2⟩:=hl _ (Aj hil);unfold b4n a9s;dsimp only;rw[if_neg (by simp <;> omega),if_neg (by simp <;> omega),a0c hil];generalize cs[i.toNat]=l at h1 h2;refine DY (c2d (fun j=>((j+1:Nat):Int)) (l.length - 1) (fun j=>decide (0≤cmpG (l.getD (j+1) a2e) (l.getD j a2e))) (some ((false,()),())) (some ((true,()),())) (by rfl) ?_ ?_ (by omega)) ?_
 ·intro rec j hj;have hw:Aa.wrap (((j+1:Nat):Int) - 1)=(j:Int):=by rw[a0d (by omega) (by omega)];omega
  rw[a0s hi.1 hi.2,if_pos (by simp <;> omega),a0s hi.1 hi.2,hw,a0a (by omega),a0s hi.1 hi.2,a0a (by omega),a8k,a0b (by omega),Ac,Ac];simp only[Ab];have ha:=e2i (l.getD (j+1) a2e) (l.getD j a2e);change (if decide (0<cmpG (l.getD j a2e) (l.getD (j+1) a2e))=true then _ else _)=_;rw[ha];by_cases h:0≤cmpG (l.getD (j+1) a2e) (l.getD j a2e)
  ·rw[if_neg (by rw[decide_eq_true_eq];omega),if_pos (decide_eq_true h)]
  ·rw[if_pos (decide_eq_true (by omega)),if_neg (by rw[decide_eq_true_eq];exact h)]
 ·intro rec;rw[a0s hi.1 hi.2,if_neg (by simp <;> omega)]
 ·cases(AA (l.length - 1)).all fun j=>decide (0≤cmpG (l.getD (j+1) a2e) (l.getD j a2e)) <;> rfl
theorem f3s(l:List Vl)(v:Vl):a3b (l++[v])=if v.1=0 then a3b l else a3b l++[v]:=by
 unfold a3b isN;rw[List.filter_append];by_cases h:v.1=0 <;> simp[h]
theorem f8o(v:Vl):minF v v=v:=by unfold minF;split <;> rfl
theorem f7o(v:Vl):maxF v v=v:=by unfold maxF;split <;> rfl
theorem e1w{n:Nat}{l:List Vl}(hl:l.length<100000)(hn:l.length<n):c0m n (l,())=some ((a6p l,()),()):=by
 unfold c0m;dsimp only;refine a0i (fun i=>(a6p (l.take i),!(a3b (l.take i)).isEmpty,(i:Int))) l.length rfl ?_ ?_ (by omega)
 ·intro rec i hi;have htl:(l.take i).length=i:=by simp <;> omega
  have hs:=b3c (l.take i);dsimp only;rw[if_pos (by simp <;> omega),a0a hi,Ac,a0c hi,a0b (by omega),Am hi];generalize l.take i=t at htl hs;generalize l[i]=v;have hsn:=f3s t v;by_cases h0:v.1=0
  ·rw[if_pos h0] at hsn;rw[if_pos (by simpa using h0),hsn];congr 1;unfold a6p;rw[hsn];split
   ·rename_i h;simp only[Ap,AZ];rw[a0d (by omega) (by omega)];simp
   ·rename_i w r h;rw[h] at hs;simp only[Ap,AZ];rw[a0d (by omega) (by omega)];congr 2;omega
  ·rw[if_neg h0] at hsn;rw[if_neg (by simpa using h0)];unfold b1j;dsimp only;cases hc:a3b t with
   |nil =>
    rw[hc] at hsn;rw[if_pos (by simp),a0a hi,if_pos (by simp),a0a hi,hsn];congr 1;unfold a6p;rw[hc,hsn];simp[f8o,f7o]
   |cons w r =>
    rw[hc] at hsn hs;have hz:a6p t=((t.length:Int) - ((w::r).length:Int),(w::r).foldl minF w,(w::r).foldl maxF w,()):=by unfold a6p;rw[hc]
    have hz2:a6p (t++[v])=((t.length:Int) - ((w::r).length:Int),minF ((w::r).foldl minF w) v,maxF ((w::r).foldl maxF w) v,()):=by
     unfold a6p;rw[hsn];simp only[AT,Ap,A6,D9];rw[←AT,Cy,Cy];simp only[BK,List.foldl_nil];congr 1;omega
    rw[hsn,hz,hz2];generalize (w::r).foldl minF w=a;generalize (w::r).foldl maxF w=b;rw[if_neg (by simp),a0a hi,a8k];simp only[Ab];unfold minF maxF;by_cases h1:cmpG v a<0
    ·rw[if_pos (by simpa using h1),if_pos h1,a0a hi];rw[if_neg (by simp),a0a hi,a8k];simp only[Ab];by_cases h2:0<cmpG v b
     ·rw[if_pos (by simpa using h2),if_pos h2,a0a hi];rfl
     ·rw[if_neg (by simpa using h2),if_neg h2];rfl
    ·rw[if_neg (by simpa using h1),if_neg h1];rw[if_neg (by simp),a0a hi,a8k];simp only[Ab];by_cases h2:0<cmpG v b
     ·rw[if_pos (by simpa using h2),if_pos h2,a0a hi];rfl
     ·rw[if_neg (by simpa using h2),if_neg h2];rfl
 ·intro rec;dsimp only;rw[if_neg (by simp),Aq]
end Go.Rb.R5

namespace Go.Rb.R5
open Go.Rb
theorem f4p(n:Nat)(t:Int)(v:Vl):a9t n (t,v,())=some ((a5f t v,()),()):=by
 rw[c5e];unfold a5f isT;simp only[Bool.and_assoc]
theorem g7g(x y:Zn):(!((decide (x.1=y.1))&&(((decide (x.2.1.1=y.2.1.1))&&((decide (x.2.1.2.1=y.2.1.2.1))&&(decide (x.2.1.2.2.1=y.2.1.2.2.1))))&&((decide (x.2.2.1.1=y.2.2.1.1))&&((decide (x.2.2.1.2.1=y.2.2.1.2.1))&&(decide (x.2.2.1.2.2.1=y.2.2.1.2.2.1)))))))=!eqZ x y:=by
 unfold eqZ;rw[eqVl,eqVl]
theorem b3n{n:Nat}{s:Sg}(hl:∀l,l∈s.2.2.2.2.2.2.1→l.length<100000)(hn:100001≤n):a5y n (s,())=some ((a5j s,()),()):=by
 unfold a5y;dsimp only;have no:¬b8g s→some ((false,()),())=some ((a5j s,()),()):=fun h=>by
  unfold a5j;rw[decide_eq_false h,BY]
 by_cases c1:s.1<0
 ·rw[if_pos (decide_eq_true (by omega))];exact no fun h=>by have:=h.1;omega
 rw[if_neg (by rw[decide_eq_true_eq];omega)];by_cases c2:200<s.1
 ·rw[if_pos (decide_eq_true (by omega))];exact no fun h=>by have:=h.2.1;omega
 rw[if_neg (by rw[decide_eq_true_eq];omega)];by_cases c3:s.2.1<0
 ·rw[if_pos (decide_eq_true (by omega))];exact no fun h=>by have:=h.2.2.1;omega
 rw[if_neg (by rw[decide_eq_true_eq];omega)];by_cases c4:4≤s.2.1
 ·rw[if_pos (decide_eq_true (by omega))];exact no fun h=>by have:=h.2.2.2.1;omega
 rw[if_neg (by rw[decide_eq_true_eq];omega)];by_cases c5:s.2.2.2.2.2.2.1.length<1
 ·rw[if_pos (decide_eq_true (by omega))];exact no fun h=>by have:=h.2.2.2.2.1;omega
 rw[if_neg (by rw[decide_eq_true_eq];omega)];by_cases c6:6<s.2.2.2.2.2.2.1.length
 ·rw[if_pos (decide_eq_true (by omega))];exact no fun h=>by have:=h.2.2.2.2.2.1;omega
 rw[if_neg (by rw[decide_eq_true_eq];omega)];by_cases c7:s.2.2.2.1.length≠s.2.2.2.2.2.2.1.length
 ·rw[if_pos (by rw[A8,decide_eq_false_iff_not];omega)];exact no fun h=>by have:=h.2.2.2.2.2.2.1;omega
 rw[if_neg (by rw[A8,decide_eq_false_iff_not];omega)];by_cases c8:s.2.2.2.2.1.length≠s.2.2.2.2.2.2.1.length
 ·rw[if_pos (by rw[A8,decide_eq_false_iff_not];omega)];exact no fun h=>by have:=h.2.2.2.2.2.2.2.1;omega
 rw[if_neg (by rw[A8,decide_eq_false_iff_not];omega)];by_cases c9:s.2.2.2.2.2.1.length≠s.2.2.2.2.2.2.1.length
 ·rw[if_pos (by rw[A8,decide_eq_false_iff_not];omega)];exact no fun h=>by have:=h.2.2.2.2.2.2.2.2.1;omega
 rw[if_neg (by rw[A8,decide_eq_false_iff_not];omega)];by_cases c12:s.2.2.1<0
 ·rw[if_pos (decide_eq_true (by omega))];exact no fun h=>by obtain⟨a1,a2,a3,a4,a5,a6,a7,a8,a9,a10,a11,a12,a13⟩:=h;omega
 rw[if_neg (by rw[decide_eq_true_eq];omega)];by_cases c13:(s.2.2.2.2.2.2.1.length:Int)<s.2.2.1
 ·rw[if_pos (decide_eq_true (by omega))];exact no fun h=>by obtain⟨a1,a2,a3,a4,a5,a6,a7,a8,a9,a10,a11,a12,a13⟩:=h;omega
 rw[if_neg (by rw[decide_eq_true_eq];omega)];have hIs:b4n n (s.2.2.2.2.2.2.1,Aa.wrap (s.2.2.1 - 1),())=some ((decide (s.2.2.1=0)||a9s (s.2.2.2.2.2.2.1.getD (s.2.2.1 - 1).toNat []),()),()):=by
  rw[a0d (by omega) (by omega)];by_cases h0:s.2.2.1=0
  ·unfold b4n;rw[if_pos (by simp[h0]),decide_eq_true h0,FD]
  ·rw[g0i (by omega) (fun l h=>⟨hl l h,by have:=hl l h;omega⟩),decide_eq_false h0,Bool.false_or]
 rw[hIs];simp only[Ab];have hms:a5j s=(decide (b8g s)&&((AA s.2.2.2.2.2.2.1.length).all (c4m s)&&(decide (s.2.2.1=0)||a9s (s.2.2.2.2.2.2.1.getD (s.2.2.1 - 1).toNat [])))):=rfl;cases hS:(decide (s.2.2.1=0)||a9s (s.2.2.2.2.2.2.1.getD (s.2.2.1 - 1).toNat [])) with
 |false =>
  rw[if_pos (by rfl),hms,hS,GK,GK]
 |true =>
  rw[if_neg (by simp),a0s (by omega) (by omega),hms,hS,Bool.and_true];have hr0:(s.2.2.2.2.2.2.1.getD (0:Int).toNat []).length=a9q s.2.2.2.2.2.2.1:=rfl;rw[hr0];have hrl:a9q s.2.2.2.2.2.2.1<100000:=by
   rw[←hr0,a0c (show(0:Int).toNat<s.2.2.2.2.2.2.1.length by simp <;> omega)];exact hl _ (Aj _)
  refine DY (c2d (fun i=>(i:Int)) s.2.2.2.2.2.2.1.length (c4m s) (some ((false,()),())) (some ((decide (1≤a9q s.2.2.2.2.2.2.1)&&decide (a9q s.2.2.2.2.2.2.1≤16),()),())) (by rfl) ?_ ?_ (by omega)) ?_
  ·intro rec i hi;rw[if_pos (by simp <;> omega),a0a (by omega),a0a (by omega),c5h];simp only[Ab,Ac];unfold c4m e7q;cases hu:b1o (s.2.2.2.2.1.getD i 0) (s.2.2.2.1.getD i 0) with
   |none=>simp
   |some u =>
    dsimp only;rw[if_neg (by simp),a0a (by omega)];by_cases hue:u=s.2.2.2.2.1.getD i 0
    rotate_left
    ·rw[if_pos (by simpa using hue),if_neg (by rw[Af,decide_eq_true_eq];rintro⟨h,_⟩;exact hue (Ai h))]
    rw[if_neg (by simpa using hue),decide_eq_true (show some u=some (s.2.2.2.2.1.getD i 0) by rw[hue]),Bd,a0a hi];have hli:(s.2.2.2.2.2.2.1.getD i []).length<100000:=by
     rw[a0c hi];exact hl _ (Aj _)
    by_cases hle:(s.2.2.2.2.2.2.1.getD i []).length=a9q s.2.2.2.2.2.2.1
    rotate_left
    ·rw[if_pos (by rw[A8,decide_eq_false_iff_not];omega),decide_eq_false hle,BY,if_neg (by simp)]
    rw[if_neg (by rw[A8,decide_eq_false_iff_not];omega),decide_eq_true hle,Bd];have ht:s.2.2.2.1.getD i 0=s.2.2.2.1.getD i 0:=rfl;refine DY (c2d (fun k=>(k:Int)) (s.2.2.2.2.2.2.1.getD i []).length (fun k=>a5f (s.2.2.2.1.getD i 0) ((s.2.2.2.2.2.2.1.getD i []).getD k a2e)) (some ((false,()),())) (if eqZ (s.2.2.2.2.2.1.getD i c0e) (a6p (s.2.2.2.2.2.2.1.getD i []))=true then rec ((i+1:Nat):Int) else some ((false,()),())) (by rfl) ?_ ?_ (by omega)) ?_
    ·intro rec2 k hk;rw[if_pos (by simp <;> omega),a0a (by omega),a0a hi,a0a hk,f4p,a0b (by omega),Ac];simp only[Ab];change (if(!a5f (s.2.2.2.1.getD i 0) ((s.2.2.2.2.2.2.1.getD i []).getD k a2e))=true then _ else _)=_;cases a5f (s.2.2.2.1.getD i 0) ((s.2.2.2.2.2.2.1.getD i []).getD k a2e) <;> rfl
    ·intro rec2;rw[if_neg (by rw[decide_eq_true_eq];omega),a0a (by omega),a0a hi,e1w hli (by omega)];simp only[Ab];have hz:=g7g (s.2.2.2.2.2.1.getD i ((0:Int),((0:Int),(0:Int),[],()),((0:Int),(0:Int),[],()),())) (a6p (s.2.2.2.2.2.2.1.getD i []));change _=!eqZ (s.2.2.2.2.2.1.getD i c0e) (a6p (s.2.2.2.2.2.2.1.getD i [])) at hz;rw[a0b (by omega)];cases hb:eqZ (s.2.2.2.2.2.1.getD i c0e) (a6p (s.2.2.2.2.2.2.1.getD i [])) with
     |true =>
      rw[hb] at hz;rw[if_neg (fun h=>by rw[hz] at h;cases h),if_pos rfl]
     |false =>
      rw[hb] at hz;rw[if_pos (hz.trans Bool.not_false),if_neg DS]
    ·have hall:((AA (s.2.2.2.2.2.2.1.getD i []).length).all fun k=>a5f (s.2.2.2.1.getD i 0) ((s.2.2.2.2.2.2.1.getD i []).getD k a2e))=(s.2.2.2.2.2.2.1.getD i []).all (a5f (s.2.2.2.1.getD i 0)):=by
      generalize s.2.2.2.2.2.2.1.getD i []=l
      conv=>rhs;rw[←a4w l a2e,List.all_map]
      rfl
     rw[hall];cases(s.2.2.2.2.2.2.1.getD i []).all (a5f (s.2.2.2.1.getD i 0)) <;> cases eqZ (s.2.2.2.2.2.1.getD i c0e) (a6p (s.2.2.2.2.2.2.1.getD i [])) <;> rfl
  ·intro rec;rw[if_neg (by simp)];by_cases h1:1≤a9q s.2.2.2.2.2.2.1
   ·rw[if_pos (decide_eq_true (by omega)),decide_eq_true h1,Bd];by_cases h2:a9q s.2.2.2.2.2.2.1≤16
    ·rw[decide_eq_true h2,decide_eq_true (by omega)]
    ·rw[decide_eq_false h2,decide_eq_false (by omega)]
   ·rw[if_neg (by rw[decide_eq_true_eq];omega),decide_eq_false h1,BY]
  ·by_cases hr:1≤a9q s.2.2.2.2.2.2.1∧a9q s.2.2.2.2.2.2.1≤16
   ·have hA:b8g s:=⟨by omega,by omega,by omega,by omega,by omega,by omega,by omega,by omega,by omega,by omega,by omega,by omega,by omega⟩
    rw[decide_eq_true hA,decide_eq_true hr.1,decide_eq_true hr.2,Bd];cases(AA s.2.2.2.2.2.2.1.length).all (c4m s) <;> rfl
   ·have hA:¬b8g s:=fun h=>by obtain⟨a1,a2,a3,a4,a5,a6,a7,a8,a9,a10,a11,a12,a13⟩:=h;omega
    have hb:(decide (1≤a9q s.2.2.2.2.2.2.1)&&decide (a9q s.2.2.2.2.2.2.1≤16))=false:=by
     rw[Bool.and_eq_false_iff,decide_eq_false_iff_not,decide_eq_false_iff_not];omega
    rw[decide_eq_false hA,hb,BY];cases(AA s.2.2.2.2.2.2.1.length).all (c4m s) <;> rfl
theorem c7h{n:Nat}{l:List Int}(hl:l.length<n)(hc:l.length<1000000):a7j n (l,l,())=some ((true,()),()):=by
 unfold a7j;dsimp only;rw[if_neg (by simp)];refine a0i (st:=fun i=>(i:Int)) l.length rfl ?_ ?_ hl
 ·intro rec i hi;rw[if_pos (by simp <;> omega),a0a hi,a0a hi,if_neg (by simp),a0b (by omega)]
 ·intro rec;rw[if_neg (by simp)]
theorem e0h{n:Nat}{l:List Vl}(hl:l.length<n)(hc:l.length<1000000):a8n n (l,l,())=some ((true,()),()):=by
 unfold a8n;dsimp only;rw[if_neg (by simp)];refine a0i (st:=fun i=>(i:Int)) l.length rfl ?_ ?_ hl
 ·intro rec i hi;rw[if_pos (by simp <;> omega),a0a hi,a0a hi,if_neg (by simp),a0b (by omega)]
 ·intro rec;rw[if_neg (by simp)]
theorem e0z{n:Nat}{cs:List (List Vl)}(hn:cs.length<n)(hc:cs.length<1000000)(hl:∀l,l∈cs→l.length<n∧l.length<1000000):b1f n (cs,cs,())=some ((true,()),()):=by
 unfold b1f;dsimp only;rw[if_neg (by simp)];refine a0i (st:=fun i=>(i:Int)) cs.length rfl ?_ ?_ hn
 ·intro rec i hi;have:=hl _ (Aj hi);rw[if_pos (by simp <;> omega),a0a hi,a0a hi,Ac,a0c hi,e0h this.1 this.2];simp only[Ab];rw[if_neg (by simp),a0b (by omega)]
 ·intro rec;rw[if_neg (by simp)]
theorem c9k{n:Nat}{s:Sg}(hn:100001≤n)(h1:s.2.2.2.1.length<100000)(h2:s.2.2.2.2.1.length<100000)(h3:s.2.2.2.2.2.1.length<100000)(h4:s.2.2.2.2.2.2.1.length<100000)(hl:∀l,l∈s.2.2.2.2.2.2.1→l.length<100000) :
  a4d n (s,s,())=some ((true,()),()):=by
 unfold a4d;dsimp only;rw[if_neg (by simp),if_neg (by simp),if_neg (by simp),c7h (by omega) (by omega)];simp only[Ab];rw[if_neg (by simp),c7h (by omega) (by omega)];simp only[Ab];rw[if_neg (by simp),if_neg (by simp),e0z (by omega) (by omega) (fun l h=>⟨by have:=hl l h;omega,by have:=hl l h;omega⟩)];simp only[Ab];rw[if_neg (by simp)];refine a0i (st:=fun i=>(i:Int)) s.2.2.2.2.2.1.length rfl ?_ ?_ (by omega)
 ·intro rec i hi;rw[if_pos (by simp <;> omega),a0a hi,a0a hi,if_neg (by simp),a0b (by omega)]
 ·intro rec;rw[if_neg (by simp)]
end Go.Rb.R5

namespace Go.Rb.R5
open Go.Rb
def uAt(types enc:List Int)(i:Nat):Int:=(b1o (enc.getD i 0) (types.getD i 0)).getD 0
def isAt(types enc:List Int)(i:Nat):Bool:=(b1o (enc.getD i 0) (types.getD i 0)).isSome
def mkSg(v p sb:Int)(types enc:List Int)(cs:List (List Vl)):Sg:=(v,p,sb,types,(AA cs.length).map (uAt types enc),cs.map a6p,cs,())
def d1v(v p sb:Int)(types enc:List Int)(cs:List (List Vl)):Option Sg :=
 if types.length=cs.length∧enc.length=cs.length∧(AA cs.length).all (isAt types enc)=true∧a5j (mkSg v p sb types enc cs)=true then some (mkSg v p sb types enc cs) else none
def outS(o:Option Sg):Sg×Bool×Unit:=match o with
 |some s=>(s,true,())
 |none=>(e7r,false,())
theorem f1z(cs:List (List Vl)):(AA cs.length).map (fun k=>a6p (cs.getD k []))=cs.map a6p:=by
 conv=>rhs;rw[←a4w cs [],Cv]
 rfl
theorem a5w{α:Type}(f:Nat→α)(i:Nat):(AA (i+1)).map f=(AA i).map f++[f i]:=by
 rw[List.range_succ,EN];rfl
theorem c6h{n:Nat}{v p sb:Int}{types enc:List Int}{cs:List (List Vl)}(hc:cs.length<100000)(hl:∀l,l∈cs→l.length<100000)(hn:100001≤n) :
  b8f n (v,p,sb,types,enc,cs,())=some (outS (d1v v p sb types enc cs),()):=by
 have hro:=a0p;unfold b8f a3j;simp only[Ab];by_cases h1:types.length=cs.length
 rotate_left
 ·rw[if_pos (by rw[A8,decide_eq_false_iff_not];omega)];unfold d1v;rw[if_neg (fun h=>h1 h.1)];rfl
 rw[if_neg (by rw[A8,decide_eq_false_iff_not];omega)];by_cases h2:enc.length=cs.length
 rotate_left
 ·rw[if_pos (by rw[A8,decide_eq_false_iff_not];omega)];unfold d1v;rw[if_neg (fun h=>h2 h.2.1)];rfl
 rw[if_neg (by rw[A8,decide_eq_false_iff_not];omega)];refine DY (c2d (fun i=>(e7r,(v,p,sb,types,(AA i).map (uAt types enc),(AA i).map (fun k=>a6p (cs.getD k [])),(AA i).map (fun k=>cs.getD k []),()),(i:Int))) cs.length (isAt types enc)
  (some (outS none,())) (some (outS (if a5j (mkSg v p sb types enc cs)=true then some (mkSg v p sb types enc cs) else none),())) (by rfl) ?_ ?_ (by omega)) ?_
 ·intro rec i hi;have hli:(cs.getD i []).length<100000:=by rw[a0c hi];exact hl _ (Aj _)
  dsimp only;rw[if_pos (by simp <;> omega),a0a hi,a0a (by omega),a0a (by omega),b3i,Ac];simp only[Ab];unfold isAt;have hu:uAt types enc i=(b1o (enc.getD i 0) (types.getD i 0)).getD 0:=rfl;cases hus:b1o (enc.getD i 0) (types.getD i 0) with
  |none=>rw[if_pos (by rfl)];rfl
  |some u =>
   rw[hus] at hu;rw[if_neg (by simp),if_pos (by simp <;> omega),c9r hli (by omega)];simp only[Ab];rw[if_pos (by simp <;> omega)];unfold a0e;simp only[Ab];rw[if_pos (by simp <;> omega),a0b (by omega),a5w,a5w,a5w,hu];rfl
 ·intro rec;dsimp only;rw[if_neg (by simp),f1z,a4w,b3a (fun l h=>hl l h) hn];simp only[Ab];change (if(!a5j (mkSg v p sb types enc cs))=true then _ else _)=_;cases a5j (mkSg v p sb types enc cs) <;> rfl
 ·unfold d1v;simp only[h1,h2,true_and];cases(AA cs.length).all (isAt types enc) <;> cases a5j (mkSg v p sb types enc cs) <;> rfl
theorem d3g{n:Nat}{v p sb:Int}{types enc:List Int}{cs:List (List Vl)}(ht:types.length<100000)(hc:cs.length<100000)(hl:∀l,l∈cs→l.length<100000)(hn:100001≤n) :
  b2t n (v,p,sb,types,enc,cs,())=some (outS (d1v v p sb types enc cs),()):=by
 have hro:=a0p;unfold b2t;dsimp only;rw[if_pos (by simp <;> omega)];refine DY (c2d (fun i=>(e7r,(v,p,sb,types,(AA i).map (uAt types enc),(AA i).map (fun k=>a6p (cs.getD k [])),(AA i).map (fun k=>cs.getD k []),()),(i:Int))) cs.length (fun i=>decide (i<enc.length)&&(decide (i<types.length)&&isAt types enc i))
  (some (outS none,())) (some (outS (if enc.length=cs.length∧a5j (mkSg v p sb types enc cs)=true then some (mkSg v p sb types enc cs) else none),())) (by rfl) ?_ ?_ (by omega)) ?_
 ·intro rec i hi;have hli:(cs.getD i []).length<100000:=by rw[a0c hi];exact hl _ (Aj _)
  dsimp only;rw[if_pos (by simp <;> omega)];by_cases h2:i<enc.length
  rotate_left
  ·rw[if_pos (by rw[decide_eq_true_eq];omega),decide_eq_false h2,BY];rfl
  rw[if_neg (by rw[decide_eq_true_eq];omega),decide_eq_true h2,Bd];by_cases h1:i<types.length
  rotate_left
  ·rw[if_pos (by rw[decide_eq_true_eq];omega),decide_eq_false h1,BY];rfl
  rw[if_neg (by rw[decide_eq_true_eq];omega),decide_eq_true h1,Bd,a0a h2,a0a h1,c5h,Ac];simp only[Ab];unfold isAt;have hu:uAt types enc i=(b1o (enc.getD i 0) (types.getD i 0)).getD 0:=rfl;cases hus:b1o (enc.getD i 0) (types.getD i 0) with
  |none=>rw[if_pos (by rfl)];rfl
  |some u =>
   rw[hus] at hu;rw[if_neg (by simp),if_pos (by simp <;> omega),a0a hi,e1w hli (by omega)];simp only[Ab];rw[if_pos (by simp <;> omega),a0a hi,if_pos (by simp only[D9,Nat.zero_add];omega),if_pos (by simp <;> omega),a0b (by omega),a5w,a5w,a5w,hu];rfl
 ·intro rec;dsimp only;rw[if_neg (by simp),f1z,a4w];by_cases h2:enc.length=cs.length
  rotate_left
  ·rw[if_pos (by rw[A8,decide_eq_false_iff_not];omega),if_neg (fun h=>h2 h.1)];rfl
  rw[if_neg (by rw[A8,decide_eq_false_iff_not];omega)];rw[b3n (fun l h=>hl l h) hn];simp only[Ab];change (if(!a5j (mkSg v p sb types enc cs))=true then _ else _)=_;simp only[h2,true_and];cases a5j (mkSg v p sb types enc cs) <;> rfl
 ·have hm:a5j (mkSg v p sb types enc cs)=true→types.length=cs.length:=fun h=>by
   unfold a5j at h;rw[Af,decide_eq_true_eq] at h;obtain⟨a1,a2,a3,a4,a5,a6,a7,a8,a9,a10,a11,a12,a13⟩:=h.1;exact a7
  unfold d1v;by_cases hg:types.length=cs.length∧enc.length=cs.length
  ·have hall:((AA cs.length).all fun i=>decide (i<enc.length)&&(decide (i<types.length)&&isAt types enc i))=(AA cs.length).all (isAt types enc):=by
    rw[Bool.eq_iff_iff,AK,AK];refine forall_congr' fun i=>forall_congr' fun hi=>?_
    have:=Bz.1 hi;rw[decide_eq_true (show i<enc.length by omega),decide_eq_true (show i<types.length by omega),Bd,Bd]
   rw[hall];simp only[hg.1,hg.2,true_and];cases(AA cs.length).all (isAt types enc) <;> cases a5j (mkSg v p sb types enc cs) <;> rfl
  ·have e1:¬(types.length=cs.length∧enc.length=cs.length∧(AA cs.length).all (isAt types enc)=true∧a5j (mkSg v p sb types enc cs)=true):=fun h=>hg ⟨h.1,h.2.1⟩
   have e2:¬(enc.length=cs.length∧a5j (mkSg v p sb types enc cs)=true):=fun h=>hg ⟨hm h.2,h.1⟩
   rw[if_neg e1,if_neg e2];split <;> rfl
end Go.Rb.R5

namespace Go.Rb.R5
open Go.Rb
theorem f7e{α:Type}(r:List α)(v d:α):(r++[v]).getD r.length d=v:=by simp[AJ]
theorem c0o{n:Nat}{b:List Int}{a m:Int}(hb:a1h b)(hl:b.length<100000)(ha:0≤a∧a≤b.length)(hm:1≤m∧m≤1000) :
  Gets (a1c n ((b,a,()),m,())) fun y=>∃v a,y=((v,()),((b,a,()),()))∧(0≤v∧v<m)∧0≤a∧a≤b.length:=by
 unfold a1c;dsimp only;by_cases h:(b.length:Int)≤a
 ·rw[if_pos (by simpa using h)];exact Gets.some ⟨_,_,rfl,by omega,ha⟩
 ·rw[if_neg (by simpa using h),a0d (x:=a+1) (by omega) (by omega),a0d (x:=a+1 - 1) (by omega) (by omega),show a+1 - 1=a by omega];refine Gets.atI (by omega) (by omega) ?_;rw[if_neg (by omega)];have hx:b.getD a.toNat 0∈b:=by
   rw[a0c (show a.toNat<b.length by omega)];exact Aj _
  have h2:=hb _ hx;rw[a0d (by omega) (by omega)];refine Gets.some ⟨_,_,rfl,⟨?_,?_⟩,by omega,by omega⟩
  ·exact Dc _ h2.1
  ·exact Dh _ (by omega)
theorem g1j{v:Int}(h:0≤v∧v<9):v=0∨v=1∨v=2∨v=3∨v=4∨v=5∨v=6∨v=7∨v=8:=by omega
theorem g0r{n:Nat}{b:List Int}{a k:Int}(hb:a1h b)(hl:b.length<100000)(ha:0≤a∧a≤b.length)(hk:1≤k∧k≤4) :
  Gets (a7y n ((b,a,()),k,())) fun y=>∃v a,y=((v,()),((b,a,()),()))∧(okV v∧a5f k v=true)∧0≤a∧a≤b.length:=by
 have v0:okV ((0:Int),(0:Int),[],())∧a5f k ((0:Int),(0:Int),[],())=true:=by
  refine⟨by unfold okV;decide,?_⟩;have:k=1∨k=2∨k=3∨k=4:=by omega
  rcases this with rfl|rfl|rfl|rfl <;> decide
 unfold a7y;refine Gets.bind (c0o hb hl ha (by omega)) ?_;rintro _ ⟨v,a,rfl,hv,ha2⟩;refine Gets.join (I:=fun s=>s=((b,a,()),0,0,[],())) ?_ ?_
 ·rintro _ rfl;dsimp only;by_cases h1:k=1
  ·subst h1;rw[if_pos (by simp)];rcases g1j hv with rfl|rfl|rfl|rfl|rfl|rfl|rfl|rfl|rfl <;>
    exact Gets.atI (by decide) (by decide) (Gets.some ⟨_,_,rfl,⟨by unfold okV;decide,by decide⟩,ha2⟩)
  rw[if_neg (by simpa using h1)];by_cases h2:k=2
  ·subst h2;rw[if_pos (by simp)];rcases g1j hv with rfl|rfl|rfl|rfl|rfl|rfl|rfl|rfl|rfl <;>
    exact Gets.atI (by decide) (by decide) (Gets.some ⟨_,_,rfl,⟨by unfold okV;decide,by decide⟩,ha2⟩)
  rw[if_neg (by simpa using h2)];by_cases h3:k=3
  ·subst h3;rw[if_pos (by simp)];rcases g1j hv with rfl|rfl|rfl|rfl|rfl|rfl|rfl|rfl|rfl <;>
    exact Gets.some ⟨_,_,rfl,⟨by unfold okV;decide,by decide⟩,ha2⟩
  rw[if_neg (by simpa using h3)];obtain rfl:k=4:=by omega
  rcases g1j hv with rfl|rfl|rfl|rfl|rfl|rfl|rfl|rfl|rfl <;>
   exact Gets.atI (by decide) (by decide) (Gets.some ⟨_,_,rfl,⟨by unfold okV;decide,by decide⟩,ha2⟩)
 ·intro J hJ;dsimp only;by_cases h0:v=0
  ·rw[if_pos (by simpa using h0)];unfold b2f;simp only[Ab];cases hd:(!decide ((b.length:Int)≤a)) with
   |true =>
    rw[if_pos rfl];exact Gets.some ⟨_,_,rfl,v0,ha2⟩
   |false =>
    rw[if_neg DS];exact hJ _ rfl
  ·rw[if_neg (by simpa using h0)];exact hJ _ rfl
abbrev Co:Type:=Int×List Int×Int×Unit
abbrev Ly:Type:=Int×Int×Int×List Int×Unit
def coOK(cs:List Co):Prop:=∀c,c∈cs→1≤c.2.2.1∧c.2.2.1≤4
theorem coOK.snoc{cs:List Co}{c:Co}(h:coOK cs)(hc:1≤c.2.2.1∧c.2.2.1≤4):coOK (cs++[c]):=by
 intro x hx;rcases Ao.1 hx with hx|hx
 ·exact h x hx
 ·obtain rfl:=B9.1 hx;exact hc
theorem g0e{n:Nat}{b:List Int}{a:Int}(hb:a1h b)(hl:b.length<100000)(ha:0≤a∧a≤b.length)(hn:100≤n) :
  Gets (a6y n ((b,a,()),())) fun y=>∃(cs:List Co) (la:Int) (ly:Ly) (a:Int),y=(((cs,la,()),ly,()),((b,a,()),()))∧(2≤cs.length∧cs.length≤4∧coOK cs)∧(ly.2.2.2.1.length=cs.length∧∀e,e∈ly.2.2.2.1→1≤e∧e≤5)∧0≤a∧a≤b.length:=by
 have hro:=a0p;unfold a6y;dsimp only;refine Gets.bind (c0o hb hl ha (by omega)) ?_;rintro _ ⟨v,a,rfl,hv,ha2⟩;refine Gets.bind (c0o hb hl ha2 (by omega)) ?_;rintro _ ⟨w,a,rfl,hw,ha3⟩;dsimp only;rw[a0d (x:=1+v) (by omega) (by omega)];refine Gets.iter (I:=fun s=>∃(a:Int) (cs:List Co) (la i:Int),s=((b,a,()),(cs,la,()),i)∧(0≤a∧a≤b.length)∧(0≤i∧i≤2∧2≤cs.length∧(cs.length:Int)+i≤4)∧(0≤la∧la+i≤4)∧coOK cs)
  (μ:=fun s=>s.2.2.toNat) ⟨_,_,_,_,rfl,ha3,by simp <;> omega,by omega,?_⟩ (by simp <;> omega) ?_
 ·intro c hc;simp only[Az,C6,or_false] at hc;rcases hc with rfl|rfl
  ·dsimp only;omega
  ·dsimp only;omega
 rintro rec _ ⟨a,cs,la,i,rfl,h1,h2,h3,h4⟩ hrec;dsimp only;by_cases hi:0<i
 ·rw[if_pos (by simpa using hi),if_pos (by simp)];refine Gets.bind (c0o hb hl h1 (by omega)) ?_;rintro _ ⟨v,a,rfl,hv,ha2⟩;dsimp only;rw[a0d (x:=1+v) (by omega) (by omega),a0d (x:=la+1) (by omega) (by omega),a0d (x:=i - 1) (by omega) (by omega),if_pos (by simp <;> omega)];exact hrec _ ⟨_,_,_,_,rfl,ha2,by simp <;> omega,by omega,h4.snoc (by dsimp only;omega)⟩ (by simp <;> omega)
 rw[if_neg (by simpa using hi)];refine Gets.iter (I:=fun s=>∃(a:Int) (ly:Ly) (i:Nat),s=((b,a,()),(cs,la,()),ly,(i:Int))∧(0≤a∧a≤b.length)∧i≤cs.length∧ly.2.2.2.1.length=i∧∀e,e∈ly.2.2.2.1→1≤e∧e≤5)
  (μ:=fun s=>cs.length - s.2.2.2.toNat) ⟨_,_,0,rfl,h1,by omega,rfl,by simp⟩ (by simp <;> omega) ?_
 rintro rec2 _ ⟨a,ly,i,rfl,g1,g2,g3,g4⟩ hrec2;dsimp only;by_cases hi:i<cs.length
 ·rw[if_pos (by simp <;> omega)];refine Gets.bind (c0o hb hl g1 (by omega)) ?_;rintro _ ⟨v,a,rfl,hv,ha2⟩;dsimp only;rw[a0d (x:=1+v) (by omega) (by omega),a0b (by omega),if_pos (by simp <;> omega)];refine hrec2 _ ⟨_,_,i+1,rfl,ha2,by omega,by simp <;> omega,?_⟩ (by simp <;> omega);intro e he;rcases Ao.1 he with he|he
  ·exact g4 e he
  ·obtain rfl:=B9.1 he;omega
 rw[if_neg (by simp <;> omega)];have hcl:1≤(cs.length:Int)∧(cs.length:Int)≤1000:=by omega
 refine Gets.join (I:=fun s=>∃(a so:Int),s=((b,a,()),(cs,la,()),so,ly.2)∧0≤a∧a≤b.length) ?_ ?_
 ·rintro _ ⟨a,so,rfl,ha⟩;dsimp only;refine Gets.bind (c0o hb hl ha (by omega)) ?_;rintro _ ⟨v,a,rfl,hv,ha2⟩;dsimp only;refine Gets.dec (fun _=>?_) fun _=>Gets.some ⟨_,_,_,_,rfl,⟨by omega,by omega,h4⟩,⟨by dsimp only;omega,g4⟩,ha2⟩
  refine Gets.bind (c0o hb hl ha2 hcl) ?_;rintro _ ⟨v,a,rfl,hv,ha2⟩;dsimp only;refine Gets.bind (c0o hb hl ha2 (by omega)) ?_;rintro _ ⟨w,a,rfl,hw,ha2⟩;exact Gets.some ⟨_,_,_,_,rfl,⟨by omega,by omega,h4⟩,⟨by dsimp only;omega,g4⟩,ha2⟩
 ·intro J hJ;refine Gets.bind (c0o hb hl g1 (by omega)) ?_;rintro _ ⟨v,a,rfl,hv,ha2⟩;dsimp only;refine Gets.dec (fun _=>?_) fun _=>hJ _ ⟨_,_,rfl,ha2⟩
  refine Gets.bind (c0o hb hl ha2 hcl) ?_;rintro _ ⟨v,a,rfl,hv,ha2⟩;exact hJ _ ⟨_,_,rfl,ha2⟩
def tyOf(cs:List Co)(i:Nat):Int:=(cs.getD i ((0:Int),[],(0:Int),())).2.2.1
def g6u(cs:List Co)(r:List Vl):Prop:=r.length=cs.length∧∀i,i<cs.length→okV (r.getD i a2e)∧a5f (tyOf cs i) (r.getD i a2e)=true
theorem g8z{n:Nat}{b:List Int}{a la:Int}{cs:List Co}(hb:a1h b)(hl:b.length<100000)(ha:0≤a∧a≤b.length)(hc:cs.length≤4)(hco:coOK cs)(hn:100≤n) :
  Gets (a9n n ((b,a,()),(cs,la,()),())) fun y=>∃r a,y=((r,()),((b,a,()),()))∧g6u cs r∧0≤a∧a≤b.length:=by
 have hro:=a0p;unfold a9n;refine Gets.iter (I:=fun s=>∃(a:Int) (r:List Vl) (i:Nat),s=((b,a,()),r,(i:Int))∧(0≤a∧a≤b.length)∧i≤cs.length∧r.length=i∧∀k,k<i→okV (r.getD k a2e)∧a5f (tyOf cs k) (r.getD k a2e)=true)
  (μ:=fun s=>cs.length - s.2.2.toNat) ⟨_,_,0,rfl,ha,by omega,rfl,fun k hk=>by omega⟩ (by simp <;> omega) ?_
 rintro rec _ ⟨a,r,i,rfl,h1,h2,h3,h4⟩ hrec;dsimp only;by_cases hi:i<cs.length
 ·rw[if_pos (by simp <;> omega),a0a hi,Ac];have ht:=hco _ (Aj hi);rw[←a0c hi (d:=((0:Int),[],(0:Int),()))] at ht;refine Gets.bind (g0r hb hl h1 ht) ?_;rintro _ ⟨v,a,rfl,hv,ha2⟩;dsimp only;rw[if_pos (by simp <;> omega),a0b (by omega)];refine hrec _ ⟨_,_,i+1,rfl,ha2,by omega,by simp <;> omega,?_⟩ (by simp <;> omega);intro k hk;by_cases hki:k<i
  ·have:(r++[v]).getD k a2e=r.getD k a2e:=by
    rw[a0c (by simp <;> omega),a0c (by omega),List.getElem_append_left]
   rw[this];exact h4 k hki
  ·obtain rfl:k=i:=by omega
   have:(r++[v]).getD k a2e=v:=by
    rw[←h3];exact f7e r v a2e
   rw[this];exact hv
 ·rw[if_neg (by simp <;> omega)];obtain rfl:i=cs.length:=by omega
  exact Gets.some ⟨_,_,rfl,⟨h3,h4⟩,h1⟩
theorem g5e{n:Nat}{b:List Int}{a la m:Int}{cs:List Co}(hb:a1h b)(hl:b.length<100000)(ha:0≤a∧a≤b.length)(hc:cs.length≤4)(hco:coOK cs)(hm:0≤m∧m≤50)(hn:100≤n) :
  Gets (a9b n ((b,a,()),(cs,la,()),m,())) fun y=>∃rs a,y=((rs,()),((b,a,()),()))∧((rs.length:Int)=m∧∀r,r∈rs→g6u cs r)∧0≤a∧a≤b.length:=by
 have hro:=a0p;unfold a9b;refine Gets.iter (I:=fun s=>∃(a:Int) (rs:List (List Vl)) (i:Nat),s=((b,a,()),rs,(i:Int))∧(0≤a∧a≤b.length)∧(i:Int)≤m∧rs.length=i∧∀r,r∈rs→g6u cs r)
  (μ:=fun s=>m.toNat - s.2.2.toNat) ⟨_,_,0,rfl,ha,by omega,rfl,by simp⟩ (by simp <;> omega) ?_
 rintro rec _ ⟨a,rs,i,rfl,h1,h2,h3,h4⟩ hrec;dsimp only;by_cases hi:(i:Int)<m
 ·rw[if_pos (by simp <;> omega)];refine Gets.bind (g8z hb hl h1 hc hco hn) ?_;rintro _ ⟨r,a,rfl,hr,ha2⟩;dsimp only;rw[if_pos (by simp <;> omega),a0b (by omega)];refine hrec _ ⟨_,_,i+1,rfl,ha2,by omega,by simp <;> omega,?_⟩ (by simp <;> omega);intro x hx;rcases Ao.1 hx with hx|hx
  ·exact h4 x hx
  ·obtain rfl:=B9.1 hx;exact hr
 ·rw[if_neg (by simp <;> omega)];exact Gets.some ⟨_,_,rfl,⟨by omega,h4⟩,h1⟩
end Go.Rb.R5

namespace Go.Rb.R5
open Go.Rb
theorem c2j{α:Type}(l:List α)(i j:Nat)(x d:α)(hi:i<l.length):(l.set i x).getD j d=if i=j then x else l.getD j d:=by
 simp only[AJ,List.getElem?_set];by_cases h:i=j
 ·subst h;simp[hi]
 ·simp[h]
theorem c4b{α:Type}(m j:Nat)(x:α):(List.replicate m x).getD j x=x:=by
 simp only[AJ,List.getElem?_replicate];split <;> rfl
theorem d0t{n:Nat}{rs:List (List Vl)}{w:Nat}(hw:1≤w∧w≤6)(hr:∀r,r∈rs→r.length=w)(hl:rs.length≤50)(hn:100≤n) :
  Gets (b0w n (rs,(w:Int),())) fun y=>∃cs:List (List Vl),y=((cs,true,()),())∧cs.length=w∧∀j,j<w→cs.getD j []=rs.map (fun r=>r.getD j a2e):=by
 have hro:=a0p;unfold b0w;dsimp only;rw[if_neg (by simp <;> omega),if_neg (by simp <;> omega),if_pos (by omega),Ac];refine Gets.iter (I:=fun s=>∃(cs:List (List Vl)) (i:Nat),s=(cs,(i:Int))∧i≤rs.length∧cs.length=w∧∀j,j<w→cs.getD j []=(rs.take i).map (fun r=>r.getD j a2e))
  (μ:=fun s=>rs.length - s.2.toNat) ⟨_,0,rfl,by omega,by simp,fun j hj=>by rw[c4b];simp⟩ (by simp <;> omega) ?_
 rintro rec _ ⟨cs,i,rfl,h1,h2,h3⟩ hrec;dsimp only;by_cases hi:i<rs.length
 ·have hri:=hr _ (Aj hi);rw[if_pos (by simp <;> omega),a0a hi,Ac,a0c hi,if_neg (by simp[hri])];refine Gets.iter (I:=fun s=>∃(cs:List (List Vl)) (k:Nat),s=(cs,(k:Int))∧k≤w∧cs.length=w∧∀j,j<w→cs.getD j []=(rs.take (if j<k then i+1 else i)).map (fun r=>r.getD j a2e))
   (μ:=fun s=>w - s.2.toNat) ⟨_,0,rfl,by omega,h2,fun j hj=>by rw[if_neg (by omega)];exact h3 j hj⟩ (by simp <;> omega) ?_
  rintro rec2 _ ⟨cs,k,rfl,g1,g2,g3⟩ hrec2;dsimp only;by_cases hk:k<w
  ·have hck:=g3 k hk;rw[if_neg (by omega)] at hck;have hcl:(cs.getD k []).length≤50:=by rw[hck,Bb,AC];omega
   rw[if_pos (by simp <;> omega),a0a (by omega),a0a hi,a0a (by omega),Ac,if_pos (by simp only[AZ];omega),a0a (by omega),if_pos rfl,a0b (by omega)];refine hrec2 _ ⟨_,k+1,rfl,by omega,by rw[CB];exact g2,?_⟩ (by simp <;> omega);intro j hj;rw[c2j _ _ _ _ _ (by omega)];by_cases hkj:k=j
   ·subst hkj;rw[if_pos rfl,if_pos (by omega),hck,Am hi,EN];rfl
   ·rw[if_neg hkj,g3 j hj];by_cases hjk:j<k
    ·rw[if_pos hjk,if_pos (by omega)]
    ·rw[if_neg hjk,if_neg (by omega)]
  ·rw[if_neg (by simp <;> omega),a0b (by omega)];refine hrec _ ⟨_,i+1,rfl,by omega,g2,fun j hj=>?_⟩ (by simp <;> omega);rw[g3 j hj,if_pos (by omega)]
 ·rw[if_neg (by simp <;> omega)];obtain rfl:i=rs.length:=by omega
  refine Gets.some ⟨_,rfl,h2,fun j hj=>?_⟩;rw[h3 j hj,Aq]
def f3x(cs:List Co)(m:Nat)(tb:List (List Vl)):Prop:=tb.length=cs.length∧∀j,j<cs.length→(tb.getD j []).length=m∧∀v,v∈tb.getD j []→okV v∧a5f (tyOf cs j) v=true
theorem g2y{n:Nat}{b:List Int}{a la m:Int}{cs:List Co}(hb:a1h b)(hl:b.length<100000)(ha:0≤a∧a≤b.length)(hc:1≤cs.length∧cs.length≤4)(hco:coOK cs)(hm:0≤m∧m≤50)(hn:100≤n) :
  Gets (a7v n ((b,a,()),(cs,la,()),m,())) fun y=>∃tb a,y=((tb,()),((b,a,()),()))∧f3x cs m.toNat tb∧0≤a∧a≤b.length:=by
 unfold a7v;dsimp only;refine Gets.bind (g5e hb hl ha hc.2 hco hm hn) ?_;rintro _ ⟨rs,a,rfl,⟨hr1,hr2⟩,ha2⟩;dsimp only;refine Gets.bind (d0t (w:=cs.length) (by omega) (fun r h=>(hr2 r h).1) (by omega) hn) ?_;rintro _ ⟨tb,rfl,h1,h2⟩;refine Gets.some ⟨_,_,rfl,⟨h1,fun j hj=>⟨by rw[h2 j hj,Bb];omega,fun v hv=>?_⟩⟩,ha2⟩;rw[h2 j hj] at hv;obtain⟨r,hr,rfl⟩:=Bu.1 hv;exact(hr2 r hr).2 j hj
theorem e4x{n m:Nat}{tb:List (List Vl)}(h0:1≤tb.length)(hl:tb.length≤10)(h:∀j,j<tb.length→(tb.getD j []).length=m)(hm:m≤50)(hn:100≤n):b3w n (tb,())=some (((m:Int),()),()):=by
 unfold b3w;dsimp only;refine a0i (st:=fun i=>(if i=0 then(0:Int) else(m:Int),(i:Int))) tb.length rfl ?_ ?_ (by omega)
 ·intro rec i hi;have hh:=h i hi;dsimp only;rw[if_pos (by simp <;> omega),Ac,hh,a0b (by omega),if_neg (show ¬(i+1=0) by omega)];by_cases hi0:i=0
  ·subst hi0;rw[if_pos (by simp),a0a hi]
  ·rw[if_neg (by simp <;> omega),a0a hi,if_neg hi0,if_neg (by simp)]
 ·intro rec;dsimp only;rw[if_neg (by simp),if_neg (by omega)]
theorem e0q{n m at' i k:Nat}{tb:List (List Vl)}(ha:at'<tb.length)(hc:tb.length<100)(h:(tb.getD at' []).length=m)(hi:i<m)(hk:k<m)(hm:m≤50)(hn:100≤n) :
  b2o n (tb,[((at':Int),false,())],(i:Int),(k:Int),())=some ((decide (cmpG ((tb.getD at' []).getD i a2e) ((tb.getD at' []).getD k a2e)<0),()),()):=by
 obtain⟨n,rfl⟩:∃n',n=n'+2:=⟨n - 2,by omega⟩
 unfold b2o;dsimp only;have hl1:[((at':Int),false,())].length=1:=rfl;rw[hl1];unfold a0h;have hg:[((at':Int),false,())].getD (0:Int).toNat ((0:Int),false,())=((at':Int),false,()):=rfl;rw[if_pos (by decide),a0s (by decide) (by decide),hg];dsimp only;rw[if_neg (by simp),a0s (by decide) (by decide),if_neg (by simp <;> omega),a0s (by decide) (by decide),a0a ha,Ac,a0a (by omega),a0s (by decide) (by decide),a0a ha,a0a (by omega),a8k];simp only[Ab,Ac];rw[a0s (by decide) (by decide),if_neg DS];change (if(!decide (cmpG ((tb.getD at' []).getD i a2e) ((tb.getD at' []).getD k a2e)=0))=true then some ((decide (cmpG ((tb.getD at' []).getD i a2e) ((tb.getD at' []).getD k a2e)<0),()),()) else _)=_;by_cases hz:cmpG ((tb.getD at' []).getD i a2e) ((tb.getD at' []).getD k a2e)=0
 ·rw[if_neg (by rw[decide_eq_true hz];decide),hz];unfold a0h;rw[if_neg (by decide)];rfl
 ·rw[if_pos (by rw[decide_eq_false hz];rfl)]
def upC(f:Int→Vl)(o:List Int):Prop:=∀j,j+1<o.length→0≤cmpG (f (o.getD (j+1) 0)) (f (o.getD j 0))
theorem g5f{f:Int→Vl}{o:List Int}(h:upC f o){k:Nat}(hk:k≤o.length)(i:Int)(h1:k=0∨0≤cmpG (f i) (f (o.getD (k - 1) 0)))(h2:k=o.length∨0≤cmpG (f (o.getD k 0)) (f i)):upC f ((o.take k++[i])++o.drop k):=by
 have hlt:(o.take k).length=k:=by simp <;> omega
 have g1:∀j,j<k→((o.take k++[i])++o.drop k).getD j 0=o.getD j 0:=fun j hj=>by
  simp only[AJ];rw[Dl (by simp <;> omega),Dl (by omega),List.getElem?_take,if_pos hj]
 have g2:((o.take k++[i])++o.drop k).getD k 0=i:=by
  simp only[AJ];rw[Dl (by simp <;> omega),De (by omega),hlt];simp
 have g3:∀j,k<j→((o.take k++[i])++o.drop k).getD j 0=o.getD (j - 1) 0:=fun j hj=>by
  simp only[AJ];rw[De (by simp <;> omega),List.getElem?_drop];congr 2;simp <;> omega
 intro j hj;have hl:((o.take k++[i])++o.drop k).length=o.length+1:=by simp <;> omega
 rw[hl] at hj;by_cases c1:j+1<k
 ·rw[g1 _ c1,g1 j (by omega)];exact h j (by omega)
 by_cases c2:j+1=k
 ·rw[c2,g2,g1 j (by omega)];rcases h1 with h1|h1
  ·omega
  ·rw[show k - 1=j by omega] at h1;exact h1
 by_cases c3:j=k
 ·subst c3;rw[g2,g3 (j+1) (by omega),show j+1 - 1=j by omega];rcases h2 with h2|h2
  ·omega
  ·exact h2
 ·rw[g3 (j+1) (by omega),g3 j (by omega),show j+1 - 1=(j - 1)+1 by omega];exact h (j - 1) (by omega)
theorem d6b{n m at':Nat}{tb:List (List Vl)}(ha:at'<tb.length)(hc:tb.length≤10)(h:∀j,j<tb.length→(tb.getD j []).length=m)(hm:m≤50)(hn:200≤n) :
  Gets (b4d n (tb,[((at':Int),false,())],())) fun y=>∃o:List Int,y=((o,()),())∧o.length=m∧(∀x,x∈o→0≤x∧x<m)∧upC (fun x=>(tb.getD at' []).getD x.toNat a2e) o:=by
 have hro:=a0p;unfold b4d;refine Gets.iter (I:=fun s=>∃(o:List Int) (i:Nat),s=(o,(i:Int))∧i≤m∧o.length=i∧(∀x,x∈o→0≤x∧x<i)∧upC (fun x=>(tb.getD at' []).getD x.toNat a2e) o)
  (μ:=fun s=>m - s.2.toNat) ⟨_,0,rfl,by omega,rfl,by simp,fun j hj=>by simp at hj⟩ (by simp <;> omega) ?_
 rintro rec _ ⟨o,i,rfl,h1,h2,h3,h4⟩ hrec;dsimp only;rw[e4x (by omega) hc h hm (by omega)];simp only[Ab];by_cases hi:i<m
 rotate_left
 ·rw[if_neg (by simp <;> omega)];obtain rfl:i=m:=by omega
  exact Gets.some ⟨_,rfl,h2,h3,h4⟩
 rw[if_pos (by simp <;> omega)];refine Gets.join (I:=fun s=>∃k:Nat,s=(k:Int)∧k≤o.length∧(k=0∨0≤cmpG ((tb.getD at' []).getD i a2e) ((tb.getD at' []).getD (o.getD (k - 1) 0).toNat a2e))∧(k=o.length∨cmpG ((tb.getD at' []).getD i a2e) ((tb.getD at' []).getD (o.getD k 0).toNat a2e)<0)) ?_ ?_
 ·rintro _ ⟨k,rfl,hk,k1,k2⟩;have e1:((o.take (k:Int).toNat).drop (0:Int).toNat)=o.take k:=by simp
  have e2:((o.take (o.length:Int).toNat).drop (k:Int).toNat)=o.drop k:=by simp
  rw[e1,e2,if_pos (by omega),if_pos (by simp <;> omega),if_pos (by simp <;> omega),if_pos (by omega),if_pos (by simp <;> omega),a0b (by omega),List.nil_append];refine hrec _ ⟨_,i+1,rfl,by omega,by simp <;> omega,?_,?_⟩ (by simp <;> omega)
  ·intro x hx;simp only[Ao,B9] at hx;rcases hx with(hx|rfl)|hx
   ·have:=h3 x (Bk hx);omega
   ·omega
   ·have:=h3 x (Bf hx);omega
  ·refine g5f h4 hk _ ?_ ?_
   ·rcases k1 with k1|k1
    ·exact .inl k1
    ·exact .inr (by simpa using k1)
   ·rcases k2 with k2|k2
    ·exact .inl k2
    ·refine .inr ?_;have:=e2i ((tb.getD at' []).getD i a2e) ((tb.getD at' []).getD (o.getD k 0).toNat a2e);simp only[Ac];omega
 ·intro J hJ;refine Gets.iter (I:=fun s=>∃k:Nat,s=(k:Int)∧k≤o.length∧(k=o.length∨cmpG ((tb.getD at' []).getD i a2e) ((tb.getD at' []).getD (o.getD k 0).toNat a2e)<0))
   (μ:=fun s=>s.toNat) ⟨o.length,rfl,by omega,.inl rfl⟩ (by simp <;> omega) ?_
  rintro rec2 _ ⟨k,rfl,hk,k2⟩ hrec2;by_cases hk0:k=0
  ·subst hk0;rw[if_neg (by simp)];exact hJ _ ⟨0,rfl,by omega,.inl rfl,k2⟩
  ·rw[if_pos (by simp <;> omega),a0d (by omega) (by omega)];have hko:k - 1<o.length:=by omega
   have hx:=h3 _ (Aj hko);rw[←a0c hko (d:=(0:Int))] at hx;obtain⟨x,hxx⟩:∃x:Nat,o.getD (k - 1) 0=(x:Int):=⟨(o.getD (k - 1) 0).toNat,by omega⟩
   have hkk:((k:Int) - 1).toNat=k - 1:=by omega
   refine Gets.atI (by omega) (by omega) ?_;rw[hkk,hxx,e0q ha (by omega) (h _ ha) hi (by omega) hm (by omega)];simp only[Ab];by_cases hb:cmpG ((tb.getD at' []).getD i a2e) ((tb.getD at' []).getD x a2e)<0
   ·rw[if_pos (by simpa using hb)];exact hrec2 _ ⟨k - 1,by omega,by omega,.inr (by rw[hxx];simpa using hb)⟩ (by simp <;> omega)
   ·rw[if_neg (by simpa using hb)];exact hJ _ ⟨k,rfl,hk,.inr (by rw[hxx];simp only[Ac];omega),k2⟩
theorem d8y{n m:Nat}{tb:List (List Vl)}{o:List Int}(hc:tb.length≤10)(h:∀j,j<tb.length→(tb.getD j []).length=m)(hm:m≤50)(hol:o.length≤50)(ho:∀x,x∈o→0≤x∧x<m)(hn:200≤n) :
  Gets (b6f n (tb,o,())) fun y=>∃cs:List (List Vl),y=((cs,()),())∧cs.length=tb.length∧∀j,j<tb.length→cs.getD j []=o.map (fun x=>(tb.getD j []).getD x.toNat a2e):=by
 have hro:=a0p;unfold b6f;dsimp only;rw[if_pos (by omega),Ac];refine Gets.iter (I:=fun s=>∃(cs:List (List Vl)) (i:Nat),s=(cs,(i:Int))∧i≤tb.length∧cs.length=tb.length∧∀j,j<tb.length→cs.getD j []=if j<i then o.map (fun x=>(tb.getD j []).getD x.toNat a2e) else[])
  (μ:=fun s=>tb.length - s.2.toNat) ⟨_,0,rfl,by omega,by simp,fun j hj=>by rw[c4b];simp⟩ (by simp <;> omega) ?_
 rintro rec _ ⟨cs,i,rfl,h1,h2,h3⟩ hrec;dsimp only;by_cases hi:i<tb.length
 ·rw[if_pos (by simp <;> omega)];refine Gets.iter (I:=fun s=>∃(cs:List (List Vl)) (k:Nat),s=(cs,(k:Int))∧k≤o.length∧cs.length=tb.length∧∀j,j<tb.length→cs.getD j []=if j<i then o.map (fun x=>(tb.getD j []).getD x.toNat a2e) else if j=i then(o.take k).map (fun x=>(tb.getD j []).getD x.toNat a2e) else[])
   (μ:=fun s=>o.length - s.2.toNat) ⟨_,0,rfl,by omega,h2,fun j hj=>by rw[h3 j hj];by_cases c:j<i <;> simp[c]⟩ (by simp <;> omega) ?_
  rintro rec2 _ ⟨cs,k,rfl,g1,g2,g3⟩ hrec2;dsimp only;by_cases hk:k<o.length
  ·have hx:=ho _ (Aj hk);have hck:=g3 i hi;rw[if_neg (by omega),if_pos rfl] at hck;have hcl:(cs.getD i []).length≤50:=by rw[hck,Bb,AC];omega
   have hti:=h i hi;rw[if_pos (by simp <;> omega),a0a hk,Ac,a0c hk,if_pos (by simpa using hx.1),a0a hk,a0a hi,Ac,if_pos (by rw[decide_eq_true_eq];omega),a0a (by omega),a0a hi,a0a hk,a0s hx.1 (by omega),if_pos (by simp only[AZ];omega),a0a (by omega),if_pos rfl,a0b (by omega)];refine hrec2 _ ⟨_,k+1,rfl,by omega,by rw[CB];exact g2,?_⟩ (by simp <;> omega);intro j hj;rw[c2j _ _ _ _ _ (by omega)];by_cases hkj:i=j
   ·subst hkj;rw[if_pos rfl,if_neg (by omega),if_pos rfl,hck,Am hk,EN];rfl
   ·rw[if_neg hkj,g3 j hj];by_cases c:j<i
    ·rw[if_pos c,if_pos c]
    ·rw[if_neg c,if_neg c,if_neg (by omega),if_neg (by omega)]
  ·rw[if_neg (by simp <;> omega),a0b (by omega)];refine hrec _ ⟨_,i+1,rfl,by omega,g2,fun j hj=>?_⟩ (by simp <;> omega);rw[g3 j hj];obtain rfl:k=o.length:=by omega
   rw[Aq];by_cases c:j<i
   ·rw[if_pos c,if_pos (by omega)]
   ·rw[if_neg c];by_cases c2:j=i
    ·rw[if_pos c2,if_pos (by omega)]
    ·rw[if_neg c2,if_neg (by omega)]
 ·rw[if_neg (by simp <;> omega)];refine Gets.some ⟨_,rfl,h2,fun j hj=>?_⟩;rw[h3 j hj,if_pos (by omega)]
end Go.Rb.R5

namespace Go.Rb.R5
open Go.Rb
theorem e9o{f:Int→Vl}{o:List Int}(h:upC f o):a9s (o.map f)=true:=by
 unfold a9s;rw[AK];intro j hj;have hj':j+1<o.length:=by
  have:=Bz.1 hj;rw[Bb] at this;omega
 have e1:(o.map f).getD (j+1) a2e=f (o.getD (j+1) 0):=by
  rw[a0c (by rw[Bb];exact hj'),a0c hj',Bj]
 have e2:(o.map f).getD j a2e=f (o.getD j 0):=by
  rw[a0c (by rw[Bb];omega),a0c (by omega),Bj]
 rw[e1,e2,decide_eq_true (h j hj')]
theorem g0u{cs:List Co}{m:Nat}{tb tc:List (List Vl)}{o:List Int}(h:f3x cs m tb)(ho:o.length=m)(hx:∀x,x∈o→0≤x∧x<m)(h1:tc.length=tb.length)(h2:∀j,j<tb.length→tc.getD j []=o.map (fun x=>(tb.getD j []).getD x.toNat a2e)):f3x cs m tc:=by
 refine⟨h1.trans h.1,fun j hj=>?_⟩;have hjt:j<tb.length:=by rw[h.1];exact hj
 rw[h2 j hjt];refine⟨by rw[Bb];exact ho,fun v hv=>?_⟩;obtain⟨x,hxo,rfl⟩:=Bu.1 hv;have hxx:=hx x hxo;obtain⟨g1,g2⟩:=h.2 j hj;have hlt:x.toNat<(tb.getD j []).length:=by omega
 refine g2 _ ?_;rw[a0c hlt];exact Aj _
theorem f9f{v p sb:Int}{types enc:List Int}{cs:List Co}{m:Nat}{tb:List (List Vl)}(hv:0≤v∧v≤200)(hp:0≤p∧p<4)(hc:1≤cs.length∧cs.length≤4)(hco:coOK cs)(ht:types=(AA cs.length).map (tyOf cs))(he:enc.length=cs.length∧∀e,e∈enc→1≤e∧e≤5)
  (hm:1≤m∧m≤16) (hT:f3x cs m tb) (hsb:0≤sb∧sb≤cs.length) (hso:sb=0∨a9s (tb.getD (sb - 1).toNat [])=true) :
  d1v v p sb types enc tb=some (mkSg v p sb types enc tb)∧a5j (mkSg v p sb types enc tb)=true:=by
 have htl:types.length=cs.length:=by rw[ht];simp
 have hty:∀i,i<cs.length→types.getD i 0=tyOf cs i:=fun i hi=>by
  rw[a0c (by omega)];simp[ht]
 have htr:∀i,i<cs.length→1≤tyOf cs i∧tyOf cs i≤4:=fun i hi=>by
  have:=hco _ (Aj hi);unfold tyOf;rw[a0c hi];exact this
 have her:∀i,i<cs.length→1≤enc.getD i 0∧enc.getD i 0≤5:=fun i hi=>by
  have hi':i<enc.length:=by omega
  rw[a0c hi'];exact he.2 _ (Aj hi')
 have hus:∀i,i<cs.length→∃u,b1o (enc.getD i 0) (types.getD i 0)=some u:=fun i hi=>by
  rw[hty i hi];have a:=htr i hi;have b:=her i hi;unfold b1o;rw[if_pos (by omega)];exact⟨_,rfl⟩
 have hall:(AA tb.length).all (isAt types enc)=true:=by
  rw[AK];intro i hi;have hi:=Bz.1 hi;rw[hT.1] at hi;obtain⟨u,hu⟩:=hus i hi;unfold isAt;rw[hu];rfl
 have hrow:a9q tb=m:=(hT.2 0 (by omega)).1;have hmay:a5j (mkSg v p sb types enc tb)=true:=by
  unfold a5j;have hA:b8g (mkSg v p sb types enc tb):=by
   have hlen:=hT.1;unfold b8g mkSg;dsimp only;rw[hrow];simp only[Bb,Dt,true_and];exact⟨by omega,by omega,by omega,by omega,by omega,by omega,by omega,by omega,by omega,by omega,by omega⟩
  rw[decide_eq_true hA,Bd,Af];constructor
  ·rw[AK];intro i hi;have hi':i<tb.length:=Bz.1 hi;have hic:i<cs.length:=by rw[←hT.1];exact hi'
   obtain⟨u,hu⟩:=hus i hic;obtain⟨hl,hf⟩:=hT.2 i hic;unfold c4m mkSg e7q;dsimp only;have e1:((AA tb.length).map (uAt types enc)).getD i 0=u:=by
    rw[a0c (by simpa using hi'),Bj,BT];unfold uAt;rw[hu];rfl
   have e2:(tb.map a6p).getD i c0e=a6p (tb.getD i []):=by
    rw[a0c (by simpa using hi'),Bj,a0c hi']
   rw[e1,e2,(a8f hu).2.2.2.2.2,hl,hrow,hty i hic,decide_eq_true rfl,decide_eq_true rfl,f7n.2 rfl,Bd,Bd,Bd,AK];exact fun x hx=>(hf x hx).2
  ·show(decide (sb=0)||a9s (tb.getD (sb - 1).toNat []))=true;rcases hso with h|h
   ·rw[decide_eq_true h,FD]
   ·rw[h,Bool.or_true]
 refine⟨?_,hmay⟩;unfold d1v;rw[if_pos ⟨by rw[htl,hT.1],by rw[he.1,hT.1],hall,hmay⟩]
theorem g2n{cs:List Co}{m:Nat}{tb:List (List Vl)}(h:f3x cs m tb):∀l,l∈tb→l.length=m∧∀v,v∈l→okV v:=by
 intro l hl;obtain⟨j,hj,rfl⟩:=List.getElem_of_mem hl;obtain⟨a,b⟩:=h.2 j (by rw[←h.1];exact hj);rw[a0c hj] at a b;exact⟨a,fun v hv=>(b v hv).1⟩
def h2d(m:Sg):Prop:=a5j m=true∧∀l,l∈m.2.2.2.2.2.2.1→l.length≤16∧∀v,v∈l→okV v
theorem d4o{n:Nat}{b:List Int}{v p a:Int}(hb:a1h b)(hl:b.length<100000)(hv:0≤v∧v≤255)(hp:0≤p∧p≤255)(ha:0≤a∧a≤255)(hn:100001≤n) :
  Gets (b0d n (b,v,p,a,())) fun y=>∃m:Sg,y=((m,true,()),())∧h2d m:=by
 have hro:=a0p;unfold b0d c5m;simp only[Ab];refine Gets.bind (g0e hb hl (by omega) (by omega)) ?_;rintro _ ⟨cs,la,ly,a2,rfl,⟨hc1,hc2,hco⟩,hly,ha2⟩;dsimp only;refine Gets.bind (c0o hb hl ha2 (by omega)) ?_;rintro _ ⟨w,a3,rfl,hw,ha3⟩;dsimp only;rw[a0d (x:=1+w) (by omega) (by omega)];refine Gets.bind (g2y hb hl ha3 ⟨by omega,hc2⟩ hco (by omega) (by omega)) ?_;rintro _ ⟨tb,a4,rfl,hT,ha4⟩;dsimp only;have hm:(1+w).toNat=w.toNat+1:=by omega
 rw[hm] at hT;rw[a0d (x:=(cs.length:Int)+1) (by omega) (by omega),if_neg (by omega),a0d (x:=a) (by omega) (by omega)];have hsb0:0≤a.tmod ((cs.length:Int)+1):=Dc _ ha.1;have hsb1:a.tmod ((cs.length:Int)+1)<(cs.length:Int)+1:=Dh _ (by omega);generalize a.tmod ((cs.length:Int)+1)=sb at hsb0 hsb1;refine Gets.join (I:=fun s=>∃tb:List (List Vl),s=tb∧f3x cs (w.toNat+1) tb∧(sb=0∨a9s (tb.getD (sb - 1).toNat [])=true)) ?_ ?_
 ·rintro tb ⟨_,rfl,hT,hso⟩;refine Gets.iter (I:=fun s=>∃i:Nat,s=((AA i).map (tyOf cs),(i:Int))∧i≤cs.length) (μ:=fun s=>cs.length - s.2.toNat) ⟨0,rfl,by omega⟩ (by simp <;> omega) ?_;rintro rec _ ⟨i,rfl,hi⟩ hrec;dsimp only;by_cases hic:i<cs.length
  ·rw[if_pos (by simp <;> omega),a0a hic,if_pos (by simp <;> omega),a0b (by omega)];exact hrec _ ⟨i+1,by rw[a5w];rfl,by omega⟩ (by simp <;> omega)
  rw[if_neg (by simp <;> omega)];obtain rfl:i=cs.length:=by omega
  have t1:0≤v.tmod 201:=Dc _ hv.1;have t2:v.tmod 201<201:=Dh _ (by omega);have t3:0≤p.tmod 4:=Dc _ hp.1;have t4:p.tmod 4<4:=Dh _ (by omega);rw[a0d (x:=v.tmod 201) (by omega) (by omega),a0d (x:=p.tmod 4) (by omega) (by omega)];have hvals:=g2n hT;obtain⟨e1,e2⟩:=f9f (v:=v.tmod 201) (p:=p.tmod 4) (sb:=sb) (types:=(AA cs.length).map (tyOf cs)) (enc:=ly.2.2.2.1) (m:=w.toNat+1) (tb:=tb) ⟨t1,by omega⟩ ⟨t3,t4⟩ ⟨by omega,hc2⟩ hco rfl hly (by omega) hT ⟨hsb0,by omega⟩ hso;rw[d3g (by simp <;> omega) (by rw[hT.1];omega) (fun l h=>by have:=(hvals l h).1;omega) hn,e1];simp only[Ab];exact Gets.some ⟨_,rfl,e2,fun l h=>⟨by have:=(hvals l h).1;omega,(hvals l h).2⟩⟩
 ·intro J hJ;refine Gets.dec (fun h=>?_) fun h=>hJ _ ⟨_,rfl,hT,.inl (by omega)⟩
  have hlen:∀j,j<tb.length→(tb.getD j []).length=w.toNat+1:=fun j hj=>(hT.2 j (by rw[←hT.1];exact hj)).1
  have hat:(sb - 1).toNat<tb.length:=by rw[hT.1];omega
  rw[a0d (x:=sb - 1) (by omega) (by omega),show sb - 1=((sb - 1).toNat:Int) by omega];refine Gets.bind (d6b hat (by rw[hT.1];omega) hlen (by omega) (by omega)) ?_;rintro _ ⟨o,rfl,ho1,ho2,ho3⟩;dsimp only;refine Gets.bind (d8y (by rw[hT.1];omega) hlen (by omega) (by omega) ho2 (by omega)) ?_;rintro _ ⟨tc,rfl,hp1,hp2⟩;refine hJ _ ⟨tc,rfl,g0u hT ho1 ho2 hp1 hp2,.inr ?_⟩;rw[hp2 _ hat];exact e9o ho3
end Go.Rb.R5

namespace Go.Rb.R5
open Go.Rb
theorem f5t(k:Nat):∀x,x∈twoB k→0≤x∧x≤255:=by
 intro x hx;unfold twoB at hx;simp only[Az,C6,or_false] at hx;rcases hx with rfl|rfl <;> omega
theorem g9v{t e:Int}{z:Zn}{l:List Vl}(h:ColFine t e z l):∀x,x∈crB t e z l→0≤x∧x≤255:=by
 obtain⟨u1,u2,u3,u4,u5,u6⟩:=a8f h.used;intro x hx;unfold crB at hx;simp only[Az,Ao] at hx;rcases hx with rfl|hx|hx|hx
 ·omega
 ·exact g1q h.zmay x hx
 ·exact f5t _ x hx
 ·exact g5u ⟨u4,u5⟩ ⟨u2,u3⟩ h.fits h.ok x hx
theorem d2k{s:Sg}(h:a5j s=true)(hv:∀l,l∈s.2.2.2.2.2.2.1→∀v,v∈l→okV v):a1h (segB s)∧9≤(segB s).length∧(segB s).length<200000:=by
 obtain⟨hA,hC⟩:=d1b h hv;have hA':=hA;obtain⟨a1,a2,a3,a4,a5,a6,a7,a8,a9,a10,a11,a12,a13⟩:=hA;refine⟨?_,?_,?_⟩
 ·intro x hx;unfold segB at hx;rcases Ao.1 hx with hx|hx
  ·unfold b8z at hx;simp only[Az,Ao,C6,or_false] at hx;rcases hx with rfl|rfl|hx|rfl|rfl|rfl|rfl
   ·omega
   ·omega
   ·exact f5t _ x hx
   ·omega
   ·omega
   ·omega
   ·omega
  ·unfold b3p at hx;obtain⟨i,hi,hx⟩:=List.mem_flatMap.1 hx;exact g9v (hC i (Bz.1 hi)) x hx
 ·unfold segB;rw[Ap,c1n];obtain⟨k,hk⟩:∃k,s.2.2.2.2.2.2.1.length=k+1:=⟨s.2.2.2.2.2.2.1.length - 1,by omega⟩
  rw[hk,c3k,Ap];unfold crAt crB;rw[A6];omega
 ·have:=c1u hC _ (Nat.le_refl _);unfold segB;rw[Ap,c1n];omega
theorem d8x{s:Sg}(h:a5j s=true):b8g s:=by
 unfold a5j at h;rw[Af,decide_eq_true_eq] at h;exact h.1
end Go.Rb.R5
