/- Plain law: a column by a list of its values, read back by the document. Own work. -/
import Derived.Test.YthkgkalebkbndaaGreatDoorLawE
import Derived.Test.YthkgkalebkbndaaGreatDoorLawF
set_option autoImplicit false
set_option linter.unusedVariables false
set_option linter.unusedSimpArgs false
open Bool renaming and_eq_true->Af
open Function renaming comp_apply->D1
open Go.IntKind renaming bits->BC,i64->Aa,signed->Bs,u64->Ae,wrap->BB
open Int renaming mul_assoc->FF,pow_pos->EY,tdiv_eq_ediv_of_nonneg->Fa,tmod_eq_emod_of_nonneg->Fb,toNat_natCast->Ac,toNat_of_nonneg->A2,toNat_zero->Fc
open List renaming all_eq_true->AK,append_assoc->Al,cons_append->AT,countP_append->Gc,countP_le_length->Cs,countP_singleton->FA,drop_drop->Cb,drop_eq_getElem_cons->A7,drop_left'->EU,flatMap_cons->Du,getElem_mem->Aj,getElem_of_mem->B2,length->BS,length_append->Ap,length_cons->A6,length_drop->AM,length_map->Bb,length_nil->D9,length_replicate->Cq,length_set->CB,length_singleton->AZ,length_take->AC,map_congr_left->C8,map_map->Cv,mem_append->Ao,mem_cons->Az,mem_cons_of_mem->Ar,mem_map->Bu,mem_of_mem_drop->Bf,mem_of_mem_take->Bk,mem_singleton->B9,not_mem_nil->C6,replicate->Ag,replicate_succ->Cf,replicate_succ'->FL,set_append_right->F9,take_left'->DK,take_length->Aq,take_of_length_le->AN,take_succ_eq_append_getElem->Am
open Nat renaming add_comm->D0,sub_self->CV
open Option renaming bind_some->Ab
open Option.some renaming inj->Ai,injEq->Ad
open Prod.mk renaming injEq->Ak
namespace Go.Rb.R5
open Go.Rb
theorem c8d{n:Nat}{t:Int}{l:List Vl}(hv:∀v,v∈l→okV v)(hr:a1i t l=true)(hl:l.length≤1000)(hn:70000≤n) :
  a6k n (t,(l.length:Int),b7v t l,())=some ((l,true,()),()):=by
 have hro:=a0p;obtain⟨ht1,ht4,hrr⟩:=a2m hr;have hb:=d9v hr hv;have hbl:=d4t hr hv hl;have hdl:=c3u (ltV t) l;have hR:=b4p hr hv;have hsm:=a9w hr;have hplt:=c7c hr;have hback:=b9s hr;obtain⟨b,hbd⟩:∃b,b7v t l=b:=⟨_,rfl⟩
 rw[hbd] at hb hbl ⊢;have hbd':=hbd;unfold b7v at hbd';obtain⟨D,hD⟩:∃D,a9a t l=D:=⟨_,rfl⟩
 rw[hD] at hbd' hR hsm hplt hback;have hDl:D.length≤l.length:=by rw[←hD];exact hdl
 have htk:a3i b=some (D.length,(putN D.length).length):=by rw[←hbd'];exact a5b _ _ (by omega)
 have hdrop:b.drop (putN D.length).length=D.flatMap oneV++a7i (a1w t l) (blen (D.length - 1)):=by rw[←hbd'];simp
 have hb10:blen (D.length - 1)≤10:=b8j (by omega);have hmul:l.length*blen (D.length - 1)≤1000*10:=Nat.mul_le_mul hl hb10;have hkl:=(a2g hb htk).2.1;have hfl:=a1t hR;have hbits:a1h (a7i (a1w t l) (blen (D.length - 1))):=b8c (b6y _ _);unfold a6k;dsimp only;rw[a5v hb (by omega) (by omega),htk];simp only[Ab];rw[if_neg (by simp),a2f (by omega),if_neg (by simp;omega),if_pos (by omega)];refine a0i (st:=fun i=>((D.drop i).flatMap oneV++a7i (a1w t l) (blen (D.length - 1)),D.take i,(i:Int))) D.length ?_ ?_ ?_ (by omega)
 ·simp only[Ac,Aq,hdrop];simp
 ·intro rec i hi;have hsub:∀v,v∈D.drop i→a0j t v=true∧okV v:=fun v hm=>hR v (Bf hm)
  have hfl2:=a1t hsub;have hrest:a1h ((D.drop i).flatMap oneV++a7i (a1w t l) (blen (D.length - 1))):=by
   intro x hx;rcases Ao.1 hx with hx|hx
   ·exact b2q hsub x hx
   ·exact hbits x hx
  have hlen:((D.drop i).flatMap oneV++a7i (a1w t l) (blen (D.length - 1))).length<1000000:=by
   simp only[Ap,a4b,a2c];simp only[AM] at hfl2;omega
  have hdi:D.drop i=D[i]::D.drop (i+1):=A7 hi;have hRi:=hR _ (Aj hi);have hmay:mayV D[i]=true:=by
   have:=hRi.1;unfold a0j at this;simp only[Af] at this;exact this.2
  have hfst:=b1t hRi.1 hRi.2 ((D.drop (i+1)).flatMap oneV++a7i (a1w t l) (blen (D.length - 1)));obtain⟨y,hy1,hy2⟩:=a9p (n:=n) (t:=t) ⟨ht1,ht4⟩ hrest hlen (by omega);dsimp only;rw[if_pos (by simp;omega),hy1];rw[hdi] at hy2 hlen ⊢;rw[Du,Al] at hy2 hlen ⊢;unfold OneP at hy2;rw[hfst] at hy2;subst hy2;simp only[Ab];rw[if_neg (by simp[hmay]),if_pos (by simp;omega),if_pos (by refine⟨by omega,?_⟩;simp only[Ap];omega),c6c (by omega) (by omega)];simp only[Ac,Aq,List.drop_left,Am hi];rfl
 ·intro rec;dsimp only;rw[if_neg (by simp),List.drop_length,List.flatMap_nil,List.nil_append,Aq,c8o (by omega),b6d (by omega) (by omega)];simp only[Ab];rw[b0o hbits (by rw[a4b,a2c];omega) (by omega)];simp only[Ab];have hbb:b1n (a7i (a1w t l) (blen (D.length - 1))) l.length (blen (D.length - 1))=a1w t l:=by
   have:=b5h (l:=a1w t l) (w:=blen (D.length - 1)) hsm;rwa [a2c] at this
  unfold b5s;split
  rotate_left
  ·rename_i hno;exfalso;apply hno;simp only[Ac,hbb];exact⟨by omega,by omega,by omega,by omega,by rw[a4b,a2c],trivial⟩
  simp only[Ac,hbb];rw[if_neg (by simp)];refine a0i (st:=fun i=>(((a1w t l).take i).map (fun p=>D.getD p.toNat d0),(i:Int))) (a1w t l).length (by simp) ?_ ?_ (by rw[a2c];omega)
  ·intro rec2 i hi;have hx:=hplt _ (Aj hi);have hil:i<l.length:=by rw[a2c] at hi;exact hi
   dsimp only;obtain⟨p,hp⟩:∃p:Nat,(a1w t l)[i]=(p:Int):=⟨_,(A2 hx.1).symm⟩
   have hpl:p<D.length:=by rw[hp,Ac] at hx;exact hx.2
   rw[if_pos (by simp;omega),a0a hi,Ac,a0c hi,hp,a2f (by omega),if_neg (by simp;omega),a0a hi,a0a hpl,Ac,if_pos (by simp;omega),a0b (by omega),map_take _ hi,hp,Ac]
  ·intro rec2;dsimp only;rw[if_neg (by rw[a2c];simp),Aq,hback]
end Go.Rb.R5

namespace Go.Rb.R5
open Go.Rb
def e0a(e t m:Int)(b:List Int)(y:(List Vl×Bool×Unit)×Unit):Prop :=
 (∃l,y=((l,true,()),())∧(∀v,v∈l→okV v)∧l.length≤1000∧∀l',a4n e t m b l'→l=l')∨(y=(([],false,()),())∧∀l,¬a4n e t m b l)
theorem e4e{t:Int}{v:Vl}(h:a0j t v=true):mayV v=true:=by
 unfold a0j at h;simp only[Af] at h;exact h.2
theorem d6r{n:Nat}{t m:Int}{b:List Int}(ht:1≤t∧t≤4)(hm:0≤m∧m≤1000)(hb:a1h b)(hl:b.length<1000000)(hn:70000≤n) :
  Gets (a5x n ((1:Int),t,m,b,())) (e0a 1 t m b):=by
 have hro:=a0p;have bad:(∀l,¬a4n 1 t m b l)→Gets (some ((([]:List Vl),false,()),())) (e0a 1 t m b):=fun h=>Gets.some (.inr ⟨rfl,h⟩)
 obtain⟨M,rfl⟩:∃M:Nat,m=(M:Int):=⟨_,(A2 (by omega)).symm⟩
 unfold a5x;dsimp only;rw[if_pos (by simp)];refine Gets.iter (I:=fun s:List Int×List Vl=>∃(rest:List Int) (vs:List Vl),s=(rest,vs)∧vs.length≤M∧a1h rest∧rest.length<1000000∧(∀v,v∈vs→okV v)∧∀l,a4n 1 t (M:Int) b l→vs=l.take vs.length∧rest=(l.drop vs.length).flatMap oneV)
  (μ:=fun s=>M - s.2.length) ⟨b,[],rfl,by simp,hb,hl,by simp,fun l hg=>⟨by simp,by simpa using(e6x hg).2.2.2.2.2.symm⟩⟩ (by simp <;> omega) ?_
 rintro rec _ ⟨rest,vs,rfl,g1,g2,g3,g4,g5⟩ hrec;dsimp only;by_cases h3:vs.length<M
 ·rw[if_pos (by simp <;> omega)];refine Gets.bind (a9p (n:=n) (t:=t) ht g2 g3 (by omega)) fun y hy=>?_
  have hgood:∀l,a4n 1 t (M:Int) b l→∃v r,rest=oneV v++r.flatMap oneV∧a0j t v=true∧okV v∧l.drop vs.length=v::r:=by
   intro l hg;obtain⟨_,e2⟩:=g5 l hg;obtain⟨_,_,q3,q4,q5,_⟩:=e6x hg;have hlt:vs.length<l.length:=by omega
   have e3:=A7 hlt;rw[e3,Du] at e2;exact⟨l[vs.length],_,e2,(a2m q4).2.2 _ (Aj _),q5 _ (Aj _),e3⟩
  unfold OneP at hy;cases hf:a3e t rest with
  |none =>
   rw[hf] at hy;obtain⟨v,k,rfl⟩:=hy;dsimp only;rw[if_pos (by simp)];refine bad fun l hg=>?_
   obtain⟨v,r,e1,e2,e3,_⟩:=hgood l hg;rw[e1,b1t e2 e3] at hf;cases hf
  |some q =>
   obtain⟨v,k⟩:=q;rw[hf] at hy;subst hy;obtain⟨q1,q2,q3,q4⟩:=b7k (by omega) g2 hf;dsimp only;cases hmay:mayV v with
   |false =>
    rw[if_pos (by simp)];refine bad fun l hg=>?_
    obtain⟨v',r,e1,e2,e3,_⟩:=hgood l hg;rw[e1] at hf;obtain⟨rfl,_⟩:=b7n e2 e3 hf;rw[e4e e2] at hmay;cases hmay
   |true =>
    rw[if_neg (by simp),if_pos (by simp <;> omega),if_pos (by omega)];simp only[Ac,Aq];refine hrec _ ⟨rest.drop k,vs++[v],by simp,by simp <;> omega,g2.drop _,by simp <;> omega,?_,fun l hg=>?_⟩ (by simp <;> omega)
    ·intro x hx;rcases Ao.1 hx with hx|hx
     ·exact g4 x hx
     ·simp at hx;subst hx;exact q1
    ·obtain⟨v',r,e1,e2,e3,e4⟩:=hgood l hg;obtain⟨e5,_⟩:=g5 l hg;rw[e1] at hf;obtain⟨rfl,e6⟩:=b7n e2 e3 hf;have hlt:vs.length<l.length:=by
      rcases Nat.lt_or_ge vs.length l.length with h|h
      ·exact h
      ·rw[List.drop_eq_nil_iff.2 h] at e4;cases e4
     have e7:=A7 hlt;rw[e4] at e7;obtain⟨e8,e9⟩:=List.cons.inj e7;rw[e1,e6,Ap,AZ,←e9,Am hlt,←e5,e8];exact⟨rfl,rfl⟩
 ·have hM:vs.length=M:=by omega
  rw[if_neg (by simp <;> omega)];refine Gets.some (.inl ⟨vs,rfl,g4,by omega,fun l hg=>?_⟩);have e1:=(g5 l hg).1;have q3:=(e6x hg).2.2.1;rwa [AN (by omega)] at e1
theorem d6e{n:Nat}{t m:Int}{b:List Int}(ht:1≤t∧t≤4)(hm:0≤m∧m≤1000)(hb:a1h b)(hl:b.length<1000000)(hn:70000≤n) :
  Gets (a5x n ((2:Int),t,m,b,())) (e0a 2 t m b):=by
 have hro:=a0p;have bad:(∀l,¬a4n 2 t m b l)→Gets (some ((([]:List Vl),false,()),())) (e0a 2 t m b):=fun h=>Gets.some (.inr ⟨rfl,h⟩)
 obtain⟨M,rfl⟩:∃M:Nat,m=(M:Int):=⟨_,(A2 (by omega)).symm⟩
 unfold a5x;dsimp only;rw[if_neg (by simp),if_pos (by simp)];refine Gets.iter (I:=fun s:List Int×List Vl=>∃(rest:List Int) (vs:List Vl),s=(rest,vs)∧vs.length≤M∧a1h rest∧rest.length<1000000∧(∀v,v∈vs→okV v)∧∀l,a4n 2 t (M:Int) b l→vs=l.take vs.length∧rest=rleB (l.drop vs.length))
  (μ:=fun s=>M - s.2.length) ⟨b,[],rfl,by simp,hb,hl,by simp,fun l hg=>⟨by simp,by simpa using(e2k hg).2.2.2.2.2.symm⟩⟩ (by simp <;> omega) ?_
 rintro rec _ ⟨rest,vs,rfl,g1,g2,g3,g4,g5⟩ hrec;dsimp only;by_cases h3:vs.length<M
 ·rw[if_pos (by simp <;> omega),a5v g2 g3 (by omega)];simp only[Ab];have hgood:∀l,a4n 2 t (M:Int) b l→∃v r,rest=putN (1+runN v r)++(oneV v++rleB (r.drop (runN v r)))∧a0j t v=true∧okV v∧l.drop vs.length=v::r∧vs.length+(1+runN v r)≤M:=by
   intro l hg;obtain⟨_,e2⟩:=g5 l hg;obtain⟨_,_,q3,q4,q5,_⟩:=e2k hg;have hlt:vs.length<l.length:=by omega
   have e3:=A7 hlt;rw[e3,b0v] at e2;have e4:=c8m l[vs.length] (l.drop (vs.length+1));have e5:(l.drop (vs.length+1)).length=l.length - (vs.length+1):=by simp
   exact⟨l[vs.length],_,e2,(a2m q4).2.2 _ (Aj _),q5 _ (Aj _),e3,by omega⟩
  have hsz:∀{v r},vs.length+(1+runN v r)≤M→1+runN v r<18446744073709551616:=by intro v r h;omega
  cases htk:a3i rest with
  |none =>
   dsimp only;rw[if_pos (by simp)];refine bad fun l hg=>?_
   obtain⟨v,r,e1,_,_,_,e5⟩:=hgood l hg;rw[e1,a5b _ _ (hsz e5)] at htk;cases htk
  |some q =>
   obtain⟨u,k⟩:=q;have hT:=a2g g2 htk;have hK:=b1y g2 htk;have hk1:=b6o u;dsimp only;have hw:Ae.wrap (Aa.wrap ((M:Int) - (vs.length:Int)))=((M - vs.length:Nat):Int):=by
    rw[show((M:Int) - (vs.length:Int))=((M - vs.length:Nat):Int) by omega,a0q (by omega),a2f (by omega)]
   rw[if_neg (by simp),hw];have hgood2:∀l,a4n 2 t (M:Int) b l→∃v r,u=1+runN v r∧rest.drop k=oneV v++rleB (r.drop (runN v r))∧a0j t v=true∧okV v∧l.drop vs.length=v::r∧vs.length+u≤M:=by
    intro l hg;obtain⟨v,r,e1,e2,e3,e4,e5⟩:=hgood l hg;have htk':=htk;rw[e1,a5b _ _ (hsz e5)] at htk';simp only[Ad,Ak] at htk';refine⟨v,r,htk'.1.symm,?_,e2,e3,e4,by omega⟩;rw[e1,←htk'.2];simp
   by_cases h0:u=0
   ·rw[if_pos (by simp <;> omega)];refine bad fun l hg=>?_
    obtain⟨v,r,e1,_⟩:=hgood2 l hg;omega
   rw[if_neg (by simp <;> omega)];by_cases h4:M - vs.length<u
   ·rw[if_pos (by simp <;> omega)];refine bad fun l hg=>?_
    obtain⟨v,r,_,_,_,_,_,e5⟩:=hgood2 l hg;omega
   ·rw[if_neg (by simp <;> omega),if_pos (by omega)];simp only[Ac,Aq];refine Gets.bind (a9p (n:=n) (t:=t) ht (g2.drop k) (by simp <;> omega) (by omega)) fun y hy=>?_
    unfold OneP at hy;cases hf:a3e t (rest.drop k) with
    |none =>
     rw[hf] at hy;obtain⟨v,k,rfl⟩:=hy;dsimp only;rw[if_pos (by simp)];refine bad fun l hg=>?_
     obtain⟨v,r,_,e1,e2,e3,_⟩:=hgood2 l hg;rw[e1,b1t e2 e3] at hf;cases hf
    |some q =>
     obtain⟨v,k2⟩:=q;rw[hf] at hy;subst hy;obtain⟨q1,q2,q3,q4⟩:=b7k (by omega) (g2.drop k) hf;rw[AM] at q3;dsimp only;cases hmay:mayV v with
     |false =>
      rw[if_pos (by simp)];refine bad fun l hg=>?_
      obtain⟨v',r,_,e1,e2,e3,_⟩:=hgood2 l hg;rw[e1] at hf;obtain⟨rfl,_⟩:=b7n e2 e3 hf;rw[e4e e2] at hmay;cases hmay
     |true =>
      rw[if_neg (by simp)];have hw2:Aa.wrap ((k:Int)+(k2:Int))=((k+k2:Nat):Int):=by
       rw[show((k:Int)+(k2:Int))=((k+k2:Nat):Int) by omega,a0q (by omega)]
      refine Gets.iter (I:=fun s:List Vl×Int=>∃i:Nat,i≤u∧s=(vs++Ag i v,(i:Int))) (μ:=fun s=>u - s.2.toNat) ⟨0,by omega,by simp⟩ (by simp <;> omega) ?_;rintro rec2 _ ⟨i,hi,rfl⟩ hrec2;dsimp only;by_cases h6:i<u
      ·rw[if_pos (by simp <;> omega),if_pos (by simp <;> omega)];refine hrec2 _ ⟨i+1,by omega,?_⟩ (by simp only[Ac];rw[show((i:Int)+1)=((i+1:Nat):Int) by omega,a2f (by omega)];omega);rw[show((i:Int)+1)=((i+1:Nat):Int) by omega,a2f (by omega),Al,←FL]
      ·obtain rfl:i=u:=by omega
       rw[if_neg (by simp <;> omega),hw2,if_pos (by omega)];simp only[Ac];refine hrec _ ⟨rest.drop (k+k2),vs++Ag i v,rfl,by simp <;> omega,g2.drop _,by simp <;> omega,?_,fun l hg=>?_⟩ (by simp <;> omega)
       ·intro x hx;rcases Ao.1 hx with hx|hx
        ·exact g4 x hx
        ·rw[List.eq_of_mem_replicate hx];exact q1
       ·obtain⟨v',r,e1,e2,e3,e4,e5,_⟩:=hgood2 l hg;obtain⟨e6,_⟩:=g5 l hg;rw[e2] at hf;obtain⟨rfl,e7⟩:=b7n e3 e4 hf;rw[←Cb,e2,e7];have hlen:(vs++Ag i v).length=vs.length+i:=by simp
        have e8:l.drop vs.length=Ag i v++r.drop (runN v r):=by
         rw[e5,e1,D0,Cf,AT,←b7q v r]
        have e9:l.drop (vs.length+i)=r.drop (runN v r):=by
         rw[←Cb,e8,EU (by simp)]
        rw[hlen,e9];refine⟨?_,rfl⟩;rw[List.take_add,←e6,e8,DK (by simp)]
 ·rw[if_neg (by simp <;> omega)];refine Gets.some (.inl ⟨vs,rfl,g4,by omega,fun l hg=>?_⟩);have e1:=(g5 l hg).1;have q3:=(e2k hg).2.2.1;rwa [AN (by omega)] at e1
theorem d6s{n:Nat}{t m:Int}{b:List Int}(ht:1≤t∧t≤4)(hm:0≤m∧m≤1000)(hb:a1h b)(hl:b.length<1000000)(hn:70000≤n) :
  Gets (a5x n ((5:Int),t,m,b,())) (e0a 5 t m b):=by
 have hro:=a0p;have bad:(∀l,¬a4n 5 t m b l)→Gets (some ((([]:List Vl),false,()),())) (e0a 5 t m b):=fun h=>Gets.some (.inr ⟨rfl,h⟩)
 obtain⟨M,rfl⟩:∃M:Nat,m=(M:Int):=⟨_,(A2 (by omega)).symm⟩
 unfold a5x;dsimp only;rw[if_neg (by simp),if_neg (by simp),if_neg (by simp),if_neg (by simp),if_pos (by simp)];refine Gets.iter (I:=fun s:List Int×List Vl×Int=>∃(rest:List Int) (vs:List Vl) (last:Int),s=(rest,vs,last)∧(-9223372036854775808≤last∧last≤9223372036854775807)∧vs.length≤M∧a1h rest∧rest.length<1000000∧(∀v,v∈vs→okV v) ∧
   ∀l,a4n 5 t (M:Int) b l→vs=l.take vs.length∧rest=a6a last (l.drop vs.length))
  (μ:=fun s=>M - s.2.1.length) ⟨b,[],0,rfl,by omega,by simp,hb,hl,by simp,fun l hg=>⟨by simp,by simpa using(e1g hg).2.2.2.2.2.2.symm⟩⟩ (by simp <;> omega) ?_
 rintro rec _ ⟨rest,vs,last,rfl,g0,g1,g2,g3,g4,g5⟩ hrec;dsimp only;by_cases h3:vs.length<M
 ·rw[if_pos (by simp <;> omega),a5v g2 g3 (by omega)];simp only[Ab];have hgood:∀l,a4n 5 t (M:Int) b l→∃(hlt:vs.length<l.length),rest=putN (zig (c8p last l[vs.length].2.1))++a6a l[vs.length].2.1 (l.drop (vs.length+1))∧a0j t l[vs.length]=true∧okV l[vs.length]∧t≤2:=by
   intro l hg;obtain⟨_,e2⟩:=g5 l hg;obtain⟨_,_,q3,q0,q4,q5,_⟩:=e1g hg;have hlt:vs.length<l.length:=by omega
   rw[A7 hlt] at e2;exact⟨hlt,e2,(a2m q4).2.2 _ (Aj _),q5 _ (Aj _),q0⟩
  cases htk:a3i rest with
  |none =>
   dsimp only;rw[if_pos (by simp)];refine bad fun l hg=>?_
   obtain⟨hlt,e1,_⟩:=hgood l hg;rw[e1,a5b _ _ (a8c _ _)] at htk;cases htk
  |some q =>
   obtain⟨u,k⟩:=q;have hT:=a2g g2 htk;have hK:=b1y g2 htk;dsimp only;rw[if_neg (by simp),c8q hT.1];simp only[Ab];have hz:=e6d hT.1;have hnew:=c0h (last+zag u);rw[if_pos (by omega),if_pos (by simp <;> omega)];simp only[Ac,Aq];refine hrec _ ⟨rest.drop k,vs++[(t,Aa.wrap (last+zag u),[],())],Aa.wrap (last+zag u),rfl,hnew,by simp <;> omega,g2.drop _,by simp <;> omega,?_,fun l hg=>?_⟩ (by simp <;> omega)
   ·intro x hx;rcases Ao.1 hx with hx|hx
    ·exact g4 x hx
    ·simp at hx;subst hx;exact⟨by omega,hnew,by simp,by simp⟩
   ·obtain⟨hlt,e1,e2,e3,e4⟩:=hgood l hg;obtain⟨e5,_⟩:=g5 l hg;have htk':=htk;rw[e1,a5b _ _ (a8c _ _)] at htk';simp only[Ad,Ak] at htk';have e6:Aa.wrap (last+zag u)=l[vs.length].2.1:=by
     rw[←htk'.1,b9m];exact c3r e3.2.1
    have e7:=e1b e2 (by omega);rw[e6,←e7,Ap,AZ,Am hlt,←e5];refine⟨rfl,?_⟩;rw[e1,←htk'.2];simp
 ·rw[if_neg (by simp <;> omega)];refine Gets.some (.inl ⟨vs,rfl,g4,by omega,fun l hg=>?_⟩);have e1:=(g5 l hg).1;have q3:=(e1g hg).2.2.1;rwa [AN (by omega)] at e1
theorem c7p{n:Nat}{t m:Int}{b:List Int}(ht:1≤t∧t≤4)(hm:0≤m∧m≤1000)(hb:a1h b)(hl:b.length<1000000)(hn:70000≤n) :
  Gets (b1a n (t,m,b,())) (e0a 4 t m b):=by
 have hro:=a0p;have bad:(∀l,¬a4n 4 t m b l)→Gets (some ((([]:List Vl),false,()),())) (e0a 4 t m b):=fun h=>Gets.some (.inr ⟨rfl,h⟩)
 obtain⟨M,rfl⟩:∃M:Nat,m=(M:Int):=⟨_,(A2 (by omega)).symm⟩
 unfold b1a;dsimp only;by_cases h3:M=0
 ·subst h3;have hnil:∀l,a4n 4 t (((0:Nat):Int)) b l→l=[]:=by
   intro l hg;have:=(e6u hg).2.2.1;cases l with
   |nil=>rfl
   |cons=>simp at this;omega
  rw[if_pos (by simp)];by_cases h4:(b.length:Int)=0
  ·rw[show decide ((b.length:Int)=0)=true by simpa using h4];exact Gets.some (.inl ⟨[],rfl,by simp,by simp,fun l hg=>(hnil l hg).symm⟩)
  ·rw[show decide ((b.length:Int)=0)=false by simpa using h4];refine bad fun l hg=>?_
   have:=hnil l hg;subst this;have:=(e6u hg).2.2.2.2.2.2;rw[←this] at h4;simp[c0g] at h4
 have hparts:∀l,a4n 4 t (M:Int) b l→l.length=M∧t≤3∧(∀v,v∈l→a0j t v=true∧okV v)∧a3i b=some (zig (a3p l),(putN (zig (a3p l))).length)∧(putN (zig (a3p l))).length<b.length ∧
   b.getD (putN (zig (a3p l))).length 0=((a2v (a1u l):Nat):Int)∧b.drop ((putN (zig (a3p l))).length+1)=a7i (a1u l) (a2v (a1u l)) ∧
   b5s (a7i (a1u l) (a2v (a1u l))) (M:Int) ((a2v (a1u l):Nat):Int)=(a1u l,true,()):=by
  intro l hg;obtain⟨_,_,q3,q4,q5,q6,q7⟩:=e6u hg;have hlm:l.length=M:=by omega
  have hne:l≠[]:=by rintro rfl;simp at hlm;omega
  rcases d7x hne q4 q5 q6 with h|h
  ·rw[q7,hlm] at h;exact⟨hlm,q4,a5g q5 q6,h⟩
  ·omega
 rw[if_neg (by simp <;> omega),a5v hb hl (by omega)];simp only[Ab];cases htk:a3i b with
 |none =>
  dsimp only;rw[if_pos (by simp)];refine bad fun l hg=>?_
  rw[(hparts l hg).2.2.2.1] at htk;cases htk
 |some q =>
  obtain⟨u,k⟩:=q;have hT:=a2g hb htk;dsimp only;rw[if_neg (by simp)];by_cases h4:b.length≤k
  ·rw[if_pos (by simp <;> omega)];refine bad fun l hg=>?_
   obtain⟨_,_,_,e1,e2,_⟩:=hparts l hg;rw[e1] at htk;simp only[Ad,Ak] at htk;omega
  have hk:k<b.length:=by omega
  obtain⟨c,hc1,hc2,hc3⟩:=hb.get hk;rw[if_neg (by simp <;> omega),a0b (by omega),if_pos (by omega),a0a hk];simp only[Ac,Aq];rw[hc1,a0q (by omega),b0o (hb.drop _) (by simp <;> omega) (by omega)];simp only[Ab];have hgood:∀l,a4n 4 t (M:Int) b l→u=zig (a3p l)∧b5s (b.drop (k+1)) (M:Int) (c:Int)=(a1u l,true,()):=by
   intro l hg;obtain⟨_,_,_,e1,e2,e3,e4,e5⟩:=hparts l hg;rw[e1] at htk;simp only[Ad,Ak] at htk;obtain⟨rfl,rfl⟩:=htk;rw[hc1] at e3;exact⟨rfl,by rw[e4,e3];exact e5⟩
  obtain⟨al,aok,hab⟩:∃al aok,b5s (b.drop (k+1)) (M:Int) (c:Int)=(al,aok,()):=⟨_,_,rfl⟩
  rw[hab] at hgood ⊢;have hal:aok=true→al.length=M∧Nums al:=by
   intro h;unfold b5s at hab;split at hab
   ·rename_i hcnd;simp only[Ak] at hab;rw[←hab.1];refine⟨?_,b4f (by simp <;> omega)⟩;rw[b1e];simp
   ·simp only[Ak] at hab;rw[←hab.2.1] at h;cases h
  cases aok with
  |false =>
   rw[if_pos (by simp)];refine bad fun l hg=>?_
   have:=(hgood l hg).2;simp at this
  |true =>
   obtain⟨hal1,hal2⟩:=hal rfl;rw[if_neg (by simp)];have hz:=e6d hT.1;refine Gets.iter (I:=fun s:List Vl×Int=>∃i:Nat,i≤M∧s=((al.take i).map (fun a=>(t,Aa.wrap (Ae.wrap (Ae.wrap (zag u)+a)),[],())),(i:Int))) (μ:=fun s=>M - s.2.toNat) ⟨0,by omega,by simp⟩ (by simp <;> omega) ?_;rintro rec _ ⟨i,hi,rfl⟩ hrec;dsimp only;by_cases h5:i<M
   ·have h6:i<al.length:=by omega
    rw[if_pos (by simp <;> omega),c8q hT.1];simp only[Ab,Ac];rw[a0a h6,a0c h6,if_pos (by simp <;> omega),a0b (by omega)];exact hrec _ ⟨i+1,by omega,by rw[map_take _ h6]⟩ (by simp <;> omega)
   ·obtain rfl:i=M:=by omega
    rw[if_neg (by simp <;> omega),AN (by omega)];refine Gets.some (.inl ⟨_,rfl,?_,by simp <;> omega,fun l hg=>?_⟩)
    ·intro v hv;obtain⟨a,_,rfl⟩:=Bu.1 hv;exact⟨by omega,c0h _,by simp,by simp⟩
    ·obtain⟨e1,e2⟩:=hgood l hg;simp only[Ak,and_true] at e2;obtain⟨_,q2,q3,_⟩:=hparts l hg;rw[e2,e1];unfold a1u;rw[Cv]
     conv=>rhs;rw[←List.map_id l]
     refine C8 fun v hv=>?_
     obtain⟨r1,r2⟩:=q3 v hv;simp only[D1,id,b9m];have e3:Aa.wrap (Ae.wrap (Ae.wrap (a3p l)+(v.2.1 - a3p l)))=v.2.1:=by
      have:=r2.2.1;rw[a2d,a2d,a3g];omega
     rw[e3];exact(e1b r1 (by omega)).symm
end Go.Rb.R5

namespace Go.Rb.R5
open Go.Rb
theorem e0g{n:Nat}{e t m:Int}{b:List Int}(ht:1≤t∧t≤4)(hm:0≤m∧m≤1000)(hb:a1h b)(hl:b.length<1000000)(hn:70000≤n) :
  Gets (a5x n (e,t,m,b,())) (e0a e t m b):=by
 by_cases c1:e=1
 ·subst c1;exact d6r ht hm hb hl hn
 by_cases c2:e=2
 ·subst c2;exact d6e ht hm hb hl hn
 by_cases c5:e=5
 ·subst c5;exact d6s ht hm hb hl hn
 unfold a5x;dsimp only;rw[if_neg (by simpa using c1),if_neg (by simpa using c2)];by_cases c3:e=3
 ·subst c3;rw[if_pos (by simp)];obtain⟨y,hy1,hy2⟩:=c9b (n:=n) (m:=m) ht hm hb hl hn;have only:∀l,a4n 3 t m b l→y=((l,true,()),()):=by
   intro l hg;obtain⟨g1,g2,g3,g4,g5,g6⟩:=g7r.1 hg;have h:=c8d (n:=n) g5 g4 (by omega) hn;rw[g6,g3,hy1] at h;exact Ai h
  rw[hy1];simp only[Ab];rcases hy2 with⟨l,rfl,hv,hll⟩|rfl
  ·refine Gets.some (.inl ⟨l,rfl,hv,hll,fun l' hg=>?_⟩);have h:=only l' hg;simp only[Ak] at h;exact h.1.1
  ·refine Gets.some (.inr ⟨rfl,fun l' hg=>?_⟩);have h:=only l' hg;simp at h
 rw[if_neg (by simpa using c3)];by_cases c4:e=4
 ·subst c4;rw[if_pos (by simp)];refine Gets.bind (c7p ht hm hb hl hn) ?_;rintro⟨⟨l,ok,u⟩,u2⟩ h;exact Gets.some h
 rw[if_neg (by simpa using c4),if_neg (by simpa using c5)];refine Gets.some (.inl ⟨[],rfl,by simp,by simp,fun l hg=>?_⟩);have:=hg.2.2.2.1;simp[a6w,c1,c2,c3,c4,c5] at this
theorem d4k{n:Nat}{e t m:Int}{b:List Int}(hb:a1h b)(hl:b.length<1000000)(hn:70000≤n) :
  Gets (b3v n (e,t,m,b,())) (e9f e t m b):=by
 have bad:(∀l,¬a4n e t m b l)→Gets (some ((([]:List Vl),false,()),())) (e9f e t m b):=fun h=>Gets.some (.inr ⟨rfl,h⟩)
 unfold b3v;dsimp only;by_cases h1:m<0
 ·rw[if_pos (by simpa using h1)];exact bad fun l hg=>by have:=hg.1;omega
 rw[if_neg (by simpa using h1)];by_cases h2:1000<m
 ·rw[if_pos (by simpa using h2)];exact bad fun l hg=>by have:=hg.2.1;omega
 rw[if_neg (by simpa using h2),b0r];simp only[Ab];cases hT:isT t with
 |false =>
  rw[if_pos (by simp)];refine bad fun l hg=>?_
  obtain⟨q1,q2,_⟩:=a2m hg.2.2.2.2.1;rw[d2n.2 ⟨q1,q2⟩] at hT;cases hT
 |true =>
  have ht:=d2n.1 hT;rw[if_neg (by simp)];refine Gets.bind (e0g (n:=n) (e:=e) (m:=m) ht ⟨by omega,by omega⟩ hb hl hn) fun y hy=>?_
  rcases hy with⟨l,rfl,hv,hll,only⟩|⟨rfl,hno⟩
  ·dsimp only;rw[b9e hv hll (by omega)];simp only[Ab];rw[if_neg (by simp)];by_cases hr:a6w e t=true∧a1i t l=true
   rotate_left
   ·rw[if_neg hr,if_pos (by simp)];refine bad fun l' hg=>?_
    have:=only l' hg;subst this;exact hr ⟨hg.2.2.2.1,hg.2.2.2.2.1⟩
   ·rw[if_pos hr];dsimp only;rw[if_neg (by simp)];by_cases h3:(l.length:Int)=m
    ·rw[if_neg (by simpa using h3)];by_cases h4:encB e t l=b
     ·rw[if_neg (by simpa using h4)];exact Gets.some (.inl ⟨l,rfl,by omega,by omega,h3,hr.1,hr.2,hv,h4⟩)
     ·rw[if_pos (by simpa using h4)];refine bad fun l' hg=>?_
      have:=only l' hg;subst this;exact h4 hg.2.2.2.2.2.2
    ·rw[if_pos (by simpa using h3)];refine bad fun l' hg=>?_
     have:=only l' hg;subst this;exact h3 hg.2.2.1
  ·dsimp only;rw[b9e (l:=[]) (by simp) (by simp) (by omega)];simp only[Ab];rw[if_pos (by simp)];exact bad hno
theorem d0k{n:Nat}{b:List Int}{m:Int}(hb:a1h b)(hl:b.length<1000000)(hn:70000≤n):a9j n (b,m,())=some (a9f b m,()):=by
 have hro:=a0p;unfold a9j a9f;dsimp only;rw[b0o hb hl (by omega)];simp only[Ab];have hbl:∀M:Nat,(b0y b M).map b2i=b1n b M 1:=by
  intro M;unfold b0y b1n;rw[Cv];refine C8 fun i _=>?_
  have h2:a5q (bitB b) (i*1) 1=bitB b i:=by simp[a5q]
  rw[h2];have h3:bitB b i<2:=by unfold bitB;omega
  simp only[D1,b2i];by_cases h:bitB b i=1
  ·simp[h]
  ·have:bitB b i=0:=by omega
   simp[this]
 have hbb:∀M:Nat,b3m (b0y b M)=a7i (b1n b M 1) 1:=fun M=>by unfold b3m;rw[hbl]
 by_cases hc:0≤m∧m≤1000∧b.length=(m.toNat+7) / 8∧b3m (b0y b m.toNat)=b
 ·rw[if_pos hc];obtain⟨c1,c2,c3,c4⟩:=hc;obtain⟨M,rfl⟩:∃M:Nat,m=(M:Int):=⟨_,(A2 c1).symm⟩
  rw[Ac] at c3 c4 ⊢;rw[hbb] at c4;have hT:b5s b (M:Int) 1=(b1n b M 1,true,()):=by
   unfold b5s;rw[Ac,show(1:Int).toNat=1 from rfl,if_pos ⟨by omega,by omega,by omega,by omega,by omega,c4⟩]
  rw[hT];dsimp only;rw[if_neg (by simp),if_pos (by omega)];have hlen:=b1e b M 1;refine a0i (st:=fun i=>((b0y b M).take i++Ag (M - i) false,(i:Int))) M (by simp) ?_ ?_ (by omega)
  ·intro rec i hi;have hset:((b0y b M).take i++Ag (M - i) false).set i (decide (bitB b i=1))=(b0y b M).take (i+1)++Ag (M - (i+1)) false:=by
    have hti:((b0y b M).take i).length=i:=by rw[AC,a7g];omega
    have h0:List.set ((b0y b M).take i++Ag (M - i) false) i (decide (bitB b i=1))=(b0y b M).take i++(Ag (M - i) false).set 0 (decide (bitB b i=1)):=by
     rw[F9 _ _ (by omega),hti,CV]
    rw[h0,Am (by rw[a7g];exact hi),show M - i=(M - (i+1))+1 by omega,Cf,List.set_cons_zero];simp[b0y]
   have hget:(b1n b M 1)[i]'(by omega)=((bitB b i:Nat):Int):=by
    simp[b1n,a5q]
   have hdec:decide (((bitB b i:Nat):Int)=1)=decide (bitB b i=1):=by
    by_cases h:bitB b i=1
    ·simp[h]
    ·have:¬(((bitB b i:Nat):Int)=1):=by omega
     simp only[h,this,decide_false]
   have e1:(1:Int).toNat=1:=rfl;dsimp only;rw[if_pos (by simp <;> omega),a0a (by omega),a0a (by simp only[Ap,AC,a7g,Cq];omega),a0b (by omega)];simp only[Ac];simp only[a0c (show i<(b1n b M 1).length by omega),hget];rw[hdec,hset]
  ·intro rec;dsimp only;rw[if_neg (by simp),CV,List.replicate_zero,List.append_nil,AN (by rw[a7g];omega)]
 ·have hT:b5s b m 1=([],false,()):=by
   unfold b5s;rw[if_neg];rintro⟨c1,c2,c3,c4,c5,c6⟩;refine hc ⟨by omega,by omega,?_,?_⟩
   ·have e1:(1:Int).toNat=1:=rfl;rw[e1,Nat.mul_one] at c5;exact c5
   ·rw[hbb];exact c6
  rw[if_neg hc,hT];rfl
theorem e7s:∀{bs:List Bool} {l:List Vl},(∀v,v∈l→okV v)→∀v,v∈mixV bs l→okV v
 |[],_,_,v,hv=>by simp[mixV] at hv
 |true::bs,l,h,v,hv=>by
  unfold mixV at hv;rcases Az.1 hv with rfl|hv
  ·exact e9m
  ·exact e7s h v hv
 |false::bs,l,h,v,hv=>by
  unfold mixV at hv;rcases Az.1 hv with rfl|hv
  ·cases l with
   |nil=>exact e9m
   |cons x l=>exact h _ (by simp)
  ·exact e7s (fun x hx=>h x (List.mem_of_mem_tail hx)) v hv
theorem d5g:∀(bs:List Bool) (l:List Vl) (c:Bool),mixV (bs++[c]) l=mixV bs l++[if c=true then((0:Int),(0:Int),[],()) else(l.drop (bs.countP (fun b=>!b))).headD ((0:Int),(0:Int),[],())]
 |[],l,true=>by simp[mixV]
 |[],l,false=>by simp[mixV]
 |true::bs,l,c=>by
  rw[AT];unfold mixV;rw[d5g bs l c,AT];congr 4
 |false::bs,l,c=>by
  rw[AT];unfold mixV;rw[d5g bs l.tail c,AT];have e:(false::bs).countP (fun b=>!b)=bs.countP (fun b=>!b)+1:=by rw[List.countP_cons];rfl
  rw[e,←List.drop_one,Cb,D0 1]
theorem c4v{n:Nat}{t m:Int}{b:List Int}(hb:a1h b)(hl:b.length<1000000)(hn:1000000≤n) :
  Gets (a6g n (t,m,b,())) (e8r t m b):=by
 have hro:=a0p;have bad:(∀l e,¬b1w t m b l e)→Gets (some ((([]:List Vl),(0:Int),false,()),())) (e8r t m b):=fun h=>Gets.some (.inr ⟨rfl,h⟩)
 unfold a6g;dsimp only;by_cases h1:m<0
 ·rw[if_pos (by simpa using h1)];exact bad fun l e hg=>by have:=hg.1;omega
 rw[if_neg (by simpa using h1)];by_cases h2:1000<m
 ·rw[if_pos (by simpa using h2)];exact bad fun l e hg=>by have:=hg.2.1;omega
 rw[if_neg (by simpa using h2)];obtain⟨M,rfl⟩:∃M:Nat,m=(M:Int):=⟨_,(A2 (by omega)).symm⟩
 by_cases h3:b.length<2
 ·rw[if_pos (by simp <;> omega)];exact bad fun l e hg=>by have:=(a5d hg).2.1;omega
 rw[if_neg (by simp <;> omega)];obtain⟨e,he1,he2,_⟩:=hb.get (i:=0) (by omega);obtain⟨f,hf1,hf2,_⟩:=hb.get (i:=1) (by omega);have e0:((0:Int)).toNat=0:=rfl;have e1:((1:Int)).toNat=1:=rfl;have e2:((2:Int)).toNat=2:=rfl;rw[a0s (by omega) (by omega),e1,hf1];by_cases h4:1<f
 ·rw[if_pos (by simp <;> omega)];refine bad fun l e hg=>?_
  have:=(a5d hg).2.2.1;rw[hf1] at this;split at this <;> omega
 rw[if_neg (by simp <;> omega),a0s (by omega) (by omega),if_pos (by omega),if_pos (by omega),e0,he1,a0q (x:=e) (by omega)];have hE:∀l e',b1w t (M:Int) b l e'→e'=(e:Int):=fun l e' hg=>by rw[←(a5d hg).1,he1]
 refine Gets.join (I:=fun s:List Bool×List Int=>a1h s.2∧s.2.length<1000000∧s.1.length=M∧∀l e',b1w t (M:Int) b l e'→s.1=l.map isN∧s.2=encB (e:Int) t (a3b l)) ?_ ?_
 ·rintro⟨set,rest⟩ ⟨r1,r2,r3,r4⟩;dsimp only at r1 r2 r3 r4 ⊢;have hcnt:∀k,set.countP (fun b=>b)=k→k≤M∧∀R,R=(fun x:Int=>x=((M - k:Nat):Int))→True:=fun k hk=>⟨by have:=Cs (p:=fun b:Bool=>b) (l:=set);omega,fun _ _=>trivial⟩
  refine Gets.iter (I:=fun s:Int×Int=>∃i:Nat,i≤M∧s=((((set.take i).countP (fun b=>!b):Nat):Int),(i:Int))) (μ:=fun s=>M - s.2.toNat) ⟨0,by omega,by simp⟩ (by simp <;> omega) ?_;rintro rec _ ⟨i,hi,rfl⟩ hrec;dsimp only;have hc:=Cs (p:=fun b:Bool=>!b) (l:=set.take i);have hti:(set.take i).length≤1000:=by simp <;> omega
  by_cases h5:i<M
  ·have h6:i<set.length:=by omega
   have hsuc:(set.take (i+1)).countP (fun b=>!b)=(set.take i).countP (fun b=>!b)+(if(!set[i])=true then 1 else 0):=by
    rw[Am h6,Gc,FA]
   rw[if_pos (by simp <;> omega),a0a h6];simp only[Ac,a0c h6];rw[a0b (i:=i) (by omega)];by_cases hx:(!set[i])=true
   ·rw[if_pos hx,a0b (by omega)];rw[if_pos hx] at hsuc;exact hrec _ ⟨i+1,by omega,by rw[hsuc]⟩ (by simp <;> omega)
   ·rw[if_neg hx];rw[if_neg hx] at hsuc;exact hrec _ ⟨i+1,by omega,by rw[hsuc];rfl⟩ (by simp <;> omega)
  obtain rfl:i=M:=by omega
  rw[if_neg (by simp <;> omega),AN (by omega)];obtain⟨k,hk⟩:∃k,set.countP (fun b=>!b)=k:=⟨_,rfl⟩
  rw[hk];have hE2:∀l e',b1w t (i:Int) b l e'→a4n (e:Int) t (k:Int) rest (a3b l):=by
   intro l e' hg;obtain⟨q1,q2⟩:=r4 l e' hg;have h7:=hE l e' hg;have g1:=hg.2.1;have g2:=hg.2.2.1;have g4:=hg.2.2.2.1;have g5:=hg.2.2.2.2.1;have g6:=hg.2.2.2.2.2.1;obtain⟨u1,u2,u3,_⟩:=a8f g4;have h8:(a3b l).length=k:=by
    rw[←hk,q1,List.countP_map];unfold a3b;rw[←List.countP_eq_length_filter];rfl
   have h9:=b3c l;subst h7;exact⟨by omega,by omega,by omega,u1,a8a ⟨u2,u3⟩ g5,b2p g6,q2.symm⟩
  refine Gets.bind (d4k (n:=n) (e:=(e:Int)) (t:=t) (m:=(k:Int)) r1 r2 (by omega)) fun y hy=>?_
  rcases hy with⟨sm,rfl,hsm⟩|⟨rfl,hno⟩
  rotate_left
  ·dsimp only;rw[if_pos (by simp)];exact bad fun l e' hg=>hno _ (hE2 l e' hg)
  dsimp only;rw[if_neg (by simp)];have hsl:sm.length=k:=by have:=hsm.2.2.1;omega
  have hki:k≤i:=by have:=Cs (p:=fun b:Bool=>!b) (l:=set);omega
  refine Gets.iter (I:=fun s:List Vl×List Vl×Int=>∃j:Nat,j≤i∧s=(sm.drop ((set.take j).countP (fun b=>!b)),mixV (set.take j) sm,(j:Int))) (μ:=fun s=>i - s.2.2.toNat) ⟨0,by omega,by simp[mixV]⟩ (by simp <;> omega) ?_;rintro rec2 _ ⟨j,hj,rfl⟩ hrec2;dsimp only;by_cases h7:j<i
  ·have h8:j<set.length:=by omega
   have htj:(set.take j).length=j:=by rw[AC];omega
   have hml:=d1k (set.take j) sm;have hcj:=Cs (p:=fun b:Bool=>!b) (l:=set.take j);have hsuc:(set.take (j+1)).countP (fun b=>!b)=(set.take j).countP (fun b=>!b)+(if(!set[j])=true then 1 else 0):=by
    rw[Am h8,Gc,FA]
   have hmix:=d5g (set.take j) sm set[j];rw[←Am h8] at hmix;rw[if_pos (by simp <;> omega),a0a h8];simp only[Ac,a0c h8,e1,e0];rw[a0b (by omega)];by_cases hx:(!set[j])=true
   ·rw[if_pos hx];rw[if_pos hx] at hsuc;have hlt:(set.take j).countP (fun b=>!b)<sm.length:=by
     have h9:(set.take (j+1)).countP (fun b=>!b)≤set.countP (fun b=>!b):=(List.take_sublist _ _).countP_le;omega
    have hx':set[j]=false:=by simpa using hx
    rw[a0s (by omega) (by simp <;> omega),if_pos (by simp <;> omega),if_pos (by simp <;> omega)];refine hrec2 _ ⟨j+1,by omega,?_⟩ (by simp <;> omega);rw[hsuc,hmix,hx',Aq,Cb];simp[List.getD_eq_getElem?_getD,List.headD_eq_head?_getD,List.head?_drop]
   ·rw[if_neg hx];rw[if_neg hx] at hsuc;have hx':set[j]=true:=by simpa using hx
    rw[if_pos (by simp <;> omega)];refine hrec2 _ ⟨j+1,by omega,?_⟩ (by simp <;> omega);rw[hsuc,hmix,hx'];simp
  ·obtain rfl:j=i:=by omega
   rw[if_neg (by simp <;> omega),AN (l:=set) (by omega)];obtain⟨l,hl2⟩:∃l,mixV set sm=l:=⟨_,rfl⟩
   have hll:l.length=j:=by rw[←hl2,d1k];exact r3
   have hok:∀v,v∈l→okV v:=by rw[←hl2];exact e7s hsm.2.2.2.2.2.1
   rw[hl2];have only:∀l' e',b1w t (j:Int) b l' e'→l'=l:=by
    intro l' e' hg;have h8:=(hE2 l' e' hg).uniq hsm;rw[←hl2,←h8,(r4 l' e' hg).1];exact(c0j hg.2.2.2.2.1).symm
   unfold a5n;dsimp only;rw[c0a hok (by omega) (by omega)];unfold b1z;have fin:∀q:List Int×Bool×Unit,(q.2.1=true→∃u,b1o (e:Int) t=some u∧l.all (a5f t)=true∧q.1=colB u t l)→(∀l' e',b1w t (j:Int) b l' e'→q.2.1=true)→Gets (((some (q,()):Option ((List Int×Bool×Unit)×Unit)).map fun y=>(y.1,l,())).bind fun y8=>(if(!y8.1.2.1)=true then(some (([],(0:Int),false,()),())) else(if(!decide (y8.1.1=b))=true then(some (([],(0:Int),false,()),())) else(some ((y8.2.1,(e:Int),true,()),()))))) (e8r t (j:Int) b):=by
    rintro⟨q1,q2,q3⟩ hq hq2;simp only[Option.map_some,Ab];cases q2 with
    |false =>
     rw[if_pos (by simp)];exact bad fun l' e' hg=>by have:=hq2 l' e' hg;simp at this
    |true =>
     obtain⟨u,w1,w2,w3⟩:=hq rfl;dsimp only at w3;subst w3;rw[if_neg (by simp)];by_cases hcb:colB u t l=b
     ·rw[if_neg (by simpa using hcb)];have hue:u=(e:Int):=by
       have:b.getD 0 0=u:=by rw[←hcb];unfold colB;split <;> rfl
       rw[←this,he1]
      subst hue;exact Gets.some (.inl ⟨l,_,rfl,by omega,by omega,by omega,w1,AK.1 w2,hok,hcb⟩)
     ·rw[if_pos (by simpa using hcb)];refine bad fun l' e' hg=>?_
      have h8:=only l' e' hg;have h9:=hE l' e' hg;subst h8;rw[h9] at hg;rw[hg.2.2.2.1] at w1;simp only[Ad] at w1;subst w1;exact hcb hg.2.2.2.2.2.2
   have good:∀l' e',b1w t (j:Int) b l' e'→b1o (e:Int) t=some (e:Int)∧l.all (a5f t)=true:=by
    intro l' e' hg;have h8:=only l' e' hg;have h9:=hE l' e' hg;subst h8;rw[h9] at hg;exact⟨hg.2.2.2.1,AK.2 hg.2.2.2.2.1⟩
   cases hu:b1o (e:Int) t with
   |none =>
    refine fin ([],false,()) (by simp) fun l' e' hg=>?_
    have:=(good l' e' hg).1;rw[hu] at this;cases this
   |some u =>
    dsimp only;by_cases ha:l.all (a5f t)=true
    ·rw[if_pos ha];exact fin (colB u t l,true,()) (fun _=>⟨u,hu,ha,rfl⟩) fun _ _ _=>rfl
    ·rw[if_neg ha];refine fin ([],false,()) (by simp) fun l' e' hg=>absurd (good l' e' hg).2 ha
 ·intro J hJ;have hmany:Aa.wrap ((Aa.wrap ((M:Int)+7)).tdiv (8:Int))=(((M+7) / 8:Nat):Int):=by
   rw[show((M:Int)+7)=((M+7:Nat):Int) by omega,a0q (by omega),show((8:Int))=((8:Nat):Int) from rfl,a5m,a0q (by omega)]
  simp only[hmany,Ac,Aq,e1,e2,e0,List.drop_zero,a0s (show(0:Int)≤1 by omega) (show(1:Int)<(b.length:Int) by omega),hf1];by_cases h7:f=1
  ·subst h7;rw[if_pos (by simp)];have hany:∀l e',b1w t (M:Int) b l e'→l.any isN=true:=by
    intro l e' hg;have h10:=(a5d hg).2.2.1;rw[hf1] at h10;cases h:l.any isN with
    |true=>rfl
    |false=>rw[h] at h10;simp at h10
   have hparts:∀l e',b1w t (M:Int) b l e'→b.drop 2=b3m (l.map isN)++encB e' t (a3b l)∧(b3m (l.map isN)).length=(M+7) / 8∧l.length=M:=by
    intro l e' hg;have h12:=(a5d hg).2.2.2;rw[hany l e' hg,if_pos rfl] at h12;have h13:=b0x (l.map isN);have h14:=hg.2.2.1;rw[Bb] at h13;have hlM:l.length=M:=by omega
    rw[hlM] at h13;exact⟨h12,h13,hlM⟩
   by_cases h8:(b.drop 2).length<(M+7) / 8
   ·rw[if_pos (by simp only[decide_eq_true_eq];omega)];refine bad fun l e' hg=>?_
    obtain⟨h12,h13,_⟩:=hparts l e' hg;rw[h12,Ap] at h8;omega
   ·rw[if_neg (by simp only[decide_eq_true_eq];omega),if_pos (by omega),d0k ((hb.drop _).take _) (by simp <;> omega) (by omega)];simp only[Ab];have hback:∀l e',b1w t (M:Int) b l e'→a9f ((b.drop 2).take ((M+7) / 8)) (M:Int)=(l.map isN,true,())∧(b.drop 2).drop ((M+7) / 8)=encB e' t (a3b l):=by
     intro l e' hg;obtain⟨h12,h13,hlM⟩:=hparts l e' hg;have h15:(b.drop 2).take ((M+7) / 8)=b3m (l.map isN):=by rw[h12,DK h13]
     have h16:(b.drop 2).drop ((M+7) / 8)=encB e' t (a3b l):=by rw[h12,EU h13]
     have h17:=d7z (l.map isN);rw[Bb,hlM] at h17;refine⟨?_,h16⟩;rw[h15];unfold a9f;simp only[Ac];have:=hg.2.1;rw[h17,if_pos ⟨by omega,by omega,h13,rfl⟩]
    obtain⟨set,ok,hab⟩:∃set ok,a9f ((b.drop 2).take ((M+7) / 8)) (M:Int)=(set,ok,()):=⟨_,_,rfl⟩
    have hset:ok=true→set.length=M:=by
     intro h;unfold a9f at hab;split at hab
     ·simp only[Ak] at hab;rw[←hab.1,a7g];simp
     ·simp only[Ak] at hab;rw[←hab.2.1] at h;cases h
    rw[hab] at hback ⊢;cases ok with
    |false =>
     rw[if_pos (by simp)];refine bad fun l e' hg=>?_
     have:=(hback l e' hg).1;simp at this
    |true =>
     rw[if_neg (by simp),if_pos (by omega)];refine hJ _ ⟨(hb.drop _).drop _,by simp <;> omega,hset rfl,fun l e' hg=>?_⟩;obtain⟨w1,w2⟩:=hback l e' hg;simp only[Ak,and_true] at w1;dsimp only;rw[w2,hE l e' hg];exact⟨w1,rfl⟩
  ·rw[if_neg (by simp <;> omega)];refine hJ _ ⟨hb.drop _,by simp <;> omega,by simp <;> omega,fun l e' hg=>?_⟩;have h10:=(a5d hg).2.2.1;have h8:l.any isN=false:=by
    cases h:l.any isN with
    |false=>rfl
    |true=>rw[h,hf1,if_pos rfl] at h10;omega
   have h12:=(a5d hg).2.2.2;rw[h8] at h12;have h9:=b3y h8;have:=hg.2.2.1;dsimp only;rw[h9,h12,hE l e' hg];exact⟨by congr 1;omega,rfl⟩
end Go.Rb.R5

namespace Go.Rb.R5
open Go.Rb
theorem e7j(x:Int):Ae.wrap x=x % 18446744073709551616:=by
 simp[BB,BC,Bs]
theorem d5j{x:Int}(h:0≤x∧x<18446744073709551616):Ae.wrap x=x:=by rw[e7j];omega
theorem d9c{W:Nat}(x:Int):∀w:Nat,w≤W→bigB w (x % 256 ^ W)=bigB w x
 |0,_=>rfl
 |w+1,h=>by
  rw[bigB,bigB,d9c x w (by omega)];congr 1;have e:(256:Int) ^ W=256 ^ w*(256*256 ^ (W - w - 1)):=by
   rw[←Int.pow_succ',←Int.pow_add];congr 1;omega
  have hp:(0:Int)<256 ^ w:=EY (by omega);have hm:x % 256 ^ W=x - 256 ^ W*(x / 256 ^ W):=Int.emod_def _ _;rw[hm,e,FF,Int.sub_eq_add_neg,←Int.mul_neg,Int.add_mul_ediv_left _ _ (by omega)];generalize (256:Int) ^ (W - w - 1)=c;generalize x / (256 ^ w*(256*c))=q;rw[FF];generalize c*q=z;omega
theorem d3z{n k:Nat}{x:Int}(hx:0≤x∧x<18446744073709551616)(hk:k≤8)(hn:10≤n):a7c n (x,(k:Int),())=some ((bigB k x,()),()):=by
 have hro:=a0p;unfold a7c;dsimp only;rw[if_pos (by omega),Ac];refine a0i (fun j=>(x / 256 ^ j,Ag (k - j) (0:Int)++bigB j x,(k:Int) - 1 - (j:Int))) k ?_ ?_ ?_ (by omega)
 ·simp[bigB];rw[a0d (by omega) (by omega)]
 ·intro rec j hj;have hp:(0:Int)<256 ^ j:=EY (by omega);have h0:0≤x / 256 ^ j:=Int.ediv_nonneg hx.1 (by omega);have h1:x / 256 ^ j≤x:=Int.ediv_le_self _ hx.1;have hl:(Ag (k - j) (0:Int)++bigB j x).length=k:=by rw[Ap,Cq,b0n];omega
  dsimp only;rw[if_pos (by rw[decide_eq_true_eq];omega)];have hat:(k:Int) - 1 - (j:Int)=((k - 1 - j:Nat):Int):=by omega
  rw[hat,a0a (by rw[hl];omega),Ac,Fa h0,Fb h0,d5j (by omega),c1o,a0d (by omega) (by omega)];have e1:x / 256 ^ j / 256=x / 256 ^ (j+1):=by rw[Int.pow_succ,Int.ediv_ediv_of_nonneg (by omega)]
  have e2:(Ag (k - j) (0:Int)++bigB j x).set (k - 1 - j) (x / 256 ^ j % 256 % 256)=Ag (k - (j+1)) (0:Int)++bigB (j+1) x:=by
   rw[show k - j=(k - (j+1))+1 by omega,FL,Al,F9 _ _ (by simp;omega)];rw[show k - 1 - j - (Ag (k - (j+1)) (0:Int)).length=0 by simp;omega];simp[bigB]
  rw[e1,e2,show((k - 1 - j:Nat):Int) - 1=(k:Int) - 1 - ((j+1:Nat):Int) by omega]
 ·intro rec;dsimp only;rw[if_neg (by rw[decide_eq_true_eq];omega)];simp
theorem d2e{n:Nat}{x:Int}(hx:0≤x∧x<18446744073709551616)(hn:10≤n):a7c n (x,(2:Int),())=some ((bigB 2 x,()),()):=d3z (k:=2) hx (by omega) hn
theorem f9u{n:Nat}{x:Int}(hx:0≤x∧x<18446744073709551616)(hn:10≤n):a7c n (x,(8:Int),())=some ((bigB 8 x,()),()):=d3z (k:=8) hx (by omega) hn
theorem d7d{n:Nat}{v:Vl}(hv:okV v)(hn:10≤n):b7s n (v,())=some ((if mayV v=true then valB v else[],()),()):=by
 have hro:=a0p;unfold b7s;dsimp only;rw[b4i];simp only[Ab];cases hm:mayV v with
 |false=>rfl
 |true =>
  rw[if_neg (by simp),if_pos rfl];have hr:a0j v.1 v=true:=by unfold a0j;rw[hm];simp
  obtain⟨_,h2⟩:=a1s hr;obtain⟨t,i,s,u⟩:=v;dsimp only at h2 hv ⊢;obtain⟨hv1,hv2,hv3,hv4⟩:=hv;dsimp only at hv2;by_cases h1:t=1
  ·subst h1;rw[if_pos (by rfl),e7j,Fb (by omega),d2e (by omega) hn];simp only[Ab];rw[if_pos (by simp[b0n];omega)];have e:i % 18446744073709551616 % 65536=i % 256 ^ 2:=by
    have:(256:Int) ^ 2=65536:=by decide
    rw[this];omega
   rw[e,d9c i 2 (by omega)];rfl
  rw[if_neg (by simpa using h1)];by_cases h2':t=2
  ·subst h2';rw[if_pos (by rfl),e7j,f9u (by omega) hn];simp only[Ab];rw[if_pos (by simp[b0n];omega)];have e:i % 18446744073709551616=i % 256 ^ 8:=by
    have:(256:Int) ^ 8=18446744073709551616:=by decide
    rw[this]
   rw[e,d9c i 8 (by omega)];rfl
  rw[if_neg (by simpa using h2')];by_cases h3:t=3
  ·subst h3;rw[if_pos (by rfl),if_pos (by simp;omega)];have:i=0∨i=1:=by omega
   rcases this with rfl|rfl <;> rfl
  rw[if_neg (by simpa using h3)];by_cases h4:t=4
  ·subst h4;have hl:s.length≤20:=by omega
   rw[if_pos (by rfl),if_pos (by simp;omega),if_pos (by simp;omega),a3u (by omega) (by omega),a3u (x:=(s.length:Int)) (by omega) (by omega)];rfl
  rw[if_neg (by simpa using h4)];have h0:t=0:=by omega
  subst h0;rfl
theorem d6n{n:Nat}{z:Zn}(h:mayZ z)(hn:10≤n):a9g n (z,())=some ((b1p z,()),()):=by
 have hro:=a0p;have l0:=c7g h;obtain⟨h1,h2,h3,h4,h5,h6⟩:=h;have l1:=d1g h3;have l2:=d1g h5;unfold b1p at l0;simp only[Ap] at l0;obtain⟨k,hk⟩:∃k:Nat,z.1=(k:Int):=⟨z.1.toNat,by omega⟩
 rw[hk,Ac] at l0;unfold a9g b1p;dsimp only;rw[if_neg (by rw[decide_eq_true_eq];omega),b4i,h3];simp only[Ab];rw[if_neg (by simp),b4i,h5];simp only[Ab];rw[if_neg (by simp),d5j (by omega),hk,a6z (by omega) hn,Ac];simp only[Ab];rw[d7d h4 hn,if_pos h3];simp only[Ab];rw[if_pos (by omega),d7d h6 hn,if_pos h5];simp only[Ab];rw[if_pos (by rw[Ap];omega),Al]
theorem pow7:∀k:Fin 8,(256:Int) ^ k.1≤72057594037927936:=by decide
theorem b3o{n:Nat}{l:List Int}(hl:l.length≤8)(hb:a1h l)(hn:10≤n):a7e n (l,())=some ((numT l,()),()):=by
 unfold a7e;dsimp only;refine a0i (fun i=>(numT (l.take i),(i:Int))) l.length rfl ?_ ?_ (by omega)
 ·intro rec i hi;have hx:=hb _ (Aj hi);have hr:=b8d (l:=l.take i) (fun x hx=>hb x (Bk hx));have hp:(256:Int) ^ (l.take i).length≤72057594037927936:=pow7 ⟨(l.take i).length,by simp;omega⟩;dsimp only;rw[if_pos (by simp <;> omega),a0a hi,Ac,a0c hi,a0b (by omega),Am hi,e3g,d5j (x:=l[i]) (by omega),d5j (x:=numT (l.take i)*256) (by omega),d5j (by omega)]
 ·intro rec;dsimp only;rw[if_neg (by simp),Aq]
end Go.Rb.R5

namespace Go.Rb.R5
open Go.Rb
theorem f0p{k:Nat}:bigB 2 (k:Int)=twoB k:=by
 simp[bigB,twoB]
theorem b8u{n:Nat}{s:Sg}(hl:∀l,l∈s.2.2.2.2.2.2.1→l.length<100000)(hv:∀l,l∈s.2.2.2.2.2.2.1→∀v,v∈l→okV v)(hn:100001≤n) :
  a7m n (s,())=some ((if a5j s=true then segB s else[],()),()):=by
 have hro:=a0p;unfold a7m;dsimp only;rw[b3n hl hn];simp only[Ab];cases hm:a5j s with
 |false=>rfl
 |true =>
  obtain⟨hA,hC⟩:=d1b hm hv;obtain⟨a1,a2,a3,a4,a5,a6,a7,a8,a9,a10,a11,a12,a13⟩:=hA;have hcb:=c1u hC;obtain⟨k,hk⟩:∃k:Nat,s.1=(k:Int):=⟨s.1.toNat,by omega⟩
  rw[if_neg (by simp),if_pos rfl,d5j (by omega),d2e (by omega) (by omega),hk,f0p];simp only[Ab];have hr0:(s.2.2.2.2.2.2.1.getD (0:Int).toNat []).length=a9q s.2.2.2.2.2.2.1:=rfl;rw[hr0,if_pos (by simp[twoB];omega),a0s (by omega) (by omega),if_pos (by simp[twoB];omega),a3u (x:=s.2.1) (by omega) (by omega),a3u (x:=s.2.2.1) (by omega) (by omega),a3u (x:=(s.2.2.2.2.2.2.1.length:Int)) (by omega) (by omega),a3u (x:=(a9q s.2.2.2.2.2.2.1:Int)) (by omega) (by omega)];have hh:([(83:Int),(71:Int)]++twoB k)++[s.2.1,s.2.2.1,(s.2.2.2.2.2.2.1.length:Int),(a9q s.2.2.2.2.2.2.1:Int)]=b8z s:=by
   unfold b8z;rw[hk,Ac];simp
  rw[hh];refine a0i (fun i=>(b8z s++b3p s i,(i:Int))) s.2.2.2.2.2.2.1.length (by simp[b3p]) ?_ ?_ (by omega)
  ·intro rec i hi;have hF:=hC i hi;obtain⟨u1,u2,u3,u4,u5,u6⟩:=a8f hF.used;have hrw:=hF.rows;have hlen:=hF.len;have hz:=c7g hF.zmay;have hci:=hcb i (by omega);have hhl:=c1n s;dsimp only;rw[if_pos (by simp <;> omega),a0a (by omega),a0a (by omega),a0a hi,Ac,c0a hF.ok (by omega) (by omega)];have hput:b1z (s.2.2.2.2.1.getD i 0) (s.2.2.2.1.getD i 0) (s.2.2.2.2.2.2.1.getD i [])=some (colB (s.2.2.2.2.1.getD i 0) (s.2.2.2.1.getD i 0) (s.2.2.2.2.2.2.1.getD i [])):=by
    unfold b1z;rw[hF.used];dsimp only;rw[if_pos (AK.2 hF.fits)]
   rw[hput];simp only[Ab];rw[a0a (by omega),if_pos (by simp only[Ap,AZ];omega),a0a (by omega)];have hzz:a9g n (s.2.2.2.2.2.1.getD i ((0:Int),((0:Int),(0:Int),[],()),((0:Int),(0:Int),[],()),()),())=some ((b1p (s.2.2.2.2.2.1.getD i c0e),()),()):=d6n hF.zmay (by omega);rw[hzz];simp only[Ab];rw[if_pos (by simp only[Ap,AZ];omega),d5j (by omega),d2e (by omega) (by omega),f0p];simp only[Ab];rw[if_pos (by simp only[Ap,AZ,twoB,A6,D9];omega),if_pos (by simp only[Ap,AZ,twoB,A6,D9];omega),a3u (by omega) (by omega),a0b (by omega),c3k];congr 2;unfold crAt crB;simp
  ·intro rec;dsimp only;rw[if_neg (by simp)];rfl
end Go.Rb.R5

namespace Go.Rb.R5
open Go.Rb
def outV(o:Option (Vl×Nat)):Vl×Int×Bool×Unit:=match o with
 |some (v,k)=>(v,(k:Int),true,())
 |none=>(a2e,0,false,())
theorem h1n{x:Int}(h:0≤x∧x<65536):IntKind.i16.wrap x=if 32767<x then x - 65536 else x:=by
 simp[BB,BC,Bs];split <;> split <;> omega
def e9a(t:Int)(r:List Int):Int:=if t=4 then(match r with|[]=>1|m::_=>1+m) else(a0z t:Int)
theorem e8g{n:Nat}{t:Int}{r:List Int}(hb:a1h (t::r))(hl:r.length<1000000):b5g n (t::r,())=some ((e9a t r,()),()):=by
 have ht:=hb t (by simp);unfold b5g e9a;dsimp only;have hg:(t::r).getD (0:Int).toNat (0:Int)=t:=rfl;rw[hg,a0s (by omega) (by simp <;> omega),a0d (x:=t) (by omega) (by omega)];by_cases h1:t=1
 ·subst h1;rfl
 rw[if_neg (by simpa using h1)];by_cases h2:t=2
 ·subst h2;rfl
 rw[if_neg (by simpa using h2)];by_cases h3:t=3
 ·subst h3;rfl
 rw[if_neg (by simpa using h3)];by_cases h4:t=4
 ·rw[if_pos (by simpa using h4),if_pos h4];cases r with
  |nil=>rfl
  |cons m q =>
   have hm:=hb m (by simp);have hg1:(t::m::q).getD (1:Int).toNat (0:Int)=m:=rfl;rw[if_pos (by simp <;> omega),a0s (by omega) (by simp <;> omega),hg1,a0d (x:=m) (by omega) (by omega),a0d (by omega) (by omega)]
 ·rw[if_neg (by simpa using h4),if_neg h4];unfold a0z;rw[if_neg h1,if_neg h2,if_neg h3];rfl
theorem d5s{n:Nat}{b:List Int}(hb:a1h b)(hl:b.length<1000000)(hn:10≤n):b5a n (b,())=some (outV (c6t b),()):=by
 unfold b5a c6t b1j;dsimp only;cases b with
 |nil=>rfl
 |cons t r =>
  have ht:=hb t (by simp);have hbr:a1h r:=fun x hx=>hb x (Ar _ hx)
  rw[A6] at hl;have hg:(t::r).getD (0:Int).toNat (0:Int)=t:=rfl;have hfit:∀v:Vl,(a4y n (v,())).bind (fun(y5:(Bool×Unit)×Unit)=>(if(!y5.1.1)=true then(some ((((0:Int),(0:Int),[],()),(0:Int),false,()),())) else(some ((v,(Aa.wrap ((1:Int)+e9a t r)),true,()),()))))=if mayV v=true then some ((v,(Aa.wrap ((1:Int)+e9a t r)),true,()),()) else some ((a2e,(0:Int),false,()),()):=by
   intro v;rw[b4i];simp only[Ab];cases mayV v <;> rfl
  rw[if_neg (by simp <;> omega),e8g hb (by omega)];simp only[Ab];have hlen:((t::r).length:Int)=(r.length:Int)+1:=by simp
  rw[hlen,hg,a0s (by omega) (by simp <;> omega),a0d (x:=t) (by omega) (by omega)];by_cases h4:t=4
  ·subst h4;rw[if_pos rfl];cases r with
   |nil=>rfl
   |cons m q =>
    have hm:=hb m (by simp);have hs:e9a 4 (m::q)=1+m:=rfl;rw[hs,a0d (x:=1+(1+m)) (by omega) (by omega)] at hfit;have hl2:((m::q).length:Int)=(q.length:Int)+1:=by simp
    rw[hs,a0d (x:=1+(1+m)) (by omega) (by omega),hl2];dsimp only;by_cases hq:q.length<m.toNat
    ·rw[if_pos (by rw[decide_eq_true_eq];omega),if_pos hq];rfl
    ·rw[if_neg (by rw[decide_eq_true_eq];omega),if_neg hq,if_neg (by decide),if_neg (by decide),if_neg (by decide),if_pos (by decide),if_pos (by simp;omega)];have e:((4::m::q).take (1+(1+m)).toNat).drop (2:Int).toNat=q.take m.toNat:=by
      rw[show(1+(1+m)).toNat=m.toNat+2 by omega];rfl
     rw[e,hfit];have hmay:mayV ((4:Int),(0:Int),q.take m.toNat,())=decide (m≤20):=by
      have hll:(q.take m.toNat).length=m.toNat:=by rw[AC];omega
      unfold mayV;simp[hll] <;> omega
     rw[hmay];by_cases h20:m≤20
     ·rw[if_pos (decide_eq_true h20),if_pos h20];unfold outV;dsimp only;rw[show((2+m.toNat:Nat):Int)=1+(1+m) by omega]
     ·rw[if_neg (by simpa using h20),if_neg h20];rfl
  ·rw[if_neg h4];have hs:e9a t r=(a0z t:Int):=by unfold e9a;rw[if_neg h4]
   have hw8:=d4r t;rw[hs,a0d (x:=1+(a0z t:Int)) (by omega) (by omega)] at hfit;rw[hs,a0d (x:=1+(a0z t:Int)) (by omega) (by omega)];by_cases hlt:r.length<a0z t
   ·rw[if_pos (by rw[decide_eq_true_eq];omega),if_pos hlt];rfl
   rw[if_neg (by rw[decide_eq_true_eq];omega),if_neg hlt];have hfin:∀i:Int,i=numV t (numT (r.take (a0z t)))→(if mayV (t,i,[],())=true then some (((t,i,[],()),((1:Int)+(a0z t:Int)),true,()),()) else some ((a2e,(0:Int),false,()),()))=some (outV (if mayV (t,numV t (numT (r.take (a0z t))),[],())=true then some ((t,numV t (numT (r.take (a0z t))),[],()),1+a0z t) else none),()):=by
    rintro _ rfl;split
    ·unfold outV;dsimp only;rw[show((1+a0z t:Nat):Int)=1+(a0z t:Int) by omega]
    ·rfl
   have hbt:a1h (r.take (a0z t)):=fun x hx=>hbr x (Bk hx)
   have hr:=b8d hbt;have hlt2:(r.take (a0z t)).length=a0z t:=by rw[AC];omega
   rw[hlt2] at hr;by_cases h1:t=1
   ·subst h1;have w1:a0z 1=2:=rfl;have e:(((1:Int)::r).take (3:Int).toNat).drop (1:Int).toNat=r.take (a0z 1):=rfl;rw[if_pos (by decide),if_pos (by simp <;> omega),e,b3o (by omega) hbt hn];simp only[Ab];have h2:(256:Int) ^ (a0z 1)=65536:=by decide
    rw[h2] at hr;rw[a0d (x:=numT (r.take (a0z 1))) (by omega) (by omega),a0d (x:=numT (r.take (a0z 1)) - 65536) (by omega) (by omega)];have hnv:numV 1 (numT (r.take (a0z 1)))=if 32767<numT (r.take (a0z 1)) then numT (r.take (a0z 1)) - 65536 else numT (r.take (a0z 1)):=h1n (by omega)
    by_cases hb:32767<numT (r.take (a0z 1))
    ·rw[if_pos (by simpa using hb),hfit];exact hfin _ (by rw[hnv,if_pos hb])
    ·rw[if_neg (by simpa using hb),hfit];exact hfin _ (by rw[hnv,if_neg hb])
   rw[if_neg (by simpa using h1)];by_cases h2:t=2
   ·subst h2;have w1:a0z 2=8:=rfl;have e:(((2:Int)::r).take (9:Int).toNat).drop (1:Int).toNat=r.take (a0z 2):=rfl;rw[if_pos (by decide),if_pos (by simp <;> omega),e,b3o (by omega) hbt hn];simp only[Ab];rw[hfit];exact hfin _ rfl
   rw[if_neg (by simpa using h2)];by_cases h3:t=3
   ·subst h3;have w1:a0z 3=1:=rfl;cases r with
    |nil=>exact absurd (show(0:Nat)<a0z 3 by decide) hlt
    |cons m q =>
     have hm:=hbr m (by simp);have e:((3:Int)::m::q).getD (1:Int).toNat (0:Int)=m:=rfl;rw[if_pos (by decide),a0s (by omega) (by simp <;> omega),e,a0d (x:=m) (by omega) (by omega),hfit];exact hfin _ (by rw[w1];simp[numV,numT])
   rw[if_neg (by simpa using h3),if_neg (by simpa using h4),hfit];have w0:a0z t=0:=by unfold a0z;rw[if_neg h1,if_neg h2,if_neg h3]
   exact hfin _ (by rw[w0];simp[numV,numT,h1,h2])
end Go.Rb.R5

namespace Go.Rb.R5
open Go.Rb
def outZ(o:Option (Zn×Nat)):Zn×Int×Bool×Unit:=match o with
 |some (z,k)=>(z,(k:Int),true,())
 |none=>(c0e,0,false,())
theorem d1h(b:List Int)(k:Nat):(b.take (b.length:Int).toNat).drop k=b.drop k:=by simp
theorem d2h{n:Nat}{b:List Int}(hb:a1h b)(hl:b.length<1000000)(hn:13≤n):b1g n (b,())=some (outZ (c5s b),()):=by
 unfold b1g c5s;dsimp only;rw[a5v hb hl hn];simp only[Ab];cases h1:a3i b with
 |none=>rfl
 |some p =>
  obtain⟨u,k⟩:=p;have hk:=d9w h1;have hu:=(c5b hb h1).2.2.2.2.1;dsimp only;rw[if_neg (by simp)];by_cases h63:9223372036854775808≤u
  ·rw[if_pos (by rw[decide_eq_true_eq];omega),if_pos h63];rfl
  rw[if_neg (by rw[decide_eq_true_eq];omega),if_neg h63,if_pos (by omega),d1h,Ac,d5s (hb.drop k) (by rw[AM];omega) (by omega)];simp only[Ab];cases h2:c6t (b.drop k) with
  |none=>rfl
  |some p =>
   obtain⟨v,j⟩:=p;have hj:=c2n h2;rw[AM] at hj;unfold outV;dsimp only;rw[if_neg (by simp),a0d (x:=(k:Int)+(j:Int)) (by omega) (by omega),if_pos (by omega),d1h,show((k:Int)+(j:Int)).toNat=k+j by omega];have h3:=d5s (n:=n) (hb.drop (k+j)) (by rw[AM];omega) (by omega);unfold outV at h3;rw[h3];simp only[Ab];cases h4:c6t (b.drop (k+j)) with
   |none=>rfl
   |some p =>
    obtain⟨v',j'⟩:=p;have hj':=c2n h4;rw[AM] at hj';unfold outZ;dsimp only;rw[if_neg (by simp),a0d (x:=(u:Int)) (by omega) (by omega),a0d (by omega) (by omega)];rfl
theorem c8x{n:Nat}{t m:Int}{b:List Int}(hb:a1h b)(hl:b.length<1000000)(hn:1000000≤n) :
  a6g n (t,m,b,())=some (match d0b t m b with|some (l,e)=>(l,e,true,())|none=>([],0,false,()),()):=by
 obtain⟨y,h1,h2⟩:=c4v (t:=t) (m:=m) hb hl hn;rw[h1];rcases h2 with⟨l,e,rfl,hg⟩|⟨rfl,hno⟩
 ·rw[b2a.2 hg]
 ·cases hc:d0b t m b with
  |none=>rfl
  |some p=>exact absurd (b2a.1 hc) (hno _ _)
theorem g4e{b:List Int}{k:Nat}(h:k+3≤b.length):(b.take (k+3)).drop (k+1)=[b.getD (k+1) 0,b.getD (k+2) 0]:=by
 rw[Am (show k+2<b.length by omega),Am (show k+1<b.length by omega),a0c (show k+1<b.length by omega),a0c (show k+2<b.length by omega),Al,List.drop_append_of_le_length (by rw[AC];omega),List.drop_of_length_le (by rw[AC];omega)];rfl
theorem e9r{x y:Int}:numT [x,y]=x*256+y:=by simp[numT]
theorem c3z{n:Nat}{b:List Int}(hb:a1h b)(hl:b.length<1000000)(hn:1000001≤n):a8j n (b,())=some (outS (b5p b),()):=by
 have hro:=a0p;unfold a8j b5p;dsimp only;by_cases h8:b.length<8
 ·rw[if_pos (by rw[decide_eq_true_eq];omega),if_pos h8];rfl
 have e24:((b.take (4:Int).toNat).drop (2:Int).toNat)=[b.getD 2 0,b.getD 3 0]:=g4e (k:=1) (by omega);have g2:=hb.getD 2;have g3:=hb.getD 3;have g4:=hb.getD 4;have g5:=hb.getD 5;have g6:=hb.getD 6;have g7:=hb.getD 7;have t4:b.getD (4:Int).toNat (0:Int)=b.getD 4 0:=rfl;have t5:b.getD (5:Int).toNat (0:Int)=b.getD 5 0:=rfl;have t6:b.getD (6:Int).toNat (0:Int)=b.getD 6 0:=rfl;have t7:b.getD (7:Int).toNat (0:Int)=b.getD 7 0:=rfl;have hby:a1h [b.getD 2 0,b.getD 3 0]:=by
  intro x hx;simp only[Az,C6,or_false] at hx;rcases hx with rfl|rfl
  ·exact g2
  ·exact g3
 rw[if_neg (by rw[decide_eq_true_eq];omega),if_neg h8,if_pos (by omega),e24,b3o (by simp) hby (by omega),e9r];simp only[Ab];rw[a0s (by omega) (by omega),a0s (by omega) (by omega),if_pos (by omega),d1h,t4,t5,t6,t7,a0d (x:=b.getD 4 0) (by omega) (by omega),a0d (x:=b.getD 5 0) (by omega) (by omega),a0d (x:=b.getD 6 0) (by omega) (by omega),a0d (x:=b.getD 7 0) (by omega) (by omega),a0d (x:=b.getD 2 0*256+b.getD 3 0) (by omega) (by omega)];obtain⟨B,hB⟩:∃B,B=(b.getD 6 0).toNat:=⟨_,rfl⟩
 have hB2:b.getD 6 0=(B:Int):=by omega
 rw[hB2,Ac];have hst:((b.getD 2 0*256+b.getD 3 0,b.getD 4 0,b.getD 5 0,[],[],[],[],()):Sg)=mkS b []:=by
  unfold mkS;rw[show(((b.getD 2 0).toNat*256+(b.getD 3 0).toNat:Nat):Int)=b.getD 2 0*256+b.getD 3 0 by omega];rfl
 rw[hst];refine(a8m (I:=fun k (s:Sg×Sg×List Int×Int)=>∃(cs:List Cr) (rest:List Int) (i:Nat),s=(e7r,mkS b cs,rest,(i:Int))∧i+k=B∧cs.length=i∧a1h rest∧rest.length<1000000∧∀c,c∈cs→c.2.2.2.length≤1000∧∀v,v∈c.2.2.2→okV v)
  (res:=fun s=>some (outS (match a7w (B - s.2.2.2.toNat) (b.getD 7 0) s.2.2.1 with
   |none=>none
   |some ds=>if a5j (ds.foldl addS s.2.1)=true∧segB (ds.foldl addS s.2.1)=b then some (ds.foldl addS s.2.1) else none),())) ?_ n B _ ⟨[],_,0,rfl,by omega,rfl,hb.drop 8,by rw[AM];omega,by simp⟩ (by omega)).trans ?_
 ·rintro k _ rec ⟨cs,rest,i,rfl,h1,h2,h3,h4,h5⟩ hrec;dsimp only;rw[a0s (by omega) (by omega),Ac i];by_cases hi:i<B
  ·rw[if_pos (by rw[decide_eq_true_eq];omega)];obtain⟨d,hd⟩:∃d,B - i=d+1:=⟨B - i - 1,by omega⟩
   rw[hd];unfold a7w;have hcr:c0b (b.getD 7 0) rest=c0b (b.getD 7 0) rest:=rfl;unfold c0b at hcr;cases rest with
   |nil =>
    rw[if_pos (by simp)];rfl
   |cons t r =>
    have ht:=h3 t (by simp);have hbr:a1h r:=fun x hx=>h3 x (Ar _ hx)
    have hrl:(t::r).length=r.length+1:=by simp
    have e1:(((t::r).take ((t::r).length:Int).toNat).drop (1:Int).toNat)=r:=by rw[Ac,Aq];rfl
    rw[if_neg (by rw[decide_eq_true_eq];omega),if_pos (by omega),e1,d2h hbr (by omega) (by omega)];simp only[Ab];have hcr2:c0b (b.getD 7 0) (t::r)=match c5s r with
      |none=>none
      |some (z,k)=>if(t::r).length<k+3 then none else
       if(t::r).length<k+3+(((t::r).getD (k+1) 0).toNat*256+((t::r).getD (k+2) 0).toNat) then none else
       match d0b t (b.getD 7 0) (((t::r).drop (k+3)).take (((t::r).getD (k+1) 0).toNat*256+((t::r).getD (k+2) 0).toNat)) with
       |none=>none
       |some (l,e)=>some ((t,z,e,l),k+3+(((t::r).getD (k+1) 0).toNat*256+((t::r).getD (k+2) 0).toNat)):=rfl
    rw[hcr2];clear hcr hcr2;cases hz:c5s r with
    |none=>rfl
    |some p =>
     obtain⟨z,j⟩:=p;have hj:=f0z hz;unfold outZ;dsimp only;obtain⟨q,hq⟩:∃q,q=t::r:=⟨_,rfl⟩
     have hq0:q.getD (0:Int).toNat (0:Int)=t:=by rw[hq];rfl
     rw[←hq] at h3 h4 hrl ⊢;rw[if_neg (by simp),a0d (x:=3+(j:Int)) (by omega) (by omega),a0d (x:=1+(j:Int)) (by omega) (by omega)];by_cases hl3:q.length<j+3
     ·rw[if_pos (by rw[decide_eq_true_eq];omega),if_pos hl3];rfl
     rw[if_neg (by rw[decide_eq_true_eq];omega),if_neg hl3,if_pos (by omega),show(3+(j:Int)).toNat=j+3 by omega,show(1+(j:Int)).toNat=j+1 by omega,g4e (by omega)];have m1:=h3.getD (j+1);have m2:=h3.getD (j+2);have hby2:a1h [q.getD (j+1) 0,q.getD (j+2) 0]:=by
      intro x hx;simp only[Az,C6,or_false] at hx;rcases hx with rfl|rfl
      ·exact m1
      ·exact m2
     rw[b3o (by simp) hby2 (by omega),e9r];simp only[Ab];obtain⟨L,hL⟩:∃L,L=(q.getD (j+1) 0).toNat*256+(q.getD (j+2) 0).toNat:=⟨_,rfl⟩
     have hL2:q.getD (j+1) 0*256+q.getD (j+2) 0=(L:Int):=by omega
     rw[←hL,hL2,a0d (x:=(L:Int)) (by omega) (by omega),a0d (x:=3+(j:Int)+(L:Int)) (by omega) (by omega)];by_cases hlL:q.length<j+3+L
     ·rw[if_pos (by rw[decide_eq_true_eq];omega),if_pos hlL];rfl
     have hdt:(q.take (3+(j:Int)+(L:Int)).toNat).drop (j+3)=(q.drop (j+3)).take L:=by
      rw[show(3+(j:Int)+(L:Int)).toNat=j+3+L by omega,List.drop_take];congr 1;omega
     rw[if_neg (by rw[decide_eq_true_eq];omega),if_neg hlL,a0s (by omega) (by omega),a0s (by omega) (by omega),if_pos (by omega),hq0,a0d (x:=t) (by omega) (by omega),hdt,c8x (fun x hx=>h3 x (Bf (Bk hx))) (by rw[AC,AM];omega) (by omega)];simp only[Ab];cases hc:d0b t (b.getD 7 0) ((q.drop (j+3)).take L) with
     |none=>rfl
     |some p =>
      obtain⟨l,e⟩:=p;have hg:=b2a.1 hc;have hml:(mkS b cs).2.2.2.1.length=i∧(mkS b cs).2.2.2.2.1.length=i∧(mkS b cs).2.2.2.2.2.1.length=i∧(mkS b cs).2.2.2.2.2.2.1.length=i:=by
       unfold mkS;simp[h2]
      obtain⟨q1,q2,q3,q4⟩:=hml;dsimp only;rw[if_neg (by simp),a0s (by omega) (by omega),if_pos (by rw[q1];simp;omega),if_pos (by rw[q2];simp;omega),if_pos (by rw[q3];simp;omega),if_pos (by rw[q4];simp;omega),if_pos (by omega),a0b (by omega),d1h,show(3+(j:Int)+(L:Int)).toNat=j+3+L by omega];have hadd:((mkS b cs).1,(mkS b cs).2.1,(mkS b cs).2.2.1,(mkS b cs).2.2.2.1++[t],(mkS b cs).2.2.2.2.1++[e],(mkS b cs).2.2.2.2.2.1++[z],(mkS b cs).2.2.2.2.2.2.1++[l],(mkS b cs).2.2.2.2.2.2.2)=mkS b (cs++[(t,z,e,l)]):=by
       unfold mkS;simp
      rw[hadd,hrec (k - 1) _ (by omega) ⟨_,_,i+1,rfl,by omega,by simp[h2],h3.drop _,by rw[AM];omega,?_⟩]
      ·dsimp only;rw[Ac (i+1),show B - (i+1)=d by omega];cases a7w d (b.getD 7 0) (q.drop (j+3+L)) with
       |none=>rfl
       |some ds =>
        dsimp only;rw[List.foldl_cons];have:addS (mkS b cs) (t,z,e,l)=mkS b (cs++[(t,z,e,l)]):=by unfold addS mkS;simp
        rw[this]
      ·intro c hc2;rcases Ao.1 hc2 with hc2|hc2
       ·exact h5 c hc2
       ·obtain rfl:=B9.1 hc2;exact⟨by have:=hg.2.1;have:=hg.2.2.1;dsimp only;omega,hg.2.2.2.2.2.1⟩
  ·rw[if_neg (by rw[decide_eq_true_eq];omega),show B - i=0 by omega];unfold a7w;dsimp only;rw[List.foldl_nil];have hcol:∀l,l∈(mkS b cs).2.2.2.2.2.2.1→l.length≤1000∧∀v,v∈l→okV v:=by
    intro l hl2;unfold mkS at hl2;dsimp only at hl2;obtain⟨c,hc,rfl⟩:=Bu.1 hl2;exact h5 c hc
   rw[b8u (fun l h=>by have:=(hcol l h).1;omega) (fun l h=>(hcol l h).2) (by omega)];simp only[Ab];cases hm:a5j (mkS b cs) with
   |false =>
    simp only[Bool.false_eq_true,if_false,false_and];rw[if_pos (by rw[Bool.not_eq_true',decide_eq_false_iff_not];intro h;rw[←h] at h8;simp at h8)];rfl
   |true =>
    rw[if_pos rfl];by_cases hs:segB (mkS b cs)=b
    ·rw[if_neg (by simp[hs]),if_pos ⟨rfl,hs⟩];rfl
    ·rw[if_pos (by simp[hs]),if_neg (fun h=>hs h.2)];rfl
 ·dsimp only;rw[show B - ((0:Nat):Int).toNat=B by simp];have hf:∀ds:List Cr,ds.foldl addS (mkS b [])=mkS b ds:=fun ds=>by rw[e5i];rfl
  simp only[hf];rfl
end Go.Rb.R5

namespace Go.Rb.R5
open Go.Rb
def begS:Sg:=mkSg 1 0 0 [2] [5] [[((2:Int),(5:Int),[],()),((0:Int),(0:Int),[],())]]
theorem f7y:d1v 1 0 0 [2] [5] [[((2:Int),(5:Int),[],()),((0:Int),(0:Int),[],())]]=some begS:=if_pos (by decide +kernel)
theorem d1n:a5j begS=true:=by decide +kernel
theorem g0y:decide ((10:Int)<((segB begS).length:Int))=true:=by decide +kernel
theorem g0c:decide ((((segB begS).take (8:Int).toNat).drop (0:Int).toNat)=[83,71,0,1,0,0,1,2])=true:=by decide +kernel
theorem b2r:∀l,l∈begS.2.2.2.2.2.2.1→l.length<100000∧∀v,v∈l→okV v:=by
 intro l hl;have hl:l∈[[((2:Int),(5:Int),([]:List Int),()),((0:Int),(0:Int),[],())]]:=hl;obtain rfl:=B9.1 hl;refine⟨by simp,fun v hv=>?_⟩;simp only[Az,C6,or_false] at hv;rcases hv with rfl|rfl <;> (unfold okV;decide)
theorem f8r:b5p []=none:=by unfold b5p;rw[if_pos (by simp)]
theorem d4x{n:Nat}(hn:1000001≤n):a8x n ()=some ((true,()),()):=by
 obtain⟨b1,b2,b3⟩:=d2k d1n (fun l hl=>(b2r l hl).2);have hl1:∀l,l∈([[((2:Int),(5:Int),([]:List Int),()),((0:Int),(0:Int),[],())]]:List (List Vl))→l.length<100000:=fun l hl=>(b2r l hl).1
 unfold a8x;rw[c6h (by simp) hl1 (by omega),f7y];simp only[Ab,outS];rw[(b2s (fun l hl=>(b2r l hl).1) (fun l hl=>(b2r l hl).2) (by omega)).1,if_pos d1n];simp only[Ab];rw[b1k b1 (by omega) hn,f4e d1n (fun l hl=>(b2r l hl).2)];simp only[Ab];rw[b1k (by intro x hx;cases hx) (by simp) hn,f8r];simp only[Ab];rw[b3a (fun l hl=>(b2r l hl).1) (by omega),d1n];simp only[Ab];rw[b0j n begS (fun l hl=>(b2r l hl).1),c9k (by omega) (by decide) (by decide) (by decide) (by decide) (fun l hl=>(b2r l hl).1)];simp only[Ab];rw[if_pos g0y,if_pos (show 0≤(8:Int)∧(8:Int)≤((segB begS).length:Int) by omega),if_pos g0c];rfl
theorem f4g{n:Nat}{s:Sg}(h1:s.2.2.2.2.2.2.1.length<n∧s.2.2.2.2.2.2.1.length≤140737488355328)(h2:∀l,l∈s.2.2.2.2.2.2.1→l.length<n∧l.length≤140737488355328)(h3:s.2.2.2.2.2.1.length<n∧s.2.2.2.2.2.1.length≤140737488355328) :
  Gets (b3t n (s,())) fun y=>∃ok:Bool,y=((ok,()),())∧(ok=true→s.2.2.2.2.2.2.1.length≤8∧s.2.2.2.1.length≤8∧s.2.2.2.2.1.length≤8∧s.2.2.2.2.2.1.length≤8∧∀l,l∈s.2.2.2.2.2.2.1→l.length≤120):=by
 unfold b3t;dsimp only;have no:∀(P:Prop),∃ok:Bool,(((false,()),()):(Bool×Unit)×Unit)=((ok,()),())∧(ok=true→P):=fun P=>⟨false,rfl,fun h=>by cases h⟩
 refine Gets.iter (I:=fun q=>∃(c:Int) (i:Nat),q=(c,(i:Int))∧i≤s.2.2.2.2.2.2.1.length∧(s.2.2.2.2.2.2.1.length≤8→0≤c∧c≤(i:Int)*140737488355328∧∀k,k<i→((s.2.2.2.2.2.2.1.getD k []).length:Int)≤c))
  (μ:=fun q=>s.2.2.2.2.2.2.1.length - q.2.toNat) ⟨0,0,rfl,by omega,fun _=>⟨by omega,by omega,fun k hk=>by omega⟩⟩ (by simp <;> omega) ?_
 rintro rec _ ⟨c,i,rfl,hi,hc⟩ hrec;dsimp only;by_cases hil:i<s.2.2.2.2.2.2.1.length
 ·have hli:=h2 _ (Aj hil);rw[←a0c hil (d:=[])] at hli;rw[if_pos (by rw[decide_eq_true_eq];omega),a0a hil,Ac];refine Gets.iter (I:=fun q:Int=>∃k:Nat,q=(k:Int)∧k≤(s.2.2.2.2.2.2.1.getD i []).length) (μ:=fun q=>(s.2.2.2.2.2.2.1.getD i []).length - q.toNat) ⟨0,rfl,by omega⟩ (by simp only[Fc];omega) ?_;rintro rec2 _ ⟨k,rfl,hk⟩ hrec2;rw[a0a hil];by_cases hkl:k<(s.2.2.2.2.2.2.1.getD i []).length
  ·rw[if_pos (by rw[decide_eq_true_eq];omega),a0a hil,a0a hkl];refine Gets.dec (fun _=>Gets.some (no _)) fun _=>?_
   rw[a0b (by omega)];exact hrec2 _ ⟨k+1,rfl,by omega⟩ (by simp only[Ac];omega)
  ·rw[if_neg (by rw[decide_eq_true_eq];omega),a0b (by omega)];refine hrec _ ⟨_,i+1,rfl,by omega,fun h8=>?_⟩ (by simp only[Ac];omega);obtain⟨c1,c2,c3⟩:=hc h8;rw[a0d (by omega) (by omega)];refine⟨by omega,by omega,fun j hj=>?_⟩;by_cases hji:j<i
   ·have:=c3 j hji;omega
   ·obtain rfl:j=i:=by omega
    omega
 rw[if_neg (by rw[decide_eq_true_eq];omega)];obtain rfl:i=s.2.2.2.2.2.2.1.length:=by omega
 refine Gets.iter (I:=fun q:Int=>∃k:Nat,q=(k:Int)∧k≤s.2.2.2.2.2.1.length) (μ:=fun q=>s.2.2.2.2.2.1.length - q.toNat) ⟨0,rfl,by omega⟩ (by simp only[Fc];omega) ?_;rintro rec2 _ ⟨k,rfl,hk⟩ hrec2;by_cases hkl:k<s.2.2.2.2.2.1.length
 ·rw[if_pos (by rw[decide_eq_true_eq];omega),a0a hkl,a0a hkl];refine Gets.dec (fun _=>Gets.some (no _)) fun _=>?_
  rw[a0b (by omega)];exact hrec2 _ ⟨k+1,rfl,by omega⟩ (by simp only[Ac];omega)
 rw[if_neg (by rw[decide_eq_true_eq];omega)];refine Gets.dec (fun g1=>?_) fun _=>Gets.some (no _)
 refine Gets.dec (fun g2=>?_) fun _=>Gets.some (no _)
 refine Gets.dec (fun g3=>?_) fun _=>Gets.some (no _)
 refine Gets.dec (fun g4=>?_) fun _=>Gets.some (no _)
 refine Gets.some ⟨_,rfl,fun g5=>?_⟩;rw[decide_eq_true_eq] at g5;refine⟨by omega,by omega,by omega,by omega,fun l hl=>?_⟩;obtain⟨j,hj,rfl⟩:=B2 hl;have:=(hc (by omega)).2.2 j hj;rw[a0c hj] at this;omega
theorem g1f{s:Sg}(h:a5j s=true):∀l,l∈s.2.2.2.2.2.2.1→l.length≤16:=by
 intro l hl;obtain⟨a1,a2,a3,a4,a5,a6,a7,a8,a9,a10,a11,a12,a13⟩:=d8x h;obtain⟨i,hi,rfl⟩:=B2 hl;unfold a5j at h;simp only[Af,decide_eq_true_eq] at h;have h3:=AK.1 h.2.1 i (List.mem_range.2 hi);unfold c4m e7q at h3;simp only[Af,decide_eq_true_eq] at h3;have:=h3.2.1;rw[a0c hi] at this;omega
def e5n(s:Sg):Prop:=s.2.2.2.1.length<100000∧s.2.2.2.2.1.length<100000∧s.2.2.2.2.2.1.length<100000∧s.2.2.2.2.2.2.1.length<100000∧∀l,l∈s.2.2.2.2.2.2.1→l.length<100000
theorem b7x{s:Sg}(h:a5j s=true):e5n s:=by
 obtain⟨a1,a2,a3,a4,a5,a6,a7,a8,a9,a10,a11,a12,a13⟩:=d8x h;exact⟨by omega,by omega,by omega,by omega,fun l hl=>by have:=g1f h l hl;omega⟩
theorem d8o:e5n e7r:=⟨by decide,by decide,by decide,by decide,fun l hl=>by cases hl⟩
theorem d7f(b:List Int):e5n (outS (b5p b)).1:=by
 cases h:b5p b with
 |none=>exact d8o
 |some s=>exact b7x (d7c h).1
theorem f4i(v p sb:Int)(types enc:List Int)(cs:List (List Vl)):e5n (outS (d1v v p sb types enc cs)).1:=by
 unfold d1v;split
 ·rename_i h;exact b7x h.2.2.2
 ·exact d8o
theorem b9n{n:Nat}{s:Sg}(hn:100001≤n)(h:e5n s):a4d n (s,s,())=some ((true,()),()):=c9k hn h.1 h.2.1 h.2.2.1 h.2.2.2.1 h.2.2.2.2
theorem g3z:∀(cs:List (List Vl)) (l:List Vl),l∈cs→l.length≤(cs.map BS).sum
 |c::cs,l,h=>by
  rw[List.map_cons,List.sum_cons];rcases Az.1 h with rfl|h
  ·omega
  ·have:=g3z cs l h;omega
theorem e9i{v p a:Int}{b h:List Int}{s:Sg}(hb:a1h b)(hv:0≤v∧v≤255)(hp:0≤p∧p≤255)(ha:0≤a∧a≤255)(hh:a1h h)
  (hz:s.2.2.2.2.2.1.length≤140737488355328) (hcl:s.2.2.2.2.2.2.1.length≤140737488355328) (hl:∀l,l∈s.2.2.2.2.2.2.1→l.length≤140737488355328∧∀v,v∈l→okV v) :
  ∃n y,a5t n (b,v,p,a,s,h,())=some y∧y.1.1=true:=by
 have hro:=a0p;obtain⟨n,hn⟩:∃n,n=1000001+s.2.2.2.2.2.1.length+s.2.2.2.2.2.2.1.length+(s.2.2.2.2.2.2.1.map BS).sum:=⟨_,rfl⟩
 refine⟨n,?_⟩;suffices h':Gets (a5t n (b,v,p,a,s,h,())) fun y=>y.1.1=true from h'
 unfold a5t;rw[d4x (by omega)];simp only[Ab];rw[if_neg (by decide)];refine Gets.dec (fun _=>Gets.some rfl) fun h100=>?_
 refine Gets.bind (f4g ⟨by omega,hcl⟩ (fun l hm=>⟨by have:=g3z _ l hm;omega,(hl l hm).1⟩) ⟨by omega,hz⟩) ?_;rintro _ ⟨ok,rfl,hok⟩;cases ok with
 |false=>rw[if_pos (by rfl)];exact Gets.some rfl
 |true =>
 obtain⟨o1,o2,o3,o4,o5⟩:=hok rfl;rw[if_neg (by decide)];refine Gets.dec (fun _=>Gets.some rfl) fun h200=>?_
 refine Gets.bind (d4o hb (by omega) hv hp ha (by omega)) ?_;rintro _ ⟨m,rfl,hm,hml⟩;dsimp only;rw[if_neg (by decide)];have h2:([m,s]:List Sg).length=2:=rfl;rw[h2];have hx:∀i:Nat,i<2→∃x:Sg,([m,s]:List Sg).getD i ((0:Int),(0:Int),(0:Int),[],[],[],[],())=x∧x.2.2.2.1.length<100000∧x.2.2.2.2.2.2.1.length<100000∧∀l,l∈x.2.2.2.2.2.2.1→l.length<100000∧∀v,v∈l→okV v:=by
  intro i hi;have:i=0∨i=1:=by omega
  rcases this with rfl|rfl
  ·exact⟨m,rfl,(b7x hm).1,(b7x hm).2.2.2.1,fun l hq=>⟨by have:=(hml l hq).1;omega,(hml l hq).2⟩⟩
  ·exact⟨s,rfl,by omega,by omega,fun l hq=>⟨by have:=o5 l hq;omega,(hl l hq).2⟩⟩
 refine Gets.iter (I:=fun q:Int=>∃i:Nat,q=(i:Int)∧i≤2) (μ:=fun q=>2 - q.toNat) ⟨0,rfl,by omega⟩ (by simp only[Fc];omega) ?_;rintro rec _ ⟨i,rfl,hi⟩ hrec;by_cases hi2:i<2
 ·obtain⟨x,hxe,x1,x2,x3⟩:=hx i hi2;rw[if_pos (by rw[decide_eq_true_eq];omega),a0a hi2,Ac,hxe];rw[b3a (fun l hq=>(x3 l hq).1) (by omega),b3n (fun l hq=>(x3 l hq).1) (by omega),(b2s (fun l hq=>(x3 l hq).1) (fun l hq=>(x3 l hq).2) (by omega)).1,b8u (fun l hq=>(x3 l hq).1) (fun l hq=>(x3 l hq).2) (by omega),c6h x2 (fun l hq=>(x3 l hq).1) (by omega),d3g x1 x2 (fun l hq=>(x3 l hq).1) (by omega)];simp only[Ab];rw[if_neg (by simp),if_neg (by simp),if_neg (by simp),b9n (by omega) (f4i _ _ _ _ _ _)];simp only[Ab];rw[if_neg (by decide),a0b (by omega)];exact hrec _ ⟨i+1,rfl,by omega⟩ (by simp only[Ac];omega)
 rw[if_neg (by rw[decide_eq_true_eq];omega)];unfold b3z e0b;dsimp only;rw[if_pos (by omega)];simp only[Ab];have ht:a4i n (h,())=some (outS (b5p h),()):=b1k hh (by omega) (by omega);rw[ht,c3z hh (by omega) (by omega)];simp only[Ab];rw[if_pos (by simp),b9n (by omega) (d7f h)];simp only[Ab];unfold b9c g6c;simp only[Ab];rw[if_pos True.intro,if_pos (by simp),b0j n m (fun l hq=>(b7x hm).2.2.2.2 l hq)];simp only[Ab];have hm0:=(d8x hm).2.2.2.2.1;rw[a0s (by omega) (by omega)];exact Gets.some (decide_eq_true rfl)
end Go.Rb.R5

namespace Go.Rb.R5
open Go.Rb
theorem f2w{b:List Int}{s:Sg}(h:b5p b=some s):∀l,l∈s.2.2.2.2.2.2.1→∀v,v∈l→okV v:=by
 unfold b5p at h;split at h
 ·cases h
 ·split at h
  ·cases h
  ·rename_i cs hc;split at h
   ·cases h;intro l hl;obtain⟨c,hc',rfl⟩:=Bu.1 hl;exact((d5w _ hc).2 c hc').2
   ·cases h
theorem e5w{c:List Int}{k:Nat}{x:Int}(hc:a1h c)(hx:0≤x∧x≤255):a1h (c.set k x):=by
 intro y hy;rcases List.mem_or_eq_of_mem_set hy with h|rfl
 ·exact hc y h
 ·exact hx
theorem f9j{w:Int}{k:Nat}(hw:0≤w∧w≤65535)(hk:0<k):Aa.wrap w=w∧0≤w.tmod (k:Int)∧w.tmod (k:Int)<(k:Int) :=
 ⟨a0d (by omega) (by omega),Int.tmod_nonneg _ hw.1,Int.tmod_lt_of_pos _ (by omega)⟩
theorem d6t{v p a:Int}{b wh wi:List Int}(hb:a1h b)(hv:0≤v∧v≤255)(hp:0≤p∧p≤255)(ha:0≤a∧a≤255)(h1:wh.length=4)(h2:∀x,x∈wh→0≤x∧x≤65535)(h3:wi.length=4)(h4:∀x,x∈wi→0≤x∧x≤255) :
  ∃n y,a3s n (b,v,p,a,wh,wi,())=some y∧y.1.1=true:=by
 have hro:=a0p;obtain⟨n,hn⟩:∃n,n=1000001:=⟨_,rfl⟩
 refine⟨n,?_⟩;suffices h:Gets (a3s n (b,v,p,a,wh,wi,())) fun y=>y.1.1=true from h
 unfold a3s;rw[d4x (by omega)];simp only[Ab];rw[if_neg (by decide)];refine Gets.dec (fun _=>Gets.some rfl) fun h100=>?_
 refine Gets.bind (d4o hb (by omega) hv hp ha (by omega)) ?_;rintro _ ⟨m,rfl,hm,hml⟩;have hval:∀l,l∈m.2.2.2.2.2.2.1→∀v,v∈l→okV v:=fun l hl=>(hml l hl).2
 obtain⟨b1,b2,b3⟩:=d2k hm hval;dsimp only;rw[if_neg (by decide),b8u (fun l hl=>by have:=(hml l hl).1;omega) hval (by omega),if_pos hm];simp only[Ab];refine Gets.iter (I:=fun q=>∃(c:List Int) (i:Nat),q=(c,(i:Int))∧i≤4∧a1h c∧9≤c.length∧c.length<200000) (μ:=fun q=>4 - q.2.toNat) ⟨_,0,rfl,by omega,b1,b2,b3⟩ (by simp <;> omega) ?_;rintro rec _ ⟨c,i,rfl,hi,c1,c2,c3⟩ hrec;dsimp only;by_cases hi4:i<4
 ·have hw:=h2 _ (Aj (show i<wh.length by omega));have hx:=h4 _ (Aj (show i<wi.length by omega));rw[←a0c (show i<wh.length by omega) (d:=0)] at hw;rw[←a0c (show i<wi.length by omega) (d:=0)] at hx;obtain⟨w1,w2,w3⟩:=f9j (k:=c.length) hw (by omega);rw[if_pos (by rw[decide_eq_true_eq];omega),a0a (show i<wh.length by omega),if_neg (by omega),a0a (show i<wi.length by omega),Ac,w1,a0s w2 w3];have hy:IntKind.u8.wrap ((wi.getD i 0).tdiv 2)=(wi.getD i 0).tdiv 2∧0≤(wi.getD i 0).tdiv 2∧(wi.getD i 0).tdiv 2≤255:=by
   have e:(wi.getD i 0).tdiv 2=(wi.getD i 0) / 2:=Fa hx.1;rw[e];exact⟨a3u (by omega) (by omega),by omega,by omega⟩
  rw[hy.1];have d1:a1h (c.set ((wh.getD i 0).tmod (c.length:Int)).toNat ((wi.getD i 0).tdiv 2)):=e5w c1 hy.2;have d2:(c.set ((wh.getD i 0).tmod (c.length:Int)).toNat ((wi.getD i 0).tdiv 2)).length=c.length:=CB;generalize c.set ((wh.getD i 0).tmod (c.length:Int)).toNat ((wi.getD i 0).tdiv 2)=e at d1 d2 ⊢;have ht:a4i n (e,())=some (outS (b5p e),()):=b1k d1 (by omega) (by omega);rw[ht,c3z d1 (by omega) (by omega)];simp only[Ab];rw[if_neg (by simp),b9n (by omega) (d7f e)];simp only[Ab];rw[if_neg (by decide),a0b (by omega)];exact hrec _ ⟨e,i+1,rfl,by omega,d1,by omega,by omega⟩ (by simp only[Ac];omega)
 rw[if_neg (by rw[decide_eq_true_eq];omega)];exact Gets.some rfl
theorem e5k{a:Int}{b wh wi:List Int}(hb:a1h b)(ha:0≤a∧a≤255)(h1:wh.length=3)(h2:∀x,x∈wh→0≤x∧x≤65535)(h3:wi.length=3)(h4:∀x,x∈wi→0≤x∧x≤255) :
  ∃n y,a5e n (b,a,wh,wi,())=some y∧y.1.1=true:=by
 have hro:=a0p;obtain⟨n,hn⟩:∃n,n=1000001:=⟨_,rfl⟩
 refine⟨n,?_⟩;suffices h:Gets (a5e n (b,a,wh,wi,())) fun y=>y.1.1=true from h
 unfold a5e;rw[d4x (by omega)];simp only[Ab];rw[if_neg (by decide)];refine Gets.dec (fun _=>Gets.some rfl) fun h100=>?_
 refine Gets.bind (d4o hb (by omega) (by decide) (by decide) ha (by omega)) ?_;rintro _ ⟨m,rfl,hm,hml⟩;have hval:∀l,l∈m.2.2.2.2.2.2.1→∀v,v∈l→okV v:=fun l hl=>(hml l hl).2
 obtain⟨b1,b2,b3⟩:=d2k hm hval;dsimp only;rw[(b2s (fun l hl=>by have:=(hml l hl).1;omega) hval (by omega)).1,if_pos hm];simp only[Ab];rw[if_neg (by decide),if_neg (by rw[decide_eq_true_eq];omega)];refine Gets.iter (I:=fun q=>∃(c:List Int) (i:Nat),q=(c,(i:Int))∧i≤3∧a1h c∧9≤c.length∧c.length<200000) (μ:=fun q=>3 - q.2.toNat) ⟨_,0,rfl,by omega,b1,b2,b3⟩ (by simp <;> omega) ?_;rintro rec _ ⟨c,i,rfl,hi,c1,c2,c3⟩ hrec;dsimp only;by_cases hi4:i<3
 ·have hw:=h2 _ (Aj (show i<wh.length by omega));have hx:=h4 _ (Aj (show i<wi.length by omega));rw[←a0c (show i<wh.length by omega) (d:=0)] at hw;rw[←a0c (show i<wi.length by omega) (d:=0)] at hx;obtain⟨w1,w2,w3⟩:=f9j (k:=c.length) hw (by omega);rw[if_pos (by rw[decide_eq_true_eq];omega),a0a (show i<wh.length by omega),if_neg (by omega),a0a (show i<wi.length by omega),Ac,w1,a0s w2 w3];have d1:a1h (c.set ((wh.getD i 0).tmod (c.length:Int)).toNat (wi.getD i 0)):=e5w c1 hx;have d2:(c.set ((wh.getD i 0).tmod (c.length:Int)).toNat (wi.getD i 0)).length=c.length:=CB;generalize c.set ((wh.getD i 0).tmod (c.length:Int)).toNat (wi.getD i 0)=e at d1 d2 ⊢;have ht:a4i n (e,())=some (outS (b5p e),()):=b1k d1 (by omega) (by omega);have hnext:Gets (rec (e,Aa.wrap ((i:Int)+1))) fun y=>y.1.1=true:=by
   rw[a0b (by omega)];exact hrec _ ⟨e,i+1,rfl,by omega,d1,by omega,by omega⟩ (by simp only[Ac];omega)
  cases hs:b5p e with
  |none =>
   have ht':a4i n (e,())=some ((e7r,false,()),()):=by rw[ht,hs];rfl
   rw[ht'];simp only[Ab];exact hnext
  |some s =>
   obtain⟨s1,s2⟩:=d7c hs;have s3:=f2w hs;have s4:=(b7x s1).2.2.2.2;have ht':a4i n (e,())=some ((s,true,()),()):=by rw[ht,hs];rfl
   rw[ht'];simp only[Ab];rw[if_neg (by decide),b3a s4 (by omega),b3n s4 (by omega),(b2s s4 s3 (by omega)).1,if_pos s1,s1];simp only[Ab];rw[if_neg (by decide),if_neg (by decide),s2,if_neg (by simp)];exact hnext
 rw[if_neg (by rw[decide_eq_true_eq];omega)];exact Gets.some rfl
end Go.Rb.R5
