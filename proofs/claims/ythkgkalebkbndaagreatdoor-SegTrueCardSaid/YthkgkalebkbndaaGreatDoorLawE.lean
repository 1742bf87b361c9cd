/- Plain law: the document's answer on a column by a list of its values, put and taken. Own work. -/
import Derived.Test.YthkgkalebkbndaaGreatDoorLawD
import Derived.Test.YthkgkalebkbndaaGreatDoorRbJ
set_option autoImplicit false
set_option linter.unusedVariables false
set_option linter.unusedSimpArgs false
open BitVec renaming eq_of_toNat_eq->Fm,ofInt->AS,ofNat->GJ,toNat_ofInt->FK,toNat_ofNat->CX
open Bool renaming and_eq_true->Af,false_and->BY,false_eq_true->AE,not_eq_true'->A8,not_false->DM,not_true->Br,or_eq_false_iff->FJ,or_eq_true->B6,true_and->Bd
open Eq renaming trans->DY
open Go.IntKind renaming i16->D2,i64->Aa,u64->Ae,u8->Ah
open Int renaming toNat_natCast->Ac,toNat_of_nonneg->A2
open List renaming all_cons->BD,all_eq_true->AK,any_eq_true->G0,append_assoc->Al,append_nil->A3,cons_append->AT,countP->CT,countP_cons->EE,countP_le_length->Cs,drop->ER,drop_drop->Cb,drop_eq_getElem_cons->A7,drop_eq_nil_iff->C0,drop_left'->EU,drop_length->EM,drop_zero->Dk,flatten_append->DP,foldl_append->Cy,getD_cons_zero->FU,getElem_drop->Ec,getElem_mem->Aj,length->BS,length_append->Ap,length_cons->A6,length_drop->AM,length_map->Bb,length_singleton->AZ,length_take->AC,mem_append->Ao,mem_cons_of_mem->Ar,mem_of_mem_drop->Bf,mem_of_mem_take->Bk,range->AA,range_succ->G5,replicate->Ag,replicate_succ->Cf,take->BO,take_left'->DK,take_length->Aq,take_of_length_le->AN,take_succ_cons->BX,take_succ_eq_append_getElem->Am
open Nat renaming add_comm->D0,le_refl->Av,lt_or_ge->AY,shiftLeft_eq->G4,sub_self->CV
open Option renaming bind_some->Ab
open Option.some renaming inj->Ai,injEq->Ad
open Prod.mk renaming injEq->Ak
namespace Go.Rb.R5
open Go.Rb
theorem g6b(x y:Vl):((decide (x.1=y.1))&&((decide (x.2.1=y.2.1))&&(decide (x.2.2.1=y.2.2.1))))=decide (x=y):=by
 obtain⟨a,b,c,u⟩:=x;obtain⟨a',b',c',u'⟩:=y;by_cases h1:a=a' <;> by_cases h2:b=b' <;> by_cases h3:c=c' <;> simp[h1,h2,h3]
theorem c8o{m:Nat}(hm:m<1000000):Ae.wrap (Aa.wrap ((if(1:Int)≤(m:Int) then(m:Int) else(1:Int)) - 1))=((m - 1:Nat):Int):=by
 have e:(if(1:Int)≤(m:Int) then(m:Int) else(1:Int)) - (1:Int)=((m - 1:Nat):Int):=by split <;> omega
 rw[e,a0q (by omega),a2f (by omega)]
theorem e8a{n:Nat}{t:Int}{l:List Vl}(hv:∀v,v∈l→okV v)(hr:a1i t l=true)(hl:l.length≤1000)(hn:2000≤n) :
  b8r n (l,())=some ((b7v t l,()),()):=by
 have hro:=a0p;obtain⟨ht1,ht4,hrr⟩:=a2m hr;have hR:=b4p hr hv;have hmem:=fun v=>b4c (a7q t) hrr v
 have hris:=c4w (a7q t) hrr;have hsm:=a9w hr;have hdl:(a9a t l).length≤l.length:=c3u (ltV t) l;unfold b8r b7v;dsimp only;rw[e0j (by omega) hrr (by omega) (by omega)];simp only[Ab];have hplen:=a2c (t:=t) l;have hpl:∀i (hi:i<l.length),(a1w t l)[i]'(by rw[hplen];exact hi)=((posS (a9a t l) l[i]:Nat):Int):=by
  intro i hi;simp[a1w]
 obtain⟨pl,hpd⟩:∃pl,a1w t l=pl:=⟨_,rfl⟩
 simp only[hpd] at hsm hpl hplen ⊢;obtain⟨D,hD⟩:∃D,a9a t l=D:=⟨_,rfl⟩
 have hris':b1c (ltV t) D:=by rw[←hD];exact hris
 have hmem':∀v,v∈D↔v∈l:=by rw[←hD];exact hmem
 rw[hD] at hR hsm hdl ⊢;simp only[hD] at hpl;have hb10:blen (D.length - 1)≤10:=b8j (by omega);have hfl:=a1t hR;have hput:=a3r (v:=D.length) (by omega);rw[a2f (by omega),a6z (by omega) (by omega)];simp only[Ab];refine a0i (st:=fun i=>(putN D.length++(D.take i).flatMap oneV,(i:Int))) D.length (by simp) ?_ ?_ (by omega)
 ·intro rec i hi;have hRi:=hR _ (Aj hi);have h1:=c3f hRi.1 hRi.2;have h2:((D.take i).flatMap oneV).length≤21*i:=by
   have:=a1t (d:=D.take i) fun v hv=>hR v (Bk hv)
   rw[AC,Nat.min_eq_left (by omega)] at this;exact this
  dsimp only;rw[if_pos (by simp;omega),a0a hi,Ac,a0c hi,c7v hRi.1 hRi.2 (by omega)];simp only[Ab];rw[if_pos (by simp only[Ap];omega),a0b (by omega),b6r _ hi,Al]
 ·intro rec;dsimp only;rw[if_neg (by simp),Aq];refine a0i (st:=fun i=>(pl.take i,(i:Int))) l.length (by simp) ?_ ?_ (by omega)
  ·intro rec2 i hi;have hpi:i<pl.length:=by omega
   have hin:l[i]∈D:=(hmem' _).2 (Aj hi);have hp:=c0x hin;dsimp only;rw[if_pos (by simp;omega)];refine a0i (st:=fun k=>(pl.take i++(if posS D l[i]<k then[((posS D l[i]:Nat):Int)] else[]),(k:Int))) D.length (by simp) ?_ ?_ (by omega)
   ·intro rec3 k hk;have hiff:=g1s (a7q t) (fun x hx=>(hR x hx).1) hris' hin hk;dsimp only;rw[if_pos (by simp;omega),a0a hk,a0a hi,Ac,Ac,a0c hk,a0c hi,g6b];by_cases he:k=posS D l[i]
    ·rw[if_pos (by simpa using hiff.2 he),if_neg (c:=posS D l[i]<k) (by omega),if_pos (by simp;omega),a2f (by omega),a0b (by omega),if_pos (c:=posS D l[i]<k+1) (by omega)];simp[he]
    ·rw[if_neg (by simpa using fun h=>he (hiff.1 h)),a0b (by omega)];congr 2;congr 1;by_cases h:posS D l[i]<k
     ·rw[if_pos h,if_pos (by omega)]
     ·rw[if_neg h,if_neg (by omega)]
   ·intro rec3;dsimp only;rw[if_neg (by simp),if_pos hp,a0b (by omega),Am hpi,hpl i hi]
  ·intro rec2;dsimp only;have hnum:Nums pl:=fun x hx=>by
    have h1:=hsm x hx;have h2:2 ^ blen (D.length - 1)≤2 ^ 10:=Nat.pow_le_pow_right (by omega) hb10;omega
   have htake:pl.take l.length=pl:=by rw[←hplen,Aq]
   rw[if_neg (by simp),c8o (by omega),b6d (by omega) (by omega)];simp only[Ab];rw[htake,b2j hnum (by omega) (by omega) (by omega),if_pos ⟨by omega,b7p.2 fun x hx=>(hsm x hx).2⟩];simp only[Ab];have hmul:l.length*blen (D.length - 1)≤1000*10:=Nat.mul_le_mul hl hb10;rw[if_pos (by simp only[Ap,a4b,hplen];omega),Al]
def OneP(t:Int)(b:List Int)(y:(Vl×Int×Bool×Unit)×Unit):Prop :=
 match a3e t b with
 |some (v,k)=>y=((v,(k:Int),mayV v,()),())
 |none=>∃v k,y=((v,k,false,()),())
theorem a9p{n:Nat}{t:Int}{b:List Int}(ht:1≤t∧t≤4)(hb:a1h b)(hl:b.length<1000000)(hn:13≤n):Gets (a7n n (t,b,())) (OneP t b):=by
 have hT:isT t=true:=d2n.2 ht;unfold a7n;dsimp only;cases b with
 |nil =>
  rw[if_pos (by simp)];refine Gets.some ?_;unfold OneP a3e;split
  ·rename_i h;split at h
   ·exact absurd h (by simp[a3i])
   ·exact absurd h (by simp)
  ·exact⟨_,_,rfl⟩
 |cons c r =>
  have hc:=hb c (by simp);have e0:(c::r).getD ((0:Int)).toNat (0:Int)=c:=rfl;have fin:∀(v:Vl) (k:Int),Gets ((a4y n (v,())).bind fun y1=>(if y1.1.1=true then((a3h n (t,())).bind fun y2=>(some ((v,k,y2.1.1,()),()))) else(some ((v,k,false,()),())))) (fun y=>y=((v,k,mayV v,()),())):=by
   intro v k;rw[b4i,b0r];simp only[Ab];rw[hT];cases mayV v with
   |true=>exact Gets.some rfl
   |false=>exact Gets.some rfl
  rw[if_neg (by simp;omega)];by_cases h3:t=3
  ·rw[if_pos (by simpa using h3)];refine Gets.atI (by omega) (by simp) ?_;rw[e0,a0d (x:=c) (by omega) (by omega)];refine(fin _ _).mono fun y hy=>?_
   unfold OneP a3e;rw[if_neg (by omega)];dsimp only;rw[if_pos h3];exact hy
  ·rw[if_neg (by simpa using h3)];by_cases h4:t=4
   ·rw[if_pos (by simpa using h4)];refine Gets.atI (by omega) (by simp) ?_;rw[e0,a0d (x:=c) (by omega) (by omega),a0d (x:=1+c) (by omega) (by omega)];have e1:(1+c).toNat=1+c.toNat:=by omega
    by_cases h:1+c.toNat≤(c::r).length
    ·rw[if_neg (by simp at h ⊢;omega),if_pos (by simp at h ⊢;omega)];refine(fin _ _).mono fun y hy=>?_
     unfold OneP a3e;rw[if_neg (by omega)];dsimp only;rw[if_neg h3,if_pos h,←e1];dsimp only;rw[hy,show(1+c)=(((1+c).toNat:Nat):Int) by omega];rfl
    ·rw[if_pos (by simp at h ⊢;omega)];refine Gets.some ?_;unfold OneP a3e;rw[if_neg (by omega)];dsimp only;rw[if_neg h3,if_neg h];exact⟨_,_,rfl⟩
   ·rw[if_neg (by simpa using h4),a5v hb hl hn];simp only[Ab];have hfv:a3e t (c::r)=(match a3i (c::r) with|some (u,k)=>some ((t,zag u,[],()),k)|none=>none):=by
     unfold a3e;rw[if_pos ⟨h3,h4⟩];rfl
    unfold OneP;rw[hfv];cases htk:a3i (c::r) with
    |none =>
     dsimp only;rw[if_pos (by simp)];exact Gets.some ⟨_,_,rfl⟩
    |some q =>
     obtain⟨u,k⟩:=q;dsimp only;rw[if_neg (by simp),c8q (a2g hb htk).1];simp only[Ab];exact fin _ _
def RefP(t m:Int)(b:List Int)(y:(List Vl×Bool×Unit)×Unit):Prop:=(∃l,y=((l,true,()),())∧(∀v,v∈l→okV v)∧l.length≤1000)∨y=(([],false,()),())
theorem c9b{n:Nat}{t m:Int}{b:List Int}(ht:1≤t∧t≤4)(hm:0≤m∧m≤1000)(hb:a1h b)(hl:b.length<1000000)(hn:70000≤n) :
  Gets (a6k n (t,m,b,())) (RefP t m b):=by
 have hro:=a0p;have bad:Gets (some ((([]:List Vl),false,()),())) (RefP t m b):=Gets.some (.inr rfl);unfold a6k;dsimp only;rw[a5v hb hl (by omega)];simp only[Ab];obtain⟨M,rfl⟩:∃M:Nat,m=(M:Int):=⟨_,(A2 (by omega)).symm⟩
 cases htk:a3i b with
 |none =>
  dsimp only;rw[if_pos (by simp)];exact bad
 |some r =>
  obtain⟨u,k⟩:=r;have hT:=a2g hb htk;dsimp only;rw[if_neg (by simp),a2f (by omega)];by_cases h3:M<u
  ·rw[if_pos (by simp;omega)];exact bad
  rw[if_neg (by simp;omega),if_pos (by omega)];refine Gets.iter (I:=fun s:List Int×List Vl×Int=>∃(rest:List Int) (all:List Vl),s=(rest,all,(all.length:Int))∧a1h rest∧rest.length<1000000∧all.length≤u∧∀v,v∈all→okV v)
   (μ:=fun s=>u - s.2.1.length) ⟨_,[],rfl,?_,?_,by simp,by simp⟩ (by simp;omega) ?_
  ·simp only[Ac,Aq];exact hb.drop _
  ·simp only[Ac,Aq,AM];omega
  rintro rec _ ⟨rest,all,rfl,g1,g2,g3,g4⟩ hrec;dsimp only;by_cases h4:all.length<u
  ·rw[if_pos (by simp;omega)];refine Gets.bind (a9p (n:=n) ht g1 g2 (by omega)) fun y hy=>?_
   unfold OneP at hy;cases hf:a3e t rest with
   |none =>
    rw[hf] at hy;obtain⟨v,k,rfl⟩:=hy;dsimp only;rw[if_pos (by simp)];exact bad
   |some r =>
    obtain⟨v,k'⟩:=r;rw[hf] at hy;subst hy;obtain⟨q1,q2,q3,q4⟩:=b7k (by omega) g1 hf;dsimp only;cases hmay:mayV v with
    |false=>rw[if_pos (by simp)];exact bad
    |true =>
     rw[if_neg (by simp),if_pos (by simp;omega),if_pos (by omega)];refine hrec _ ⟨ER ((k':Nat):Int).toNat (BO ((rest.length:Nat):Int).toNat rest),all++[v],?_,?_,?_,by simp;omega,?_⟩ (by simp;omega)
     ·rw[show Ae.wrap ((all.length:Int)+1)=(((all++[v]).length:Nat):Int) by simp;rw[c6c (by omega) (by omega)]]
     ·simp only[Ac,Aq];exact g1.drop _
     ·simp only[Ac,Aq,AM];omega
     ·intro x hx;rcases Ao.1 hx with hx|hx
      ·exact g4 x hx
      ·simp at hx;subst hx;exact q1
  ·rw[if_neg (by simp;omega),c8o (by omega),b6d (by omega) (by omega)];simp only[Ab];rw[b0o g1 g2 (by omega)];simp only[Ab];unfold b5s;split
   ·rename_i hok;dsimp only;rw[if_neg (by simp)];have hnum:=b4f (b:=rest) (n:=((M:Int)).toNat) (w:=(((blen (all.length - 1):Nat):Int)).toNat) (by omega);have hplen:=b1e rest ((M:Int)).toNat (((blen (all.length - 1):Nat):Int)).toNat;generalize b1n rest ((M:Int)).toNat (((blen (all.length - 1):Nat):Int)).toNat=places at hnum hplen ⊢;rw[Ac] at hplen;refine Gets.iter (I:=fun s:List Vl×Int=>s.2=(s.1.length:Int)∧s.1.length≤M∧∀v,v∈s.1→okV v) (μ:=fun s=>M - s.1.length) ⟨by simp,by simp,by simp⟩ (by simp;omega) ?_;rintro rec2 ⟨l,i⟩ ⟨k1,k2,k3⟩ hrec2;dsimp only at k1 k2 k3;subst k1;dsimp only;by_cases h5:l.length<M
    ·have h5':l.length<places.length:=by omega
     have hx:=hnum _ (Aj h5');rw[if_pos (by simp;omega),a0a h5',Ac,a0c h5',a2f (by omega)];obtain⟨p,hp⟩:∃p:Nat,places[l.length]=(p:Int):=⟨_,(A2 hx.1).symm⟩
     rw[hp];by_cases h6:all.length≤p
     ·rw[if_pos (by simp;omega)];exact bad
     ·have hpl:p<all.length:=by omega
      rw[if_neg (by simp;omega),a0a h5',a0a hpl,Ac,a0c hpl,if_pos (by simp;omega),a0b (by omega)];refine hrec2 _ ⟨by simp,by simp;omega,fun x hx=>?_⟩ (by simp;omega);rcases Ao.1 hx with hx|hx
      ·exact k3 x hx
      ·simp at hx;subst hx;exact g4 _ (Aj hpl)
    ·rw[if_neg (by simp;omega)];exact Gets.some (.inl ⟨l,rfl,k3,by omega⟩)
   ·dsimp only;rw[if_pos (by simp)];exact bad
end Go.Rb.R5

namespace Go.Rb.R5
open Go.Rb
def a4n(e t m:Int)(b:List Int)(l:List Vl):Prop:=0≤m∧m≤1000∧(l.length:Int)=m∧a6w e t=true∧a1i t l=true∧(∀v,v∈l→okV v)∧encB e t l=b
theorem a4n.uniq{e t m:Int}{b:List Int}{l l':List Vl}(h:a4n e t m b l)(h':a4n e t m b l'):l=l':=by
 obtain⟨_,_,g3,g4,g5,g6,g7⟩:=h;obtain⟨_,_,k3,k4,k5,k6,k7⟩:=h';exact(c4p g4 g5 g6 k5 k6 (by omega) (s:=[]) (by rw[A3,g7,k7])).1
def e9f(e t m:Int)(b:List Int)(y:(List Vl×Bool×Unit)×Unit):Prop:=(∃l,y=((l,true,()),())∧a4n e t m b l)∨(y=(([],false,()),())∧∀l,¬a4n e t m b l)
def e6q(err:List Int→UV)(e t m:Int)(b:List Int)(y:(List Vl×UV×Unit)×Unit):Prop:=(∃l,y=((l,UV.nil,()),())∧a4n e t m b l)∨((∃msg,y=(([],err msg,()),()))∧∀l,¬a4n e t m b l)
theorem e6x{t m:Int}{b:List Int}{l:List Vl}(h:a4n 1 t m b l):0≤m∧m≤1000∧(l.length:Int)=m∧a1i t l=true∧(∀v,v∈l→okV v)∧l.flatMap oneV=b:=by
 obtain⟨g1,g2,g3,g4,g5,g6,g7⟩:=h;exact⟨g1,g2,g3,g5,g6,by simpa[encB] using g7⟩
theorem e2k{t m:Int}{b:List Int}{l:List Vl}(h:a4n 2 t m b l):0≤m∧m≤1000∧(l.length:Int)=m∧a1i t l=true∧(∀v,v∈l→okV v)∧rleB l=b:=by
 obtain⟨g1,g2,g3,g4,g5,g6,g7⟩:=h;exact⟨g1,g2,g3,g5,g6,by simpa[encB] using g7⟩
theorem g7r{t m:Int}{b:List Int}{l:List Vl}:a4n 3 t m b l↔Good t m b l:=by
 constructor
 ·rintro⟨g1,g2,g3,g4,g5,g6,g7⟩;exact⟨g1,g2,g3,g5,g6,by simpa[encB] using g7⟩
 ·rintro⟨g1,g2,g3,g5,g6,g7⟩;exact⟨g1,g2,g3,by simp[a6w],g5,g6,by simpa[encB] using g7⟩
theorem e6u{t m:Int}{b:List Int}{l:List Vl}(h:a4n 4 t m b l):0≤m∧m≤1000∧(l.length:Int)=m∧t≤3∧a1i t l=true∧(∀v,v∈l→okV v)∧c0g l=b:=by
 obtain⟨g1,g2,g3,g4,g5,g6,g7⟩:=h;exact⟨g1,g2,g3,by simpa[a6w] using g4,g5,g6,by simpa[encB] using g7⟩
theorem e1g{t m:Int}{b:List Int}{l:List Vl}(h:a4n 5 t m b l):0≤m∧m≤1000∧(l.length:Int)=m∧t≤2∧a1i t l=true∧(∀v,v∈l→okV v)∧a6a 0 l=b:=by
 obtain⟨g1,g2,g3,g4,g5,g6,g7⟩:=h;exact⟨g1,g2,g3,by simpa[a6w] using g4,g5,g6,by simpa[encB] using g7⟩
theorem b7n{t:Int}{v:Vl}{s:List Int}{k:Nat}{v':Vl}(h:a0j t v=true)(hv:okV v)(hf:a3e t (oneV v++s)=some (v',k)):v'=v∧(oneV v++s).drop k=s:=by
 rw[b1t h hv s] at hf;simp only[Ad,Ak] at hf;obtain⟨rfl,rfl⟩:=hf;exact⟨rfl,by simp⟩
theorem c8v{n:Nat}{t m:Int}{b:List Int}(ht:-9223372036854775808≤t∧t≤9223372036854775807)(hb:a1h b)(hl:b.length<1000000)(hn:70000≤n) :
  Gets (b6p n (t,m,b,())) (e9f 1 t m b):=by
 have hro:=a0p;have key:Gets (b6e n (t,m,b,())) (e6q errA 1 t m b):=by
  have bad:∀msg,(∀l,¬a4n 1 t m b l)→Gets (some ((([]:List Vl),errA msg,()),())) (e6q errA 1 t m b):=fun msg h=>Gets.some (.inr ⟨⟨msg,rfl⟩,h⟩)
  unfold b6e;dsimp only;by_cases h1:m<0
  ·rw[if_pos (by simpa using h1)];exact bad _ fun l hg=>by have:=hg.1;omega
  rw[if_neg (by simpa using h1)];by_cases h2:1000<m
  ·rw[if_pos (by simpa using h2)];exact bad _ fun l hg=>by have:=hg.2.1;omega
  rw[if_neg (by simpa using h2)];obtain⟨M,rfl⟩:∃M:Nat,m=(M:Int):=⟨_,(A2 (by omega)).symm⟩
  refine Gets.iter (I:=fun s:List Vl×List Int×Int=>∃(vs:List Vl) (rest:List Int),s=(vs,rest,(vs.length:Int))∧vs.length≤M∧a1h rest∧rest.length<1000000∧(∀v,v∈vs→okV v)∧∀l,a4n 1 t (M:Int) b l→vs=l.take vs.length∧rest=(l.drop vs.length).flatMap oneV)
   (μ:=fun s=>M - s.1.length) ⟨[],b,rfl,by simp,hb,hl,by simp,fun l hg=>⟨by simp,by simpa using(e6x hg).2.2.2.2.2.symm⟩⟩ (by simp <;> omega) ?_
  rintro rec _ ⟨vs,rest,rfl,g1,g2,g3,g4,g5⟩ hrec;dsimp only;by_cases h3:vs.length<M
  ·rw[if_pos (by simp <;> omega)];refine Gets.bind (c6d (n:=n) (t:=t) g2 g3 (by omega)) fun y hy=>?_
   have hgood:∀l,a4n 1 t (M:Int) b l→∃v r,rest=oneV v++r.flatMap oneV∧a0j t v=true∧okV v∧l.drop vs.length=v::r:=by
    intro l hg;obtain⟨_,e2⟩:=g5 l hg;obtain⟨_,_,q3,q4,q5,_⟩:=e6x hg;have hlt:vs.length<l.length:=by omega
    have e3:=A7 hlt;rw[e3,List.flatMap_cons] at e2;exact⟨l[vs.length],_,e2,(a2m q4).2.2 _ (Aj _),q5 _ (Aj _),e3⟩
   unfold c0p at hy;cases hf:a3e t rest with
   |none =>
    rw[hf] at hy;obtain⟨v,msg,rfl⟩:=hy;dsimp only;rw[if_pos (by simp[errA])];refine bad _ fun l hg=>?_
    obtain⟨v,r,e1,e2,e3,_⟩:=hgood l hg;rw[e1,b1t e2 e3] at hf;cases hf
   |some q =>
    obtain⟨v,k⟩:=q;rw[hf] at hy;subst hy;obtain⟨q1,q2,q3,q4⟩:=b7k ht g2 hf;dsimp only;rw[if_neg (by simp),if_pos (by simp <;> omega),if_pos (by omega)];simp only[Ac,Aq];rw[a0b (by omega)];refine hrec _ ⟨vs++[v],rest.drop k,by simp,by simp <;> omega,g2.drop _,by simp <;> omega,?_,fun l hg=>?_⟩ (by simp <;> omega)
    ·intro x hx;rcases Ao.1 hx with hx|hx
     ·exact g4 x hx
     ·simp at hx;subst hx;exact q1
    ·obtain⟨v',r,e1,e2,e3,e4⟩:=hgood l hg;obtain⟨e5,_⟩:=g5 l hg;rw[e1] at hf;obtain⟨rfl,e6⟩:=b7n e2 e3 hf;have hlt:vs.length<l.length:=by
      rcases AY vs.length l.length with h|h
      ·exact h
      ·rw[C0.2 h] at e4;cases e4
     have e7:=A7 hlt;rw[e4] at e7;obtain⟨e8,e9⟩:=List.cons.inj e7;rw[e1,e6,Ap,AZ,←e9,Am hlt,←e5,e8];exact⟨rfl,rfl⟩
  ·have hM:vs.length=M:=by omega
   rw[if_neg (by simp <;> omega),c4a g4 (by omega) (by omega)];simp only[Ab];have huniq:∀l,a4n 1 t (M:Int) b l→vs=l:=by
    intro l hg;have e1:=(g5 l hg).1;have q3:=(e6x hg).2.2.1;rwa [AN (by omega)] at e1
   cases hr:a1i t vs with
   |false =>
    rw[if_pos (by simp)];refine bad _ fun l hg=>?_
    have:=huniq l hg;subst this;rw[(e6x hg).2.2.2.1] at hr;cases hr
   |true =>
    rw[if_neg (by simp)];unfold a0k;simp only[Ab,if_true];by_cases hq:vs.flatMap oneV=b
    ·rw[if_neg (by simp[hq])];exact Gets.some (.inl ⟨vs,rfl,by omega,by omega,by omega,by simp[a6w],hr,g4,by simpa[encB] using hq⟩)
    ·rw[if_pos (by simp[hq])];refine bad _ fun l hg=>?_
     have:=huniq l hg;subst this;exact hq (e6x hg).2.2.2.2.2
 unfold b6p;refine Gets.bind key ?_;rintro y (⟨l,rfl,hg⟩|⟨⟨msg,rfl⟩,hno⟩)
 ·exact Gets.some (.inl ⟨l,rfl,hg⟩)
 ·exact Gets.some (.inr ⟨rfl,hno⟩)
theorem d1t{n:Nat}{t m:Int}{b:List Int}(ht:-9223372036854775808≤t∧t≤9223372036854775807)(hb:a1h b)(hl:b.length<1000000)(hn:1000000≤n) :
  Gets (c2u n (t,m,b,())) (e9f 2 t m b):=by
 have hro:=a0p;have key:Gets (c3d n (t,m,b,())) (e6q errB 2 t m b):=by
  have bad:∀msg,(∀l,¬a4n 2 t m b l)→Gets (some ((([]:List Vl),errB msg,()),())) (e6q errB 2 t m b):=fun msg h=>Gets.some (.inr ⟨⟨msg,rfl⟩,h⟩)
  unfold c3d;dsimp only;by_cases h1:m<0
  ·rw[if_pos (by simpa using h1)];exact bad _ fun l hg=>by have:=hg.1;omega
  rw[if_neg (by simpa using h1)];by_cases h2:1000<m
  ·rw[if_pos (by simpa using h2)];exact bad _ fun l hg=>by have:=hg.2.1;omega
  rw[if_neg (by simpa using h2)];obtain⟨M,rfl⟩:∃M:Nat,m=(M:Int):=⟨_,(A2 (by omega)).symm⟩
  refine Gets.iter (I:=fun s:List Vl×List Int=>∃(vs:List Vl) (rest:List Int),s=(vs,rest)∧vs.length≤M∧a1h rest∧rest.length<1000000∧(∀v,v∈vs→okV v)∧∀l,a4n 2 t (M:Int) b l→vs=l.take vs.length∧rest=rleB (l.drop vs.length))
   (μ:=fun s=>s.2.length) ⟨[],b,rfl,by simp,hb,hl,by simp,fun l hg=>⟨by simp,by simpa using(e2k hg).2.2.2.2.2.symm⟩⟩ (by simp <;> omega) ?_
  rintro rec _ ⟨vs,rest,rfl,g1,g2,g3,g4,g5⟩ hrec;dsimp only;by_cases h3:0<rest.length
  ·rw[if_pos (by simp <;> omega),a4s g2 g3 (by omega)];simp only[Ab];have hgood:∀l,a4n 2 t (M:Int) b l→∃v r,rest=putN (1+runN v r)++(oneV v++rleB (r.drop (runN v r)))∧a0j t v=true∧okV v∧l.drop vs.length=v::r∧vs.length+(1+runN v r)≤M:=by
    intro l hg;obtain⟨_,e2⟩:=g5 l hg;obtain⟨_,_,q3,q4,q5,_⟩:=e2k hg;have hlt:vs.length<l.length:=by
     rcases AY vs.length l.length with h|h
     ·exact h
     ·rw[C0.2 h,c3i] at e2;rw[e2] at h3;simp at h3
    have e3:=A7 hlt;rw[e3,b0v] at e2;have e4:=c8m l[vs.length] (l.drop (vs.length+1));have e5:(l.drop (vs.length+1)).length=l.length - (vs.length+1):=by simp
    exact⟨l[vs.length],_,e2,(a2m q4).2.2 _ (Aj _),q5 _ (Aj _),e3,by omega⟩
   have hsz:∀{v r},vs.length+(1+runN v r)≤M→1+runN v r<18446744073709551616:=by intro v r h;omega
   cases htk:a3i rest with
   |none =>
    dsimp only;rw[if_pos (by simp)];refine bad _ fun l hg=>?_
    obtain⟨v,r,e1,_,_,_,e5⟩:=hgood l hg;rw[e1,a5b _ _ (hsz e5)] at htk;cases htk
   |some q =>
    obtain⟨u,k⟩:=q;have hT:=a2g g2 htk;have hK:=b1y g2 htk;have hk1:=b6o u;dsimp only;have hw:Ae.wrap (Aa.wrap ((M:Int) - (vs.length:Int)))=((M - vs.length:Nat):Int):=by
     rw[show((M:Int) - (vs.length:Int))=((M - vs.length:Nat):Int) by omega,a0q (by omega),a2f (by omega)]
    rw[if_neg (by simp),hw];by_cases h4:M - vs.length<u
    ·rw[if_pos (by simp <;> omega)];refine bad _ fun l hg=>?_
     obtain⟨v,r,e1,_,_,_,e5⟩:=hgood l hg;rw[e1,a5b _ _ (hsz e5)] at htk;simp only[Ad,Ak] at htk;omega
    ·rw[if_neg (by simp <;> omega),if_pos (by omega)];simp only[Ac,Aq];refine Gets.bind (d0v (n:=n) (t:=t) (g2.drop k) (by simp <;> omega) (by omega)) fun y hy=>?_
     have hgood2:∀l,a4n 2 t (M:Int) b l→∃v r,u=1+runN v r∧rest.drop k=oneV v++rleB (r.drop (runN v r))∧a0j t v=true∧okV v∧l.drop vs.length=v::r:=by
      intro l hg;obtain⟨v,r,e1,e2,e3,e4,e5⟩:=hgood l hg;have htk':=htk;rw[e1,a5b _ _ (hsz e5)] at htk';simp only[Ad,Ak] at htk';refine⟨v,r,htk'.1.symm,?_,e2,e3,e4⟩;rw[e1,←htk'.2];simp
     unfold c1g at hy;cases hf:a3e t (rest.drop k) with
     |none =>
      rw[hf] at hy;obtain⟨v,msg,rfl⟩:=hy;dsimp only;rw[if_pos (by simp[errB])];refine bad _ fun l hg=>?_
      obtain⟨v,r,_,e1,e2,e3,_⟩:=hgood2 l hg;rw[e1,b1t e2 e3] at hf;cases hf
     |some q =>
      obtain⟨v,k2⟩:=q;rw[hf] at hy;subst hy;obtain⟨q1,q2,q3,q4⟩:=b7k ht (g2.drop k) hf;rw[AM] at q3;dsimp only;rw[if_neg (by simp),a0q (x:=u) (by omega),e8u (by omega) (by omega)];simp only[Ab];have hw2:Aa.wrap ((k:Int)+(k2:Int))=((k+k2:Nat):Int):=by
       rw[show((k:Int)+(k2:Int))=((k+k2:Nat):Int) by omega,a0q (by omega)]
      rw[if_pos (by simp <;> omega),hw2,if_pos (by omega)];simp only[Ac];refine hrec _ ⟨vs++Ag u v,rest.drop (k+k2),rfl,by simp <;> omega,g2.drop _,by simp <;> omega,?_,fun l hg=>?_⟩ (by simp <;> omega)
      ·intro x hx;rcases Ao.1 hx with hx|hx
       ·exact g4 x hx
       ·rw[List.eq_of_mem_replicate hx];exact q1
      ·obtain⟨v',r,e1,e2,e3,e4,e5⟩:=hgood2 l hg;obtain⟨e6,_⟩:=g5 l hg;rw[e2] at hf;obtain⟨rfl,e7⟩:=b7n e3 e4 hf;rw[←Cb,e2,e7];have hlen:(vs++Ag u v).length=vs.length+u:=by simp
       have e8:l.drop vs.length=Ag u v++r.drop (runN v r):=by
        rw[e5,e1,D0,Cf,AT,←b7q v r]
       have e9:l.drop (vs.length+u)=r.drop (runN v r):=by
        rw[←Cb,e8,EU (by simp)]
       rw[hlen,e9];refine⟨?_,rfl⟩;rw[List.take_add,←e6,e8,DK (by simp)]
  ·have hrest:rest=[]:=by
    cases rest with
    |nil=>rfl
    |cons=>simp at h3
   subst hrest;rw[if_neg (by simp),c9m g4 (by omega) (by omega)];simp only[Ab];have huniq:∀l,a4n 2 t (M:Int) b l→vs=l:=by
    intro l hg;obtain⟨e1,e2⟩:=g5 l hg;have e3:l.length≤vs.length:=by
     rcases AY vs.length l.length with h|h
     ·rw[A7 h,b0v] at e2;have:=congrArg BS e2;have hp:=b6o (1+runN l[vs.length] (l.drop (vs.length+1)));simp at this;omega
     ·exact h
    rwa [AN e3] at e1
   cases hr:a1i t vs with
   |false =>
    rw[if_pos (by simp)];refine bad _ fun l hg=>?_
    have:=huniq l hg;subst this;rw[(e2k hg).2.2.2.1] at hr;cases hr
   |true =>
    rw[if_neg (by simp)];by_cases hlm:vs.length=M
    rotate_left
    ·rw[if_pos (by simp <;> omega)];refine bad _ fun l hg=>?_
     have:=huniq l hg;subst this;have:=(e2k hg).2.2.1;omega
    rw[if_neg (by simp <;> omega)];unfold a0k;simp only[Ab,if_true];by_cases hq:rleB vs=b
    ·rw[if_neg (by simp[hq])];exact Gets.some (.inl ⟨vs,rfl,by omega,by omega,by omega,by simp[a6w],hr,g4,by simpa[encB] using hq⟩)
    ·rw[if_pos (by simp[hq])];refine bad _ fun l hg=>?_
     have:=huniq l hg;subst this;exact hq (e2k hg).2.2.2.2.2
 unfold c2u;refine Gets.bind key ?_;rintro y (⟨l,rfl,hg⟩|⟨⟨msg,rfl⟩,hno⟩)
 ·exact Gets.some (.inl ⟨l,rfl,hg⟩)
 ·exact Gets.some (.inr ⟨rfl,hno⟩)
def errC(msg:List Int):UV:=UV.node a7a (.pair (.str msg) (.pair (UV.sent a3d) .unit))
def errF(msg:List Int):UV:=UV.node a8g (.pair (.str msg) (.pair (UV.sent a3y) .unit))
theorem e1b{t:Int}{v:Vl}(h:a0j t v=true)(ht:t≤3):v=(t,v.2.1,[],()):=by
 obtain⟨h1,h2⟩:=a1s h;obtain⟨a,b,c,u⟩:=v;dsimp only at h1 h2;subst h1;have hc:c=[]:=by
  rcases h2 with h2|h2|h2|h2|h2
  ·exact h2.2.2
  ·exact h2.2.2.2
  ·exact h2.2
  ·exact h2.2.2
  ·omega
 subst hc;rfl
theorem c8r{n:Nat}{t m:Int}{b:List Int}(ht:-9223372036854775808≤t∧t≤9223372036854775807)(hb:a1h b)(hl:b.length<1000000)(hn:70000≤n) :
  Gets (b6b n (t,m,b,())) (e9f 5 t m b):=by
 have hro:=a0p;have key:Gets (b6t n (t,m,b,())) (e6q errF 5 t m b):=by
  have bad:∀msg,(∀l,¬a4n 5 t m b l)→Gets (some ((([]:List Vl),errF msg,()),())) (e6q errF 5 t m b):=fun msg h=>Gets.some (.inr ⟨⟨msg,rfl⟩,h⟩)
  unfold b6t;dsimp only;by_cases h1:m<0
  ·rw[if_pos (by simpa using h1)];exact bad _ fun l hg=>by have:=hg.1;omega
  rw[if_neg (by simpa using h1)];by_cases h2:1000<m
  ·rw[if_pos (by simpa using h2)];exact bad _ fun l hg=>by have:=hg.2.1;omega
  rw[if_neg (by simpa using h2)];obtain⟨M,rfl⟩:∃M:Nat,m=(M:Int):=⟨_,(A2 (by omega)).symm⟩
  refine Gets.iter (I:=fun s:List Vl×List Int×Int×Int=>∃(vs:List Vl) (rest:List Int) (last:Int),s=(vs,rest,Ae.wrap last,(vs.length:Int))∧(-9223372036854775808≤last∧last≤9223372036854775807)∧vs.length≤M∧a1h rest∧rest.length<1000000∧(∀v,v∈vs→okV v) ∧
    ∀l,a4n 5 t (M:Int) b l→vs=l.take vs.length∧rest=a6a last (l.drop vs.length))
   (μ:=fun s=>M - s.1.length) ⟨[],b,0,rfl,by omega,by simp,hb,hl,by simp,fun l hg=>⟨by simp,by simpa using(e1g hg).2.2.2.2.2.2.symm⟩⟩ (by simp <;> omega) ?_
  rintro rec _ ⟨vs,rest,last,rfl,g0,g1,g2,g3,g4,g5⟩ hrec;dsimp only;by_cases h3:vs.length<M
  ·rw[if_pos (by simp <;> omega),a4s g2 g3 (by omega)];simp only[Ab];have hgood:∀l,a4n 5 t (M:Int) b l→∃(hlt:vs.length<l.length),rest=putN (zig (c8p last l[vs.length].2.1))++a6a l[vs.length].2.1 (l.drop (vs.length+1))∧a0j t l[vs.length]=true∧okV l[vs.length]∧t≤2:=by
    intro l hg;obtain⟨_,e2⟩:=g5 l hg;obtain⟨_,_,q3,q0,q4,q5,_⟩:=e1g hg;have hlt:vs.length<l.length:=by omega
    rw[A7 hlt] at e2;exact⟨hlt,e2,(a2m q4).2.2 _ (Aj _),q5 _ (Aj _),q0⟩
   cases htk:a3i rest with
   |none =>
    dsimp only;rw[if_pos (by simp)];refine bad _ fun l hg=>?_
    obtain⟨hlt,e1,_⟩:=hgood l hg;rw[e1,a5b _ _ (a8c _ _)] at htk;cases htk
   |some q =>
    obtain⟨u,k⟩:=q;have hT:=a2g g2 htk;have hK:=b1y g2 htk;dsimp only;rw[if_neg (by simp),b2x hT.1];simp only[Ab];have hz:=e6d hT.1;have hval:Ae.wrap (Ae.wrap last+Ae.wrap (zag u))=Ae.wrap (Aa.wrap (last+zag u)):=by
     rw[a2d,a2d,a2d,a2d,a3g];omega
    have hnew:=c0h (last+zag u);rw[hval,e7p hnew,if_pos (by simp <;> omega),if_pos (by omega)];simp only[Ac,Aq];rw[a0b (by omega)];refine hrec _ ⟨vs++[(t,Aa.wrap (last+zag u),[],())],rest.drop k,Aa.wrap (last+zag u),by simp,hnew,by simp <;> omega,g2.drop _,by simp <;> omega,?_,fun l hg=>?_⟩ (by simp <;> omega)
    ·intro x hx;rcases Ao.1 hx with hx|hx
     ·exact g4 x hx
     ·simp at hx;subst hx;exact⟨ht,hnew,by simp,by simp⟩
    ·obtain⟨hlt,e1,e2,e3,e4⟩:=hgood l hg;obtain⟨e5,_⟩:=g5 l hg;have htk':=htk;rw[e1,a5b _ _ (a8c _ _)] at htk';simp only[Ad,Ak] at htk';have e6:Aa.wrap (last+zag u)=l[vs.length].2.1:=by
      rw[←htk'.1,b9m];exact c3r e3.2.1
     have e7:=e1b e2 (by omega);rw[e6,←e7,Ap,AZ,Am hlt,←e5];refine⟨rfl,?_⟩;rw[e1,←htk'.2];simp
  ·have hM:vs.length=M:=by omega
   rw[if_neg (by simp <;> omega),c4e g4 (by omega) (by omega)];simp only[Ab];have huniq:∀l,a4n 5 t (M:Int) b l→vs=l:=by
    intro l hg;have e1:=(g5 l hg).1;have q3:=(e1g hg).2.2.1;rwa [AN (by omega)] at e1
   by_cases hr:t≤2∧a1i t vs=true
   rotate_left
   ·rw[if_neg hr,if_pos (by simp)];refine bad _ fun l hg=>?_
    have:=huniq l hg;subst this;exact hr ⟨(e1g hg).2.2.2.1,(e1g hg).2.2.2.2.1⟩
   ·rw[if_pos hr,if_neg (by simp)];unfold a0k;simp only[Ab];by_cases hq:a6a 0 vs=b
    ·rw[if_neg (by simp[hq])];exact Gets.some (.inl ⟨vs,rfl,by omega,by omega,by omega,by simp[a6w,hr.1],hr.2,g4,by simpa[encB] using hq⟩)
    ·rw[if_pos (by simp[hq])];refine bad _ fun l hg=>?_
     have:=huniq l hg;subst this;exact hq (e1g hg).2.2.2.2.2.2
 unfold b6b;refine Gets.bind key ?_;rintro y (⟨l,rfl,hg⟩|⟨⟨msg,rfl⟩,hno⟩)
 ·exact Gets.some (.inl ⟨l,rfl,hg⟩)
 ·exact Gets.some (.inr ⟨rfl,hno⟩)
theorem d7x{t:Int}{l:List Vl}(hne:l≠[])(ht:t≤3)(h:a1i t l=true)(hv:∀v,v∈l→okV v):a3i (c0g l)=some (zig (a3p l),(putN (zig (a3p l))).length)∧(putN (zig (a3p l))).length<(c0g l).length ∧
  (c0g l).getD (putN (zig (a3p l))).length 0=((a2v (a1u l):Nat):Int)∧(c0g l).drop ((putN (zig (a3p l))).length+1)=a7i (a1u l) (a2v (a1u l)) ∧
  b5s (a7i (a1u l) (a2v (a1u l))) (l.length:Int) ((a2v (a1u l):Nat):Int)=(a1u l,true,())∨¬l.length≤1000:=by
 rcases AY 1000 l.length with h1|h1
 ·exact .inr (by omega)
 have hlr:=b1r hv;have hz:=b6v hlr.1 hlr.2;have hw:=b4r hv;refine .inl ?_;rw[b1x hne];refine⟨a5b _ _ hz,by simp,?_,?_,?_⟩
 ·rw[List.getD_eq_getElem?_getD,List.getElem?_append_right (Av _),CV];rfl
 ·rw[←Cb,List.drop_left];rfl
 ·have hbb:=b5h (c4j hv);rw[a2y] at hbb;unfold b5s;simp only[Ac];rw[hbb,if_pos ⟨by omega,by omega,by omega,by omega,by rw[a4b,a2y],rfl⟩]
theorem d0j{n:Nat}{t m:Int}{b:List Int}(ht:-9223372036854775808≤t∧t≤9223372036854775807)(hb:a1h b)(hl:b.length<1000000)(hn:70000≤n) :
  Gets (b9r n (t,m,b,())) (e9f 4 t m b):=by
 have hro:=a0p;have key:Gets (b8o n (t,m,b,())) (e6q errC 4 t m b):=by
  have bad:∀msg,(∀l,¬a4n 4 t m b l)→Gets (some ((([]:List Vl),errC msg,()),())) (e6q errC 4 t m b):=fun msg h=>Gets.some (.inr ⟨⟨msg,rfl⟩,h⟩)
  unfold b8o;dsimp only;by_cases h1:m<0
  ·rw[if_pos (by simpa using h1)];exact bad _ fun l hg=>by have:=hg.1;omega
  rw[if_neg (by simpa using h1)];by_cases h2:1000<m
  ·rw[if_pos (by simpa using h2)];exact bad _ fun l hg=>by have:=hg.2.1;omega
  rw[if_neg (by simpa using h2)];obtain⟨M,rfl⟩:∃M:Nat,m=(M:Int):=⟨_,(A2 (by omega)).symm⟩
  refine Gets.join (I:=fun vs:List Vl=>vs.length=M∧(∀v,v∈vs→okV v)∧∀l,a4n 4 t (M:Int) b l→vs=l) ?_ ?_
  ·rintro vs ⟨hM,g4,huniq⟩;rw[c6v g4 (by omega) (by omega)];simp only[Ab];by_cases hr:t≤3∧a1i t vs=true
   rotate_left
   ·rw[if_neg hr,if_pos (by simp)];refine bad _ fun l hg=>?_
    have:=huniq l hg;subst this;exact hr ⟨(e6u hg).2.2.2.1,(e6u hg).2.2.2.2.1⟩
   ·rw[if_pos hr,if_neg (by simp)];unfold a0k;simp only[Ab];by_cases hq:c0g vs=b
    ·rw[if_neg (by simp[hq])];exact Gets.some (.inl ⟨vs,rfl,by omega,by omega,by omega,by simp[a6w,hr.1],hr.2,g4,by simpa[encB] using hq⟩)
    ·rw[if_pos (by simp[hq])];refine bad _ fun l hg=>?_
     have:=huniq l hg;subst this;exact hq (e6u hg).2.2.2.2.2.2
  ·intro J hJ;by_cases h3:M=0
   ·subst h3;rw[if_neg (by simp)];refine hJ _ ⟨rfl,by simp,fun l hg=>?_⟩;have:=(e6u hg).2.2.1;cases l with
    |nil=>rfl
    |cons=>simp at this;omega
   have hparts:∀l,a4n 4 t (M:Int) b l→l.length=M∧t≤3∧(∀v,v∈l→a0j t v=true∧okV v)∧a3i b=some (zig (a3p l),(putN (zig (a3p l))).length)∧(putN (zig (a3p l))).length<b.length ∧
     b.getD (putN (zig (a3p l))).length 0=((a2v (a1u l):Nat):Int)∧b.drop ((putN (zig (a3p l))).length+1)=a7i (a1u l) (a2v (a1u l)) ∧
     b5s (a7i (a1u l) (a2v (a1u l))) (M:Int) ((a2v (a1u l):Nat):Int)=(a1u l,true,()):=by
    intro l hg;obtain⟨_,_,q3,q4,q5,q6,q7⟩:=e6u hg;have hlm:l.length=M:=by omega
    have hne:l≠[]:=by rintro rfl;simp at hlm;omega
    rcases d7x hne q4 q5 q6 with h|h
    ·rw[q7,hlm] at h;exact⟨hlm,q4,a5g q5 q6,h⟩
    ·omega
   rw[if_pos (by simp <;> omega),a4s hb hl (by omega)];simp only[Ab];cases htk:a3i b with
   |none =>
    dsimp only;rw[if_pos (by simp)];refine bad _ fun l hg=>?_
    rw[(hparts l hg).2.2.2.1] at htk;cases htk
   |some q =>
    obtain⟨u,k⟩:=q;have hT:=a2g hb htk;dsimp only;rw[if_neg (by simp)];by_cases h4:k=b.length
    ·rw[if_pos (by simp <;> omega)];refine bad _ fun l hg=>?_
     obtain⟨_,_,_,e1,e2,_⟩:=hparts l hg;rw[e1] at htk;simp only[Ad,Ak] at htk;omega
    have hk:k<b.length:=by omega
    obtain⟨c,hc1,hc2,hc3⟩:=hb.get hk;rw[if_neg (by simp <;> omega),a0b (by omega),if_pos (by omega),a0a hk];simp only[Ac,Aq];rw[hc1,a0q (by omega),b6z (hb.drop _) (by simp <;> omega) (by omega)];simp only[Ab];have hgood:∀l,a4n 4 t (M:Int) b l→u=zig (a3p l)∧b5s (b.drop (k+1)) (M:Int) (c:Int)=(a1u l,true,()):=by
     intro l hg;obtain⟨_,_,_,e1,e2,e3,e4,e5⟩:=hparts l hg;rw[e1] at htk;simp only[Ad,Ak] at htk;obtain⟨rfl,rfl⟩:=htk;rw[hc1] at e3;exact⟨rfl,by rw[e4,e3];exact e5⟩
    obtain⟨al,aok,hab⟩:∃al aok,b5s (b.drop (k+1)) (M:Int) (c:Int)=(al,aok,()):=⟨_,_,rfl⟩
    rw[hab] at hgood ⊢;have hal:aok=true→al.length=M∧Nums al:=by
     intro h;unfold b5s at hab;split at hab
     ·rename_i hcnd;simp only[Ak] at hab;rw[←hab.1];refine⟨?_,b4f (by simp <;> omega)⟩;rw[b1e];simp
     ·simp only[Ak] at hab;rw[←hab.2.1] at h;cases h
    cases aok with
    |false =>
     rw[if_pos (by simp)];refine bad _ fun l hg=>?_
     have:=(hgood l hg).2;simp at this
    |true =>
     obtain⟨hal1,hal2⟩:=hal rfl;rw[if_neg (by simp)];have hz:=e6d hT.1;refine Gets.iter (I:=fun s:List Vl×Int=>∃i:Nat,i≤M∧s=((al.take i).map (fun a=>(t,Aa.wrap (Ae.wrap (Ae.wrap (zag u)+a)),[],())),(i:Int))) (μ:=fun s=>M - s.2.toNat) ⟨0,by omega,by simp⟩ (by simp <;> omega) ?_;rintro rec _ ⟨i,hi,rfl⟩ hrec;dsimp only;by_cases h5:i<M
     ·have h6:i<al.length:=by omega
      rw[if_pos (by simp <;> omega),a0a h6,b2x hT.1];simp only[Ab,Ac];rw[a0c h6,if_pos (by simp <;> omega),a0b (by omega)];exact hrec _ ⟨i+1,by omega,by rw[map_take _ h6]⟩ (by simp <;> omega)
     ·obtain rfl:i=M:=by omega
      rw[if_neg (by simp <;> omega),AN (by omega)];refine hJ _ ⟨by simp <;> omega,?_,fun l hg=>?_⟩
      ·intro v hv;obtain⟨a,_,rfl⟩:=List.mem_map.1 hv;exact⟨ht,c0h _,by simp,by simp⟩
      ·obtain⟨e1,e2⟩:=hgood l hg;simp only[Ak,and_true] at e2;obtain⟨_,q2,q3,_⟩:=hparts l hg;rw[e2,e1];unfold a1u;rw[List.map_map]
       conv=>rhs;rw[←List.map_id l]
       refine List.map_congr_left fun v hv=>?_
       obtain⟨r1,r2⟩:=q3 v hv;simp only[Function.comp_apply,id,b9m];have e3:Aa.wrap (Ae.wrap (Ae.wrap (a3p l)+(v.2.1 - a3p l)))=v.2.1:=by
        have:=r2.2.1;rw[a2d,a2d,a3g];omega
       rw[e3];exact(e1b r1 (by omega)).symm
 unfold b9r;refine Gets.bind key ?_;rintro y (⟨l,rfl,hg⟩|⟨⟨msg,rfl⟩,hno⟩)
 ·exact Gets.some (.inl ⟨l,rfl,hg⟩)
 ·exact Gets.some (.inr ⟨rfl,hno⟩)
theorem c9a{n:Nat}{t m:Int}{b:List Int}(ht:-9223372036854775808≤t∧t≤9223372036854775807)(hb:a1h b)(hl:b.length<1000000)(hn:70000≤n) :
  Gets (b5q n (t,m,b,())) (e9f 3 t m b):=by
 refine(d0f (m:=m) ht hb hl hn).mono fun y hy=>?_
 rcases hy with⟨l,h,hg⟩|⟨h,hno⟩
 ·exact .inl ⟨l,h,g7r.2 hg⟩
 ·exact .inr ⟨h,fun l hg=>hno l (g7r.1 hg)⟩
end Go.Rb.R5

namespace Go.Rb.R5
open Go.Rb
theorem a1h.take{b:List Int}(h:a1h b)(k:Nat):a1h (b.take k):=fun x hx=>h x (Bk hx)
theorem b3i(n:Nat)(e t:Int):a8t n (e,t,())=some (match b1o e t with|some u=>(u,true,())|none=>(0,false,()),()):=by
 unfold a8t b1o;dsimp only;by_cases h1:t<1
 ·rw[if_pos (by simpa using h1),if_neg (by omega)]
 rw[if_neg (by simpa using h1)];by_cases h2:4<t
 ·rw[if_pos (by simpa using h2),if_neg (by omega)]
 rw[if_neg (by simpa using h2)];by_cases h3:e=5∨e=4∨e=3∨e=2∨e=1
 ·have ht:t=1∨t=2∨t=3∨t=4:=by omega
  rcases h3 with rfl|rfl|rfl|rfl|rfl <;> rcases ht with rfl|rfl|rfl|rfl <;> decide
 ·have h5:¬e=5:=by omega
  have h4:¬e=4:=by omega
  have h33:¬e=3:=by omega
  have h22:¬e=2:=by omega
  have h11:¬e=1:=by omega
  have hno:¬(1≤t∧t≤4∧1≤e∧e≤5):=by omega
  rw[if_neg hno];simp[h5,h4,h33,h22,h11]
theorem c0r(n:Nat)(t:Int)(v:Vl):b3e n (t,v,())=some ((a5f t v,()),()):=by
 unfold b3e a5f;dsimp only;rw[a2r];simp only[Ab];cases mayV v with
 |false=>rfl
 |true =>
  rw[if_pos rfl];by_cases h1:1≤t
  ·by_cases h2:t≤4
   ·by_cases h3:v.1=0 <;> simp[h1,h2,h3]
   ·simp[h1,h2]
  ·simp[h1]
def b1z(e t:Int)(l:List Vl):Option (List Int) :=
 match b1o e t with
 |some u=>if l.all (a5f t)=true then some (colB u t l) else none
 |none=>none
def d0n(u:Int)(l:List Vl):List Int:=if l.any isN then u::1::b3m (l.map isN) else[u,0]
theorem e2h(u t:Int)(l:List Vl):d0n u l++encB u t (a3b l)=colB u t l:=by
 unfold d0n colB;split <;> simp
theorem e6i(u:Int){l:List Vl}(hl:l.length≤1000):(d0n u l).length≤200:=by
 unfold d0n;split
 ·simp only[A6,b0x,Bb];omega
 ·simp
theorem c2c{n:Nat}{e t:Int}{l:List Vl}(hv:∀v,v∈l→okV v)(hl:l.length≤1000)(hn:2000≤n) :
  a4v n (e,t,l,())=some (match b1z e t l with|some b=>(b,true,())|none=>([],false,()),()):=by
 have hro:=a0p;unfold a4v b1z;dsimp only;rw[b3i];simp only[Ab];cases hu:b1o e t with
 |none=>rfl
 |some u =>
  obtain⟨u1,u2,u3,u4,u5,_⟩:=a8f hu;dsimp only;rw[if_neg (by simp),b2g (q:=fun v=>!a5f t v) (fun v _=>by unfold b7e;dsimp only;rw[c0r];rfl) (by omega) (by omega)];simp only[Ab];by_cases hf:l.all (a5f t)=true
  rotate_left
  ·rw[if_neg hf,if_pos];rw[G0];have hf':l.all (a5f t)=false:=by simpa using hf
   rw[List.all_eq_false] at hf';obtain⟨x,hx,h⟩:=hf';exact⟨x,hx,by simpa using h⟩
  ·have hfa:∀v,v∈l→a5f t v=true:=AK.1 hf;have hany:l.any (fun v=>!a5f t v)=false:=by rw[List.any_eq_false];intro x hx;simp[hfa x hx]
   have hr:=a8a ⟨u2,u3⟩ hfa;have hok:=b2p hv;have hsl:=b3c l;rw[if_pos hf,if_neg (by rw[hany];simp)];dsimp only;have hEL:=e0r (e:=u) hr hok (by omega);have hHL:=e6i u hl;have hcat:∀b:List Int,b=encB u t (a3b l)→(if((d0n u l).length+b.length)*1≤room then(some (((d0n u l)++b,true,()),()):Option ((List Int×Bool×Unit)×Unit)) else none)=some ((colB u t l,true,()),()):=by
    rintro b rfl;rw[if_pos (by omega),e2h]
   refine a9u (I:=fun s q=>s=d0n u l∧q=some ((colB u t l,true,()),())) ?_ ?_
   ·rintro _ _ ⟨rfl,rfl⟩;unfold a6h a0e;simp only[Ab];rw[c1v (p:=fun c=>(a4k n (c,())).bind fun r=>some r.1.1) (q:=isN) (fun v _=>rfl) (by omega) (by omega)];simp only[Ab];have hsv:(l.filter fun v=>!isN v)=a3b l:=rfl;rw[hsv];by_cases c1:u=1
    ·subst c1;rw[if_pos rfl,c4a hok (by omega) hn,if_pos hr];simp only[Ab];rw[if_neg (by simp)];exact hcat _ (by simp[encB])
    rw[if_neg c1];by_cases c2:u=2
    ·subst c2;rw[if_pos rfl,c9m hok (by omega) hn,if_pos hr];simp only[Ab];rw[if_neg (by simp)];exact hcat _ (by simp[encB])
    rw[if_neg c2];by_cases c3:u=3
    ·subst c3;rw[if_pos rfl,b8v hok (by omega) hn,if_pos hr];simp only[Ab];rw[if_neg (by simp)];exact hcat _ (by simp[encB])
    rw[if_neg c3];unfold a6w at u1;simp only[B6,Af,decide_eq_true_eq] at u1;by_cases c4:u=4
    ·subst c4;rw[if_pos rfl,c6v hok (by omega) hn,if_pos ⟨by omega,hr⟩];simp only[Ab];rw[if_neg (by simp)];exact hcat _ (by simp[encB])
    rw[if_neg c4];obtain rfl:u=5:=by omega
    rw[if_pos rfl,c4e hok (by omega) hn,if_pos ⟨by omega,hr⟩];simp only[Ab];rw[if_neg (by simp)];exact hcat _ (by simp[encB])
   ·intro J hJ;rw[b2g (p:=fun c=>(a4k n (c,())).bind fun r=>some r.1.1) (q:=isN) (fun v _=>rfl) (by omega) (by omega)];simp only[Ab];rw[a3u (by omega) (by omega)];cases ha:l.any isN with
    |false =>
     rw[if_neg (by simp)];exact hJ _ _ ⟨by unfold d0n;rw[ha];rfl,rfl⟩
    |true =>
     rw[if_pos rfl];refine a0i (st:=fun i=>((l.take i).map isN,(i:Int))) l.length (by simp) ?_ ?_ (by omega)
     ·intro rec i hi;dsimp only;rw[if_pos (by simp <;> omega),a0a hi,Ac,a0c hi];unfold a4k;simp only[Ab];rw[if_pos (by simp <;> omega),a0b (by omega),map_take _ hi];rfl
     ·intro rec;dsimp only;rw[if_neg (by simp),Aq,if_pos (by simp),c3w (by simp <;> omega) (by simp <;> omega)];simp only[Ab];have hnl:=b0x (l.map isN);rw[Bb] at hnl;rw[if_pos (by simp <;> omega),if_pos (by simp <;> omega)];exact hJ _ _ ⟨by unfold d0n;rw[ha];rfl,rfl⟩
def b1w(t m:Int)(b:List Int)(l:List Vl)(e:Int):Prop:=0≤m∧m≤1000∧(l.length:Int)=m∧b1o e t=some e∧(∀v,v∈l→a5f t v=true)∧(∀v,v∈l→okV v)∧colB e t l=b
theorem b1w.uniq{t m e e':Int}{b:List Int}{l l':List Vl}(h:b1w t m b l e)(h':b1w t m b l' e'):l=l'∧e=e':=by
 obtain⟨_,_,g3,g4,g5,g6,g7⟩:=h;obtain⟨_,_,k3,k4,k5,k6,k7⟩:=h';obtain⟨u1,u2,u3,_⟩:=a8f g4;obtain⟨h1,h2,_⟩:=e7z u1 ⟨u2,u3⟩ g5 g6 k5 k6 (by omega) (s:=[]) (by rw[A3,g7,k7]);exact⟨h2,h1⟩
def e8r(t m:Int)(b:List Int)(y:(List Vl×Int×Bool×Unit)×Unit):Prop:=(∃l e,y=((l,e,true,()),())∧b1w t m b l e)∨(y=(([],0,false,()),())∧∀l e,¬b1w t m b l e)
theorem d1k:∀(bs:List Bool) (l:List Vl),(mixV bs l).length=bs.length
 |[],_=>rfl
 |true::bs,l=>by unfold mixV;rw[A6,d1k bs l,A6]
 |false::bs,l=>by unfold mixV;rw[A6,d1k bs l.tail,A6]
theorem a5d{t m e:Int}{b:List Int}{l:List Vl}(h:b1w t m b l e):b.getD 0 0=e∧2≤b.length∧b.getD 1 0=(if l.any isN then 1 else 0)∧b.drop 2=(if l.any isN then b3m (l.map isN)++encB e t (a3b l) else encB e t (a3b l)):=by
 obtain⟨_,_,_,_,_,_,rfl⟩:=h;unfold colB;split <;> simp
theorem e9m:okV ((0:Int),(0:Int),[],()):=by unfold okV;decide
theorem c5w{n:Nat}{t m:Int}{b:List Int}(ht:-9223372036854775808≤t∧t≤9223372036854775807)(hb:a1h b)(hl:b.length<1000000)(hn:1000000≤n) :
  Gets (b1d n (t,m,b,())) (e8r t m b):=by
 have hro:=a0p;have bad:(∀l e,¬b1w t m b l e)→Gets (some ((([]:List Vl),(0:Int),false,()),())) (e8r t m b):=fun h=>Gets.some (.inr ⟨rfl,h⟩)
 unfold b1d;dsimp only;by_cases h1:m<0
 ·rw[if_pos (by simpa using h1)];exact bad fun l e hg=>by have:=hg.1;omega
 rw[if_neg (by simpa using h1)];by_cases h2:1000<m
 ·rw[if_pos (by simpa using h2)];exact bad fun l e hg=>by have:=hg.2.1;omega
 rw[if_neg (by simpa using h2)];obtain⟨M,rfl⟩:∃M:Nat,m=(M:Int):=⟨_,(A2 (by omega)).symm⟩
 by_cases h3:b.length<2
 ·rw[if_pos (by simp <;> omega)];exact bad fun l e hg=>by have:=(a5d hg).2.1;omega
 rw[if_neg (by simp <;> omega)];unfold a6h;simp only[Ab];obtain⟨e,he1,he2,_⟩:=hb.get (i:=0) (by omega);have e0:((0:Int)).toNat=0:=rfl;rw[a0s (by omega) (by omega),if_pos (by omega),if_pos (by omega),e0,he1,a0q (x:=e) (by omega)];have hE:∀l e',b1w t (M:Int) b l e'→e'=(e:Int):=fun l e' hg=>by rw[←(a5d hg).1,he1]
 refine Gets.join (I:=fun s:List Int×List Bool=>a1h s.1∧s.1.length<1000000∧s.2.length≤1000∧∀l e',b1w t (M:Int) b l e'→s.2=l.map isN∧s.1=encB (e:Int) t (a3b l)) ?_ ?_
 ·rintro⟨rest,set⟩ ⟨r1,r2,r3,r4⟩;dsimp only at r1 r2 r3 r4 ⊢;by_cases h5:1≤e∧e≤5
  rotate_left
  ·rw[if_pos]
   ·refine bad fun l e' hg=>?_
    have h6:=hE l e' hg;obtain⟨_,_,_,u4,u5,_⟩:=a8f hg.2.2.2.1;omega
   ·simp only[A8,FJ,decide_eq_false_iff_not]
    repeat' apply And.intro
    all_goals first|trivial|omega
  rw[if_neg (by
   simp only[A8,FJ,decide_eq_false_iff_not];omega)]
  by_cases h6:set.length=M
  rotate_left
  ·rw[if_pos (by simp <;> omega)];refine bad fun l e' hg=>?_
   have h7:=congrArg BS (r4 l e' hg).1;have:=hg.2.2.1;simp at h7;omega
  rw[if_neg (by simp <;> omega),d0m (by omega) (by omega)];simp only[Ab];have hcl:=Cs (p:=fun b:Bool=>b) (l:=set);obtain⟨cnt,hcnt⟩:∃cnt,set.countP (fun b=>b)=cnt:=⟨_,rfl⟩
  rw[hcnt] at hcl ⊢;have hw:Aa.wrap ((M:Int) - (cnt:Int))=((M - cnt:Nat):Int):=by
   rw[show((M:Int) - (cnt:Int))=((M - cnt:Nat):Int) by omega,a0q (by omega)]
  rw[hw];have hE2:∀l e',b1w t (M:Int) b l e'→a4n (e:Int) t ((M - cnt:Nat):Int) rest (a3b l):=by
   intro l e' hg;obtain⟨q1,q2⟩:=r4 l e' hg;have h7:=hE l e' hg;obtain⟨g1,g2,g3,g4,g5,g6,g7⟩:=hg;obtain⟨u1,u2,u3,_⟩:=a8f g4;have h8:=b4v l;rw[←q1,hcnt] at h8;subst h7;exact⟨by omega,by omega,by omega,u1,a8a ⟨u2,u3⟩ g5,b2p g6,q2.symm⟩
  have tail:∀sm,a4n (e:Int) t ((M - cnt:Nat):Int) rest sm→Gets (a0h (fun rec27 (s26:(List (Int×Int×List Int×Unit))×(List (Int×Int×List Int×Unit))×Int)=>(if(decide (s26.2.2<(set.length:Int)))=true then(atI s26.2.2 set.length (if(set.getD s26.2.2.toNat false)=true then(if(s26.1.length+([((0:Int),(0:Int),[],())]:List (Int×Int×List Int×Unit)).length)*32≤room then(rec27 ((s26.1++([((0:Int),(0:Int),[],())]:List (Int×Int×List Int×Unit))),s26.2.1,(Aa.wrap (s26.2.2+1)))) else none) else(atI (0:Int) s26.2.1.length (if(s26.1.length+([(s26.2.1.getD 0 ((0:Int),(0:Int),[],()))]:List (Int×Int×List Int×Unit)).length)*32≤room then(if 0≤(1:Int)∧(1:Int)≤(s26.2.1.length:Int) then(rec27 ((s26.1++([(s26.2.1.getD 0 ((0:Int),(0:Int),[],()))]:List (Int×Int×List Int×Unit))),((s26.2.1.take (s26.2.1.length:Int).toNat).drop (1:Int).toNat),(Aa.wrap (s26.2.2+1)))) else none) else none)))) else(atI (0:Int) b.length ((a2q n ((e:Int),t,s26.1,())).bind fun y28=>(if(!y28.1.2.1)=true then(some (([],(0:Int),false,()),())) else((a0k n (y28.1.1,b,())).bind fun y29=>(if(!y29.1.1)=true then(some (([],(0:Int),false,()),())) else(atI (0:Int) b.length (some ((y28.2.1,(e:Int),true,()),())))))))))) n ([],sm,(0:Int))) (e8r t (M:Int) b):=by
   intro sm hsm;obtain⟨p1,p2,p3,p4,p5,p6,p7⟩:=hsm;have hgl:∀l e',b1w t (M:Int) b l e'→mixV set sm=l:=by
    intro l e' hg;obtain⟨q1,q2⟩:=r4 l e' hg;have:=(hE2 l e' hg).uniq ⟨p1,p2,p3,p4,p5,p6,p7⟩;rw[q1,←this];exact c0j hg.2.2.2.2.1
   refine Gets.iter (I:=fun s:List Vl×List Vl×Int=>∃(acc r:List Vl) (i:Nat),s=(acc,r,(i:Int))∧i≤set.length∧acc.length=i∧acc++mixV (set.drop i) r=mixV set sm∧r.length+(set.drop i).countP (fun b=>b)=(set.drop i).length∧(∀v,v∈acc→okV v)∧∀v,v∈r→okV v)
    (μ:=fun s=>set.length - s.2.2.toNat) ⟨[],sm,0,rfl,by omega,rfl,by simp,by rw[Dk,hcnt];omega,by simp,p6⟩ (by simp <;> omega) ?_
   rintro rec _ ⟨acc,r,i,rfl,k1,k2,k3,k4,k5,k6⟩ hrec;dsimp only;by_cases hi:i<set.length
   ·rw[if_pos (by simp <;> omega),a0a hi,Ac,a0c hi,a0b (by omega)];have hd:=A7 hi;rw[hd] at k3 k4;have hdl:(set.drop (i+1)).length=set.length - (i+1):=by simp
    by_cases hx:set[i]=true
    ·rw[hx] at k3 k4;have hc1:CT (fun b=>b) (true::set.drop (i+1))=CT (fun b=>b) (set.drop (i+1))+1:=by rw[EE];rfl
     rw[if_pos hx,if_pos (by simp <;> omega)];refine hrec _ ⟨acc++[((0:Int),(0:Int),[],())],r,i+1,rfl,by omega,by simp <;> omega,by rw[←k3];simp[mixV],by rw[hc1,A6] at k4;omega,?_,k6⟩ (by simp <;> omega);intro v hv;rcases Ao.1 hv with hv|hv
     ·exact k5 v hv
     ·simp at hv;subst hv;exact e9m
    ·have hx':set[i]=false:=by simpa using hx
     rw[hx'] at k3 k4;have hc1:CT (fun b=>b) (false::set.drop (i+1))=CT (fun b=>b) (set.drop (i+1)):=by rw[EE];rfl
     rw[hc1,A6] at k4;have hcl2:=Cs (p:=fun b:Bool=>b) (l:=set.drop (i+1));cases r with
     |nil=>simp at k4;omega
     |cons v r =>
      have hrl:(v::r).length≤set.length:=by omega
      rw[if_neg hx,a0s (by omega) (by simp <;> omega),if_pos (by simp <;> omega),if_pos (by simp <;> omega)];simp only[Ac,Aq];have e1:(v::r).getD 0 ((0:Int),(0:Int),[],())=v:=rfl;have e2:(v::r).drop ((1:Int)).toNat=r:=rfl;rw[e1,e2];refine hrec _ ⟨acc++[v],r,i+1,rfl,by omega,by simp <;> omega,by rw[←k3];simp[mixV],by simp at k4;omega,?_,fun x hx=>k6 x (Ar _ hx)⟩ (by simp <;> omega);intro x hx;rcases Ao.1 hx with hx|hx
      ·exact k5 x hx
      ·simp at hx;subst hx;exact k6 _ (by simp)
   ·obtain rfl:i=set.length:=by omega
    have hacc:acc=mixV set sm:=by
     rw[←k3,EM];simp[mixV]
    rw[if_neg (by simp),a0s (by omega) (by omega)];unfold a2q;dsimp only;rw[c2c k5 (by omega) (by omega)];simp only[Option.map_some,Ab];have hgood':∀l e',b1w t (M:Int) b l e'→b1z (e:Int) t acc=some b:=by
     intro l e' hg;have h7:=hE l e' hg;have h8:=hgl l e' hg;rw[hacc,h8];obtain⟨g1,g2,g3,g4,g5,g6,g7⟩:=hg;unfold b1z;rw[h7] at g4 g7;rw[g4];dsimp only;rw[if_pos (AK.2 g5),g7]
    cases hp:b1z (e:Int) t acc with
    |none =>
     dsimp only;rw[if_pos (by simp)];refine bad fun l e' hg=>?_
     have:=hgood' l e' hg;rw[hp] at this;cases this
    |some c =>
     dsimp only;rw[if_neg (by simp)];unfold a0k;simp only[Ab];by_cases hq:c=b
     ·rw[if_neg (by simp[hq]),a0s (by omega) (by omega)];unfold b1z at hp;cases hu:b1o (e:Int) t with
      |none=>rw[hu] at hp;cases hp
      |some u =>
       rw[hu] at hp;dsimp only at hp;split at hp
       ·rename_i hall;simp only[Ad] at hp;have hue:u=(e:Int):=by
         obtain⟨rr,hr1,_⟩:=f9k u t acc;rw[hp,hq] at hr1;rw[hr1] at he1;simpa using he1
        subst hue;refine Gets.some (.inl ⟨acc,_,rfl,by omega,by omega,by omega,hu,AK.1 hall,k5,by rw[hp,hq]⟩)
       ·cases hp
     ·rw[if_pos (by simp[hq])];refine bad fun l e' hg=>?_
      have:=hgood' l e' hg;rw[hp] at this;exact hq (Ai this)
  by_cases c1:e=1
  ·subst c1;rw[if_pos (show((1:Nat):Int)=1 from rfl)];refine Gets.bind (c8v (m:=((M - cnt:Nat):Int)) ht r1 r2 (by omega)) ?_;rintro y (⟨sm,rfl,hg⟩|⟨rfl,hno⟩)
   ·rw[if_neg (by simp)];exact tail sm hg
   ·rw[if_pos (by simp)];exact bad fun l e' hg=>hno _ (hE2 l e' hg)
  rw[if_neg (by omega)];by_cases c2:e=2
  ·subst c2;rw[if_pos (show((2:Nat):Int)=2 from rfl)];refine Gets.bind (d1t (m:=((M - cnt:Nat):Int)) ht r1 r2 (by omega)) ?_;rintro y (⟨sm,rfl,hg⟩|⟨rfl,hno⟩)
   ·rw[if_neg (by simp)];exact tail sm hg
   ·rw[if_pos (by simp)];exact bad fun l e' hg=>hno _ (hE2 l e' hg)
  rw[if_neg (by omega)];by_cases c3:e=3
  ·subst c3;rw[if_pos (show((3:Nat):Int)=3 from rfl)];refine Gets.bind (c9a (m:=((M - cnt:Nat):Int)) ht r1 r2 (by omega)) ?_;rintro y (⟨sm,rfl,hg⟩|⟨rfl,hno⟩)
   ·rw[if_neg (by simp)];exact tail sm hg
   ·rw[if_pos (by simp)];exact bad fun l e' hg=>hno _ (hE2 l e' hg)
  rw[if_neg (by omega)];by_cases c4:e=4
  ·subst c4;rw[if_pos (show((4:Nat):Int)=4 from rfl)];refine Gets.bind (d0j (m:=((M - cnt:Nat):Int)) ht r1 r2 (by omega)) ?_;rintro y (⟨sm,rfl,hg⟩|⟨rfl,hno⟩)
   ·rw[if_neg (by simp)];exact tail sm hg
   ·rw[if_pos (by simp)];exact bad fun l e' hg=>hno _ (hE2 l e' hg)
  rw[if_neg (by omega)];obtain rfl:e=5:=by omega
  rw[if_pos (show((5:Nat):Int)=5 from rfl)];refine Gets.bind (c8r (m:=((M - cnt:Nat):Int)) ht r1 r2 (by omega)) ?_;rintro y (⟨sm,rfl,hg⟩|⟨rfl,hno⟩)
  ·rw[if_neg (by simp)];exact tail sm hg
  ·rw[if_pos (by simp)];exact bad fun l e' hg=>hno _ (hE2 l e' hg)
 ·intro J hJ;obtain⟨f,hf1,hf2,_⟩:=hb.get (i:=1) (by omega);have e1:((1:Int)).toNat=1:=rfl;have e2:((2:Int)).toNat=2:=rfl;have hmany:Aa.wrap ((Aa.wrap ((M:Int)+7)).tdiv (8:Int))=(((M+7) / 8:Nat):Int):=by
   rw[show((M:Int)+7)=((M+7:Nat):Int) by omega,a0q (by omega),show((8:Int))=((8:Nat):Int) from rfl,a5m,a0q (by omega)]
  simp only[hmany,Ac,Aq,e1,e2,e0,Dk,a0s (show(0:Int)≤1 by omega) (show(1:Int)<(b.length:Int) by omega),hf1];have plain:(∀l e',b1w t (M:Int) b l e'→l.any isN=false)→Gets (J (b.drop 2,Ag M false)) (e8r t (M:Int) b):=by
   intro h;refine hJ _ ⟨hb.drop _,by simp <;> omega,by simp <;> omega,fun l e' hg=>?_⟩;have h7:=(a5d hg).2.2.2;have h8:=h l e' hg;rw[h8] at h7;have h9:=b3y h8;have:=hg.2.2.1;dsimp only;rw[h9,h7,hE l e' hg];exact⟨by congr 1;omega,rfl⟩
  by_cases h7:f=1
  ·subst h7;rw[if_pos (by simp)];by_cases h8:(M+7) / 8≤(b.drop 2).length
   ·rw[if_pos (by simp only[decide_eq_true_eq];omega),if_pos (by omega),d5r ((hb.drop _).take _) (by simp <;> omega) (by omega)];simp only[Ab];rw[if_pos (by omega)];refine hJ _ ⟨(hb.drop _).drop _,by simp <;> omega,?_,fun l e' hg=>?_⟩
    ·unfold a9f;split
     ·dsimp only;rw[a7g];simp <;> omega
     ·simp
    ·have h10:=(a5d hg).2.2.1;rw[hf1] at h10;have h11:l.any isN=true:=by
      cases h:l.any isN with
      |true=>rfl
      |false=>rw[h] at h10;simp at h10
     have h12:=(a5d hg).2.2.2;rw[h11,if_pos rfl] at h12;have h13:=b0x (l.map isN);rw[Bb] at h13;have h14:=hg.2.2.1;have hlM:l.length=M:=by omega
     rw[hlM] at h13;have h15:(b.drop 2).take ((M+7) / 8)=b3m (l.map isN):=by rw[h12,DK h13]
     have h16:(b.drop 2).drop ((M+7) / 8)=encB e' t (a3b l):=by rw[h12,EU h13]
     dsimp only;rw[h15,h16,hE l e' hg];refine⟨?_,rfl⟩;have h17:=d7z (l.map isN);rw[Bb,hlM] at h17;unfold a9f;simp only[Ac];rw[h17,if_pos ⟨by omega,by omega,h13,rfl⟩]
   ·rw[if_neg (by simp only[decide_eq_true_eq];omega)];refine plain fun l e' hg=>?_
    exfalso;have h10:=(a5d hg).2.2.1;rw[hf1] at h10;have h11:l.any isN=true:=by
     cases h:l.any isN with
     |true=>rfl
     |false=>rw[h] at h10;simp at h10
    have h12:=(a5d hg).2.2.2;rw[h11,if_pos rfl] at h12;have h13:=b0x (l.map isN);rw[Bb] at h13;have h14:=hg.2.2.1;rw[h12,Ap] at h8;omega
  ·rw[if_neg (by simp <;> omega)];refine plain fun l e' hg=>?_
   have h10:=(a5d hg).2.2.1;rw[hf1] at h10;cases h:l.any isN with
   |false=>rfl
   |true=>rw[h] at h10;simp at h10;omega
end Go.Rb.R5

namespace Go.Rb.R5
open Go.Rb
theorem b9y(n:Nat)(t:Int):b0m n (t,())=some ((((a0z t:Nat):Int),()),()):=by
 unfold b0m a0z;dsimp only;by_cases h1:t=1
 ·simp[h1]
 ·by_cases h2:t=2
  ·simp[h2]
  ·by_cases h3:t=3
   ·simp[h3]
   ·simp[h1,h2,h3]
theorem d4r(t:Int):a0z t≤8:=by
 unfold a0z;split <;> (try split) <;> (try split) <;> omega
theorem f8p:∀(w:Nat) (x:Int) (j:Nat),j<w→(bigB w x).take (j+1)=(bigB w x).take j++[(x / 256 ^ (w - 1 - j)) % 256]
 |0,_,_,h=>absurd h (Nat.not_lt_zero _)
 |w+1,x,0,_=>by simp[bigB]
 |w+1,x,j+1,h=>by
  rw[bigB,BX,BX,f8p w x j (by omega),AT];rw[show w+1 - 1 - (j+1)=w - 1 - j by omega]
theorem g8m(i:Nat):(2:Int) ^ (8*i)=256 ^ i:=by
 rw[Int.pow_mul];rfl
theorem f7z{x:Int}{i:Nat}(hi:i<8):Ah.wrap (x.fdiv (2 ^ min (Aa.wrap ((8:Int)*(i:Int))).toNat Aa.bits))=(x / 256 ^ i) % 256:=by
 rw[a0d (by omega) (by omega),c1o];have h1:((8:Int)*(i:Int)).toNat=8*i:=by omega
 have h2:min (8*i) Aa.bits=8*i:=by
  have:Aa.bits=64:=rfl;omega
 rw[h1,h2,g8m,Int.fdiv_eq_ediv_of_nonneg _ (Int.le_of_lt (Int.pow_pos (by omega)))]
theorem c3y{n:Nat}{v:Vl}(hn:10≤n):b4u n (v,())=some ((if mayV v=true then valB v else[],()),()):=by
 have hro:=a0p;unfold b4u;rw[a2r];simp only[Ab];cases hm:mayV v with
 |false=>simp
 |true =>
  have hs:=c7f hm;simp only[Br,AE,if_false,if_true];unfold valB;by_cases h4:v.1=4
  ·have hl:v.2.2.1.length≤20:=by omega
   rw[if_pos (by simpa using h4),if_pos (by simp <;> omega),if_pos (by simp <;> omega),if_pos h4,a3u (by omega) (by omega),a3u (by omega) (by omega)];simp
  ·have h8:=d4r v.1;rw[if_neg (by simpa using h4),if_neg h4,b9y];simp only[Ab];refine a0i (fun j=>(v.1::(bigB (a0z v.1) v.2.1).take j,((a0z v.1:Nat):Int) - 1 - (j:Int))) (a0z v.1) ?_ ?_ ?_ (by omega)
   ·rw[a3u (by omega) (by omega),a0d (by omega) (by omega)];simp
   ·intro rec j hj;dsimp only;obtain⟨i,hi⟩:∃i:Nat,((a0z v.1:Nat):Int) - 1 - (j:Int)=(i:Int):=⟨a0z v.1 - 1 - j,by omega⟩
    have hii:i=a0z v.1 - 1 - j:=by omega
    rw[hi,if_pos (by simp <;> omega),if_neg (by rw[a0d (by omega) (by omega)];omega),f7z (by omega),if_pos (by simp <;> omega),a0d (by omega) (by omega),f8p _ _ _ hj,hii];congr 1;have:((a0z v.1 - 1 - j:Nat):Int) - 1=((a0z v.1:Nat):Int) - 1 - ((j+1:Nat):Int):=by omega
    rw[this];simp
   ·intro rec;dsimp only;rw[if_neg (by simp <;> omega),AN (by rw[b0n];exact Av _)]
theorem g0g{a c:Nat}(hc:c<256):bits .or .i64 (Aa.wrap (Aa.wrap (a:Int)*2 ^ min (8:Int).toNat Aa.bits)) (Aa.wrap (c:Int))=Aa.wrap ((a*256+c:Nat):Int):=by
 have h1:(2:Int) ^ min (8:Int).toNat Aa.bits=256:=by decide
 rw[h1,a0d (x:=(c:Int)) (by omega) (by omega)];unfold bits;dsimp only;have e1:AS 64 (Aa.wrap (Aa.wrap (a:Int)*256))=GJ 64 (a*256):=by
  apply Fm;rw[FK,CX,a3g,a3g];have:((2 ^ 64:Nat):Int)=18446744073709551616:=rfl;rw[this];have h3:((((((a:Int)+9223372036854775808) % 18446744073709551616 - 9223372036854775808)*256+9223372036854775808) % 18446744073709551616 - 9223372036854775808) % 18446744073709551616)=((a*256 % 2 ^ 64:Nat):Int):=by omega
  rw[h3];rfl
 have e2:AS 64 (c:Int)=GJ 64 c:=by
  apply Fm;rw[FK,CX];have:((2 ^ 64:Nat):Int)=18446744073709551616:=rfl;rw[this];omega
 show Aa.wrap (((AS 64 (Aa.wrap (Aa.wrap (a:Int)*256)) ||| AS 64 (c:Int)).toNat:Nat):Int)=_;rw[e1,e2,BitVec.toNat_or,CX,CX,Nat.mod_eq_of_lt (a:=c) (by omega)];have h4:a*256 % 2 ^ 64=(a % 2 ^ 56)*2 ^ 8:=by omega
 rw[h4,←G4,←Nat.shiftLeft_add_eq_or_of_lt (by omega:c<2 ^ 8),G4,a3g,a3g];omega
def errV:UV:=UV.node c0z (.pair (.str [111,102,32,98,121,116,101,115]) (.pair (UV.sent a3o) .unit))
theorem e0v:decide (errV=UV.nil)=false:=by decide
theorem f0k{n:Nat}{b:List Int}{k:Nat}(h:b.length<k):a3v n (b,(k:Int),())=some (([],errV,()),()):=by
 unfold a3v;dsimp only;rw[if_pos (by simp <;> omega)];rfl
theorem f2e{n:Nat}{b:List Int}{k:Nat}(h:k≤b.length):a3v n (b,(k:Int),())=some ((b.take k,UV.nil,()),()):=by
 unfold a3v;dsimp only;rw[if_neg (by simp <;> omega),if_pos (by omega)];simp
theorem g1h:a1x 0 (errV,UV.sent a3o,())=some ((true,()),()):=by decide
theorem e4a:a1x 0 (UV.nil,UV.sent a3o,())=some ((false,()),()):=by decide
theorem c2p(n:Nat):a1x n (errV,UV.sent a3o,())=some ((true,()),()):=g1h
theorem e9s(n:Nat):a1x n (UV.nil,UV.sent a3o,())=some ((false,()),()):=e4a
def a2e:Vl:=((0:Int),(0:Int),[],())
theorem g0w{l:List Int}(h:a1h l):∃a:Nat,numT l=(a:Int):=⟨(numT l).toNat,by have:=(b8d h).1;omega⟩
theorem c0n{n:Nat}{b:List Int}(hb:a1h b)(hl:b.length<1000000)(hn:10≤n) :
  b2w n (b,())=some (match c6t b with|some (v,k)=>(v,(k:Int),true,())|none=>(a2e,0,false,()),()):=by
 unfold b2w c1z c6t;cases b with
 |nil =>
  rw[show a3v n ([],(1:Int),())=_ from f0k (k:=1) (by simp)];simp only[Ab,e0v,DM,if_true];rw[c2p];rfl
 |cons t r =>
  have ht0:=hb t (by simp);rw[show a3v n (t::r,(1:Int),())=_ from f2e (k:=1) (by simp)];simp only[Ab,decide_true,Br,AE,if_false];rw[show(BO 1 (t::r))=[t] by simp,a0s (by simp) (by simp)];simp only[show(0:Int).toNat=0 from rfl,FU];rw[a0d (x:=t) (by omega) (by omega)];by_cases h4:t=4
  ·subst h4;rw[if_pos (by simp),if_pos rfl];cases r with
   |nil =>
    rw[show a3v n ([4],(2:Int),())=_ from f0k (k:=2) (by simp)];simp only[Ab,e0v,DM,if_true];rw[c2p];rfl
   |cons m s =>
    have hm0:=hb m (by simp);rw[show a3v n (4::m::s,(2:Int),())=_ from f2e (k:=2) (by simp)];simp only[Ab,decide_true,Br,AE,if_false];rw[show(BO 2 (4::m::s))=[4,m] by simp,a0s (by simp) (by simp)];simp only[show(1:Int).toNat=1 from rfl,List.getD_cons_succ,FU];have hk:Aa.wrap ((2:Int)+Aa.wrap m)=((2+m.toNat:Nat):Int):=by
     rw[a0d (x:=m) (by omega) (by omega),a0d (by omega) (by omega)];omega
    rw[hk];by_cases hs:s.length<m.toNat
    ·rw[f0k (by simp;omega),if_pos hs];simp only[Ab,e0v,AE,if_false];rw[c2p];rfl
    ·rw[f2e (by simp;omega),if_neg hs];simp only[Ab,decide_true,if_true];have hlen:(BO (2+m.toNat) (4::m::s)).length=2+m.toNat:=by rw[AC];simp;omega
     rw[if_pos ⟨by omega,by rw[hlen];omega⟩];simp only[Ab];rw[e9s];simp only[Ab,AE,if_false];have hd:ER (2:Int).toNat (BO ((BO (2+m.toNat) (4::m::s)).length:Int).toNat (BO (2+m.toNat) (4::m::s)))=s.take m.toNat:=by
      rw[Ac,Aq,show(2:Int).toNat=2 from rfl,show 2+m.toNat=m.toNat+1+1 by omega,BX,BX];rfl
     rw[hd,a2r];simp only[Ab];by_cases h20:m≤20
     ·rw[if_pos h20];have:mayV ((4:Int),(0:Int),s.take m.toNat,())=true:=by
       unfold mayV;simp only[B6,Af,decide_eq_true_eq];right;exact⟨⟨trivial,trivial⟩,by rw[AC];omega⟩
      rw[this];rfl
     ·rw[if_neg h20];have:mayV ((4:Int),(0:Int),s.take m.toNat,())=false:=by
       rw[Bool.eq_false_iff];intro h;have:=c7f h;have h7:(s.take m.toNat).length=m.toNat:=by rw[AC];omega
       dsimp only at this;omega
      rw[this];rfl
  ·have h8:=d4r t;rw[if_neg (by simpa using h4),if_neg h4,b9y];simp only[Ab];have hk:Aa.wrap ((1:Int)+((a0z t:Nat):Int))=((1+a0z t:Nat):Int):=by
    rw[a0d (by omega) (by omega)];omega
   rw[hk];by_cases hs:r.length<a0z t
   ·rw[f0k (by simp;omega),if_pos hs];simp only[Ab,e0v,DM,if_true];rw[c2p];rfl
   ·rw[f2e (by simp;omega),if_neg hs];simp only[Ab,decide_true,Br,AE,if_false];have hlen:(BO (1+a0z t) (t::r)).length=1+a0z t:=by rw[AC];simp;omega
    have hd:ER (1:Int).toNat (BO ((BO (1+a0z t) (t::r)).length:Int).toNat (BO (1+a0z t) (t::r)))=r.take (a0z t):=by
     rw[Ac,Aq,show(1:Int).toNat=1 from rfl,D0 1,BX];rfl
    rw[if_pos ⟨by omega,by rw[hlen];omega⟩,hd];have hq:∃q,q=r.take (a0z t):=⟨_,rfl⟩
    obtain⟨q,hq⟩:=hq;rw[←hq];have hql:q.length=a0z t:=by rw[hq,AC];omega
    have hqb:a1h q:=fun x hx=>hb x (Ar _ (Bk (hq ▸ hx)))
    have hr:=b8d hqb;rw[hql] at hr;have hX:(if decide (t=(1:Int))=true then(some ((((t,Aa.wrap (D2.wrap (Aa.wrap (numT q))),[],()):Vl),((1+a0z t:Nat):Int),UV.nil,()),()):Option ((Vl×Int×UV×Unit)×Unit)) else some ((((t,Aa.wrap (numT q),[],()):Vl),((1+a0z t:Nat):Int),UV.nil,()),())) =
      some ((((t,numV t (numT q),[],()):Vl),((1+a0z t:Nat):Int),UV.nil,()),()):=by
     unfold a0z at hr;unfold numV;by_cases h1:t=1
     ·rw[if_pos (by simpa using h1),if_pos h1];rw[if_pos h1] at hr;have h6:=f8g (numT q);rw[a0d (x:=numT q) (by omega) (by omega),a0d (x:=D2.wrap (numT q)) (by omega) (by omega)]
     ·rw[if_neg (by simpa using h1),if_neg h1];rw[if_neg h1] at hr;by_cases h2:t=2
      ·rw[if_pos h2]
      ·rw[if_neg h2] at hr ⊢;have:numT q<256:=by split at hr <;> omega
       rw[a0d (x:=numT q) (by omega) (by omega)]
    rw[a0i (r:=some ((((t,numV t (numT q),[],()):Vl),((1+a0z t:Nat):Int),UV.nil,()),())) (fun j=>((t,Aa.wrap (numT (q.take j)),[],()),(j:Int))) q.length (by show((t,Aa.wrap 0,[],()),_)=_;rfl) ?_ ?_ (by omega)]
    ·simp only[Ab];rw[e9s];simp only[Ab,AE,if_false];rw[a2r];simp only[Ab];cases mayV (t,numV t (numT q),[],()) with
     |true=>rfl
     |false=>rfl
    ·intro rec j hj;dsimp only;rw[if_pos (by simp <;> omega),a0a hj,Ac,a0b (by omega)];obtain⟨c,hc1,hc2,hc3⟩:=hqb.get hj;obtain⟨a,ha⟩:=g0w (l:=q.take j) fun x hx=>hqb x (Bk hx)
     rw[hc1,ha,g0g hc2];congr 1;rw[Am hj,e3g,ha,hc3,show((a*256+c:Nat):Int)=(a:Int)*256+(c:Int) by omega]
    ·intro rec;dsimp only;rw[if_neg (by simp),Aq];exact hX
theorem c5d{n:Nat}{ls:List (List Int)}(hn:ls.length<n)(hc:ls.length<1000000)(hl:ls.flatten.length<1000000):a0r n (ls,())=some ((ls.flatten,()),()):=by
 have hro:=a0p;have hpre:∀i,i≤ls.length→(ls.take i).flatten.length≤ls.flatten.length:=by
  intro i _;have:ls.flatten=(ls.take i).flatten++(ls.drop i).flatten:=by rw[←DP,List.take_append_drop]
  rw[this,Ap];omega
 have hstep:∀i (hi:i<ls.length),(ls.take (i+1)).flatten=(ls.take i).flatten++ls[i]:=by
  intro i hi;rw[Am hi,DP];simp
 unfold a0r a2z;dsimp only;refine a0i (fun i=>((((ls.take i).flatten.length:Nat):Int),(i:Int))) ls.length (by simp) ?_ ?_ hn
 ·intro rec i hi;have h1:=hpre (i+1) hi;rw[hstep i hi,Ap] at h1;dsimp only;rw[if_pos (by simp <;> omega),a0a hi,Ac,a0c hi,a0d (x:=((ls.take i).flatten.length:Int)+(ls[i].length:Int)) (by omega) (by omega),if_neg (by simp <;> omega),a0b (by omega),hstep i hi,Ap];congr 1
 ·intro rec;dsimp only;rw[if_neg (by simp),Aq];unfold g3f;dsimp only;rw[if_pos (by omega)];simp only[Ab];refine a0i (fun i=>((ls.take i).flatten,(i:Int))) ls.length (by simp) ?_ ?_ hn
  ·intro rec i hi;have h1:=hpre (i+1) hi;rw[hstep i hi,Ap] at h1;dsimp only;rw[if_pos (by simp <;> omega),a0a hi,Ac,a0c hi,if_pos (by omega),a0b (by omega),hstep i hi]
  ·intro rec;dsimp only;rw[if_neg (by simp),Aq]
theorem d9j{n:Nat}{z:Zn}(h:mayZ z)(hn:10≤n):b4m n (z,())=some ((b1p z,()),()):=by
 have hlz:=c7g h;obtain⟨h1,h2,h3,h4,h5,h6⟩:=h;unfold b4m;dsimp only;rw[if_neg (by simp <;> omega),a2r];simp only[Ab,h3,Br,AE,if_false];rw[a2r];simp only[Ab,h5,Br,AE,if_false];obtain⟨u,hu⟩:∃u:Nat,z.1=(u:Int):=⟨z.1.toNat,by omega⟩
 have hput:a6s n (Ae.wrap z.1,())=some ((putN z.1.toNat,()),()):=by
  rw[hu,a2f (by omega),a6u (by omega) hn,Ac]
 rw[hput];simp only[Ab];rw[c3y hn];simp only[Ab,h3,if_true];rw[c3y hn];simp only[Ab,h5,if_true];unfold b1p at hlz ⊢;have hfl:[putN z.1.toNat,valB z.2.1,valB z.2.2.1].flatten=putN z.1.toNat++(valB z.2.1++valB z.2.2.1):=by simp
 rw[c5d (by simp;omega) (by simp) (by rw[hfl];omega),hfl];simp only[Ab]
def c0e:Zn:=((0:Int),a2e,a2e,())
theorem d6p{n:Nat}{b:List Int}(hb:a1h b)(hl:b.length<1000000)(hn:11≤n) :
  b9d n (b,())=some (match c5s b with|some (z,k)=>(z,(k:Int),true,())|none=>(c0e,0,false,()),()):=by
 unfold b9d c5s;rw[a4s hb hl hn];simp only[Ab];cases hN:a3i b with
 |none=>rfl
 |some p =>
  obtain⟨u,k⟩:=p;obtain⟨hu,hk,_⟩:=a2g hb hN;dsimp only;simp only[Br,AE,if_false];by_cases h63:9223372036854775808≤u
  ·rw[if_pos h63,if_pos (by rw[a3g];simp;omega)];rfl
  rw[if_neg h63,a0d (x:=(u:Int)) (by omega) (by omega),if_neg (by simp <;> omega),if_pos (by omega),Ac,Ac,Aq,
   c0n (fun x hx=>hb x (Bf hx)) (by simp;omega) (by omega)]
  simp only[Ab];cases hV:c6t (b.drop k) with
  |none=>rfl
  |some p =>
   obtain⟨v,j⟩:=p;have hj:=(c2n hV).2;rw[AM] at hj;dsimp only;simp only[Br,AE,if_false];rw[a0d (x:=(k:Int)+(j:Int)) (by omega) (by omega),if_pos (by omega),show((k:Int)+(j:Int)).toNat=k+j by omega,
    c0n (fun x hx=>hb x (Bf hx)) (by simp;omega) (by omega)]
   simp only[Ab];cases hW:c6t (b.drop (k+j)) with
   |none=>rfl
   |some p =>
    obtain⟨v',j'⟩:=p;have hj':=(c2n hW).2;rw[AM] at hj';dsimp only;simp only[Br,AE,if_false];rw[a0d (x:=(k:Int)+(j:Int)+(j':Int)) (by omega) (by omega)];simp only[Ad,Ak,and_true,true_and];omega
end Go.Rb.R5

namespace Go.Rb.R5
open Go.Rb
theorem e1o(n:Nat)(t:Int):b4e n (t,())=some ((decide (1≤t∧t≤3),()),()):=by
 unfold b4e;dsimp only;by_cases h1:t=1
 ·subst h1;rfl
 by_cases h2:t=2
 ·subst h2;rfl
 by_cases h3:t=3
 ·subst h3;rfl
 ·have:¬(1≤t∧t≤3):=by omega
  simp[h1,h2,h3,this]
theorem e8k{n:Nat}{t:Int}{l:List Vl}(hv:∀v,v∈l→okV v)(h:a1i t l=true)(hl:l.length≤1000)(hn:2000≤n) :
  b9i n (l,())=some ((c0g l,()),()):=by
 have hro:=a0p;unfold b9i;dsimp only;cases l with
 |nil=>rfl
 |cons v r =>
  obtain⟨l,hlr⟩:∃l,v::r=l:=⟨_,rfl⟩
  have hne:l≠[]:=by rw[←hlr];simp
  have h0:0<l.length:=by rw[←hlr];simp
  have hz:(l.getD ((0:Int)).toNat ((0:Int),(0:Int),[],()))=v:=by rw[←hlr];rfl
  have hL:a3p l=l.foldl (fun m x=>if m≤x.2.1 then m else x.2.1) v.2.1:=by rw[←hlr];rfl
  have hlr2:=b1r hv;have hw64:=b4r hv;rw[hlr] at hlr2 hw64 hv hl h ⊢;rw[if_neg (by simp <;> omega),a0s (by omega) (by omega),hz];refine a0i (st:=fun i=>((l.take i).foldl (fun m x=>if m≤x.2.1 then m else x.2.1) v.2.1,(i:Int))) l.length (by simp) ?_ ?_ (by omega)
  ·intro rec i hi;dsimp only;rw[if_pos (by simp <;> omega),a0a hi,Ac,a0c hi,a0b (by omega),Am hi,Cy];rfl
  ·intro rec;dsimp only;rw[if_neg (by simp),Aq,←hL];refine a0i (st:=fun i=>((l.take i).map (fun v=>v.2.1 - a3p l),(i:Int))) l.length (by simp) ?_ ?_ (by omega)
   ·intro rec2 i hi;have hm:=Aj hi;dsimp only;rw[if_pos (by simp <;> omega),a0a hi,Ac,a0c hi,d8s (hv _ hm).2.1 hlr2 (d9g hm),if_pos (by simp <;> omega),a0b (by omega),map_take _ hi]
   ·intro rec2;dsimp only;have habove:(l.take l.length).map (fun v=>v.2.1 - a3p l)=a1u l:=by rw[Aq];rfl
    have hnum:Nums (a1u l):=b8m hv;rw[if_neg (by simp),habove,c9j hnum (by rw[a2y];omega) (by omega) (by rw[a2y];omega)];simp only[Ab];rw[b2j hnum (by rw[a2y];omega) (by omega) (by rw[a2y];omega),if_pos ⟨hw64,Av _⟩];simp only[Ab];rw[c8n hlr2.1 hlr2.2];simp only[Ab];have hzl:=b6v hlr2.1 hlr2.2;have hp:=a3r hzl;rw[a6z hzl (by omega)];simp only[Ab];have hmul:l.length*a2v (a1u l)≤l.length*64:=Nat.mul_le_mul_left _ hw64;rw[if_pos (by simp <;> omega),if_pos (by simp only[Ap,AZ,a4b,a2y];omega),b5r (by omega),b1x hne];simp
theorem b9e{n:Nat}{e t:Int}{l:List Vl}(hv:∀v,v∈l→okV v)(hl:l.length≤1000)(hn:2000≤n) :
  b1i n (e,t,l,())=some (if a6w e t=true∧a1i t l=true then(encB e t l,true,()) else([],false,()),()):=by
 have hro:=a0p;unfold b1i;dsimp only;refine a9u (I:=fun _ q=>(e=4→t≤3)∧(e=5→t≤2)∧a1i t l=true∧q=some (if a6w e t=true∧a1i t l=true then(encB e t l,true,()) else([],false,()),())) ?_ ?_
 ·rintro _ _ ⟨q4,q5,hr,rfl⟩;have hb:=a5g hr hv;rw[hr];by_cases c1:e=1
  ·subst c1;rw[if_pos (by simp),if_pos (by simp[a6w])];have he:encB 1 t l=l.flatMap oneV:=by simp[encB]
   rw[he];refine a0i (st:=fun i=>((l.take i).flatMap oneV,(i:Int))) l.length (by simp) ?_ ?_ (by omega)
   ·intro rec i hi;have h2:=a1t (d:=l.take i) fun v hv=>hb v (Bk hv)
    have h3:(l.take i).length≤l.length:=by simp <;> omega
    have h4:=c3f (hb _ (Aj hi)).1 (hb _ (Aj hi)).2;dsimp only;rw[if_pos (by simp <;> omega),a0a hi,Ac,a0c hi,c7v (hb _ (Aj hi)).1 (hb _ (Aj hi)).2 (by omega)];simp only[Ab];rw[if_pos (by omega),a0b (by omega),b6r _ hi]
   ·intro rec;dsimp only;rw[if_neg (by simp),Aq]
  rw[if_neg (by simpa using c1)];by_cases c2:e=2
  ·subst c2;rw[if_pos (by simp),if_pos (by simp[a6w])];have he:encB 2 t l=rleB l:=by simp[encB]
   rw[he];refine(a8m (I:=fun k (s:List Int×Int)=>∃i:Nat,s.2=(i:Int)∧i+k=l.length∧s.1.length+31*k≤40000) (res:=fun s=>some ((s.1++rleB (l.drop s.2.toNat),true,()),())) ?_ n l.length _ ⟨0,rfl,by omega,by simp <;> omega⟩ (by omega)).trans (by simp);rintro k ⟨acc,q⟩ rec ⟨i,rfl,h1,h2⟩ hrec;dsimp only at h2 ⊢;rw[Ac];by_cases hi:i<l.length
   rotate_left
   ·rw[if_neg (by simp <;> omega),C0.2 (by omega)];simp[c3i]
   have hm:=hb _ (Aj hi);have e0:=A7 hi;obtain⟨v,hve⟩:∃v,l[i]=v:=⟨_,rfl⟩
   have hgi:l.getD i ((0:Int),(0:Int),[],())=v:=by rw[a0c hi,hve]
   rw[hve] at hm e0;have hrn:=c8m v (l.drop (i+1));have hdl:(l.drop (i+1)).length=l.length - (i+1):=by simp
   rw[if_pos (by simp <;> omega)];refine a9u (I:=fun s q=>s=((1+runN v (l.drop (i+1)):Nat):Int)∧q=some ((acc++rleB (l.drop i),true,()),())) ?_ ?_
   ·rintro _ _ ⟨rfl,rfl⟩;have hp:=a3r (v:=1+runN v (l.drop (i+1))) (by omega);rw[a2f (by omega),a6z (by omega) (by omega)];simp only[Ab];have h5:=c3f hm.1 hm.2;rw[if_pos (by omega),a0a hi,hgi,c7v hm.1 hm.2 (by omega)];simp only[Ab];have hw:Aa.wrap ((i:Int)+((1+runN v (l.drop (i+1)):Nat):Int))=((i+(1+runN v (l.drop (i+1))):Nat):Int):=by
     rw[show((i:Int)+((1+runN v (l.drop (i+1)):Nat):Int))=((i+(1+runN v (l.drop (i+1))):Nat):Int) by omega,a0q (by omega)]
    rw[if_pos (by simp <;> omega),hw,hrec (k - (1+runN v (l.drop (i+1)))) _ (by omega) ⟨i+(1+runN v (l.drop (i+1))),rfl,by omega,by simp <;> omega⟩];dsimp only;rw[Ac,e0,b0v];have hd:l.drop (i+(1+runN v (l.drop (i+1))))=(l.drop (i+1)).drop (runN v (l.drop (i+1))):=by rw[Cb];congr 1;omega
    rw[hd];simp
   ·intro J hJ;have hcode:∀j:Nat,j<100000→Aa.wrap ((i:Int)+(j:Int))=((i+j:Nat):Int):=fun j hj=>by
     rw[show((i:Int)+(j:Int))=((i+j:Nat):Int) by omega,a0q (by omega)]
    refine a0i (st:=fun j=>((1+j:Nat):Int)) (runN v (l.drop (i+1))) rfl ?_ ?_ (by omega)
    ·intro rec2 j hj;have hlt:i+(1+j)<l.length:=by omega
     have e1:l.getD (i+(1+j)) ((0:Int),(0:Int),[],())=v:=by
      have:=e9v v hj;rw[a0c (by omega),Ec] at this;rw[a0c hlt,←this];congr 1;omega
     rw[hcode _ (by omega),if_pos (by simp <;> omega),a0a hlt,a0a hi];rw[if_pos (by simp only[Ac,e1,hgi,decide_true,Bool.and_self]),a0b (by omega)];congr 2
    ·intro rec2;rw[hcode _ (by omega)];by_cases hend:runN v (l.drop (i+1))<(l.drop (i+1)).length
     ·have hlt:i+(1+runN v (l.drop (i+1)))<l.length:=by omega
      have e1:l.getD (i+(1+runN v (l.drop (i+1)))) ((0:Int),(0:Int),[],())≠v:=by
       have:=e7n v hend;rw[Ec] at this;rw[a0c hlt];intro h;refine this (DY ?_ h);congr 1;omega
      rw[if_pos (by simp <;> omega),a0a hlt,a0a hi];rw[if_neg (by simp only[Ac,hgi,eqVl,decide_eq_true_eq];exact e1)];exact hJ _ _ ⟨rfl,rfl⟩
     ·rw[if_neg (by simp <;> omega)];exact hJ _ _ ⟨rfl,rfl⟩
  rw[if_neg (by simpa using c2)];by_cases c3:e=3
  ·subst c3;rw[if_pos (by simp),if_pos (by simp[a6w]),e8a hv hr hl hn];simp[encB]
  rw[if_neg (by simpa using c3)];by_cases c4:e=4
  ·subst c4;rw[if_pos (by simp),if_pos (by simp[a6w,q4]),e8k hv hr hl hn];simp[encB]
  rw[if_neg (by simpa using c4)];by_cases c5:e=5
  ·subst c5;have ht2:=q5 rfl;rw[if_pos (by simp),if_pos (by simp[a6w,ht2])];have he:encB 5 t l=a6a 0 l:=by simp[encB]
   rw[he];refine(a8m (I:=fun k (s:List Int×Int)=>∃i:Nat,s.2=(i:Int)∧i+k=l.length∧s.1.length+10*k≤20000) (res:=fun s=>some ((s.1++a6a (if s.2.toNat=0 then 0 else(l.getD (s.2.toNat - 1) ((0:Int),(0:Int),[],())).2.1) (l.drop s.2.toNat),true,()),())) ?_ n l.length _ ⟨0,rfl,by omega,by simp <;> omega⟩ (by omega)).trans (by simp);rintro k ⟨acc,q⟩ rec ⟨i,rfl,h1,h2⟩ hrec;dsimp only at h2 ⊢;rw[Ac];by_cases hi:i<l.length
   rotate_left
   ·rw[if_neg (by simp <;> omega),C0.2 (by omega)];simp[a6a]
   have hm:=hb _ (Aj hi);rw[if_pos (by simp <;> omega),a0a hi,A7 hi];obtain⟨last,hlast⟩:∃last,(if i=0 then(0:Int) else(l.getD (i - 1) ((0:Int),(0:Int),[],())).2.1)=last:=⟨_,rfl⟩
   rw[hlast];have h7:=b9o last l[i].2.1;have hz:=a8c last l[i].2.1;have h8:=a3r hz;have hgo:((a9z n (c8p last l[i].2.1,())).bind fun y18=>((a2p n (y18.1.1,())).bind fun y19=>(if(acc.length+y19.1.1.length)*1≤room then(rec ((acc++y19.1.1),(Aa.wrap ((i:Int)+1)))) else none)))=some ((acc++a6a last (l[i]::l.drop (i+1)),true,()),()):=by
    rw[c8n h7.1 h7.2];simp only[Ab];rw[a6z hz (by omega)];simp only[Ab];rw[if_pos (by omega),a0b (by omega),hrec (k - 1) _ (by omega) ⟨i+1,rfl,by omega,by simp <;> omega⟩];dsimp only;rw[Ac,if_neg (by omega),Nat.add_sub_cancel,a0c hi];simp only[a6a,Al]
   by_cases h0:i=0
   ·rw[if_neg (by simp <;> omega)];rw[if_pos h0] at hlast;have hst:c8p last l[i].2.1=l[i].2.1:=by
     unfold c8p;rw[←hlast,Int.sub_zero,a0d hm.2.2.1.1 hm.2.2.1.2]
    rw[hst] at hgo;rw[a0c hi];exact hgo
   ·rw[if_pos (by simp <;> omega),a0a hi];rw[if_neg h0] at hlast;have hw:Aa.wrap ((i:Int) - 1)=((i - 1:Nat):Int):=by
     rw[show((i:Int) - 1)=((i - 1:Nat):Int) by omega,a0q (by omega)]
    rw[hw,a0a (by omega)];simp only[Ac];rw[hlast,a0c hi];exact hgo
  ·rw[if_neg (by simpa using c5),if_neg];rintro⟨h,_⟩;simp[a6w,c1,c2,c3,c4,c5] at h
 ·intro J hJ;rw[e2s (by omega) (by omega)];simp only[Ab];by_cases hr:a1i t l=true
  rotate_left
  ·rw[if_pos (by simp[hr]),if_neg (fun h=>hr h.2)]
  ·obtain⟨ht1,ht4,_⟩:=a2m hr;rw[if_neg (by simp[hr]),e1o];simp only[Ab];by_cases c4:e=4
   ·subst c4;rw[if_pos (by simp)];by_cases h3:t≤3
    ·rw[if_neg (by simp <;> omega),if_neg (by simp)];exact hJ _ _ ⟨fun _=>h3,fun h=>by omega,hr,rfl⟩
    ·rw[if_pos (by simp <;> omega),if_neg];rintro⟨h,_⟩;simp[a6w] at h;omega
   ·rw[if_neg (by simpa using c4)];by_cases c5:e=5
    ·subst c5;rw[if_pos (by simp)];by_cases h1:t=1
     ·rw[if_neg (by simpa using h1)];exact hJ _ _ ⟨fun h=>by omega,fun _=>by omega,hr,rfl⟩
     rw[if_pos (by simpa using h1)];by_cases h2:t=2
     ·rw[if_neg (by simpa using h2)];exact hJ _ _ ⟨fun h=>by omega,fun _=>by omega,hr,rfl⟩
     ·rw[if_pos (by simpa using h2),if_neg];rintro⟨h,_⟩;simp[a6w] at h;omega
    ·rw[if_neg (by simpa using c5)];exact hJ _ _ ⟨fun h=>absurd h c4,fun h=>absurd h c5,hr,rfl⟩
theorem c5h(n:Nat)(e t:Int):b1u n (e,t,())=some (match b1o e t with|some u=>(u,true,())|none=>(0,false,()),()):=by
 unfold b1u b1o;dsimp only;rw[b0r];simp only[Ab];by_cases h1:1≤t∧t≤4
 rotate_left
 ·have:isT t=false:=by
   cases h:isT t with
   |false=>rfl
   |true=>exact absurd (d2n.1 h) h1
  rw[this,if_pos (by simp),if_neg (by omega)]
 rw[d2n.2 h1,if_neg (by simp)];by_cases h3:e<1
 ·rw[if_pos (by simpa using h3),if_neg (by omega)]
 rw[if_neg (by simpa using h3)];by_cases h4:5<e
 ·rw[if_pos (by simpa using h4),if_neg (by omega)]
 rw[if_neg (by simpa using h4)];have ht:t=1∨t=2∨t=3∨t=4:=by omega
 have he:e=5∨e=4∨e=3∨e=2∨e=1:=by omega
 rcases he with rfl|rfl|rfl|rfl|rfl <;> rcases ht with rfl|rfl|rfl|rfl <;> decide
theorem d4s{n:Nat}{l:List Bool}(hl:l.length<100000)(hn:l.length<n)(hn2:64<n):b1m n (l,())=some ((b3m l,()),()):=by
 have hro:=a0p;unfold b1m;dsimp only;rw[if_pos (by omega),Ac];refine a0i (st:=fun i=>((l.take i).map b2i++Ag (l.length - i) 0,(i:Int))) l.length (by simp) ?_ ?_ hn
 ·intro rec i hi;have hset:∀x:Int,((l.take i).map b2i++Ag (l.length - i) 0).set i x=(l.take i).map b2i++(x::Ag (l.length - (i+1)) 0):=by
   intro x;rw[List.set_append_right _ _ (by simp <;> omega),show l.length - i=(l.length - (i+1))+1 by omega,Cf];have:i - ((l.take i).map b2i).length=0:=by simp <;> omega
   rw[this,List.set_cons_zero]
  dsimp only;rw[if_pos (by simp <;> omega),a0a hi];simp only[Ac];rw[a0c hi,a0b (by omega),map_take _ hi];by_cases hx:l[i]=true
  ·rw[if_pos hx,a0a (by simp <;> omega),hset,hx];simp[b2i]
  ·rw[if_neg hx];have hx':l[i]=false:=by simpa using hx
   rw[hx',show l.length - i=(l.length - (i+1))+1 by omega,Cf];simp[b2i]
 ·intro rec;dsimp only;have hsm:=d4c l;have hnum:Nums (l.map b2i):=fun x hx=>⟨(hsm x hx).1,by have:=hsm x hx;omega⟩
  have hw:a2v (l.map b2i)≤1:=b7p.2 fun x hx=>(hsm x hx).2
  have:=b2j (n:=n) (w:=1) hnum (by simp <;> omega) hn2 (by simp <;> omega);rw[if_pos ⟨by omega,hw⟩] at this;rw[if_neg (by simp),Aq,CV,List.replicate_zero,A3];erw [this];rfl
theorem g1z(t:Int)(v:Vl):(mayV v&&(isT t&&(decide (v.1=0)||decide (v.1=t))))=a5f t v:=by
 unfold a5f isT;cases mayV v <;> simp
theorem f7k(l:List Vl):(a3b l).length<l.length↔l.any isN=true:=by
 unfold a3b;rw[List.length_filter_lt_length_iff_exists,G0];simp
theorem c0a{n:Nat}{e t:Int}{l:List Vl}(hv:∀v,v∈l→okV v)(hl:l.length≤1000)(hn:2000≤n) :
  a4j n (e,t,l,())=some (match b1z e t l with|some b=>(b,true,())|none=>([],false,()),()):=by
 have hro:=a0p;unfold a4j b1z;dsimp only;rw[c5h];simp only[Ab];cases hu:b1o e t with
 |none=>rfl
 |some u =>
  obtain⟨u1,u2,u3,u4,u5,_⟩:=a8f hu;dsimp only;rw[if_neg (by simp)];refine(a8m (I:=fun k (s:List Bool×List Vl×Int)=>∃i:Nat,s=((l.take i).map isN,a3b (l.take i),(i:Int))∧i+k=l.length∧∀v,v∈l.take i→a5f t v=true)
   (res:=fun s=>some (if(l.drop s.2.2.toNat).all (a5f t)=true then(colB u t l,true,()) else([],false,()),())) ?_ n l.length _ ⟨0,by simp[a3b],by omega,by simp⟩ (by omega)).trans ?_
  ·rintro k _ rec ⟨i,rfl,h1,h2⟩ hrec;dsimp only;rw[Ac];by_cases hi:i<l.length
   ·have hsl:=b3c (l.take i);have hti:(l.take i).length≤1000:=by simp <;> omega
    rw[if_pos (by simp <;> omega),a0a hi,a0c hi,c5e];simp only[Ab];rw[g1z,A7 hi,BD];cases hf:a5f t l[i] with
    |false=>rw[if_pos (by simp),if_neg (by simp)]
    |true =>
     have hnext:∀v,v∈l.take (i+1)→a5f t v=true:=by
      intro v hm;rw[Am hi] at hm;rcases Ao.1 hm with hm|hm
      ·exact h2 v hm
      ·simp at hm;subst hm;exact hf
     rw[if_neg (by simp),a0a hi,if_pos (by simp <;> omega),a0a hi,a0b (by omega)];have e1:(l.take i).map isN++[decide (l[i].1=0)]=(l.take (i+1)).map isN:=by
      rw[Am hi,List.map_append];rfl
     rw[e1];have e2:a3b (l.take (i+1))=a3b (l.take i)++a3b [l[i]]:=by
      unfold a3b;rw[Am hi,List.filter_append]
     cases hN:isN l[i] with
     |true =>
      have h0:l[i].1=0:=by simpa[isN] using hN
      have e3:a3b (l.take i)=a3b (l.take (i+1)):=by rw[e2];simp[a3b,hN]
      rw[if_neg (by simp[h0]),e3,hrec (k - 1) _ (by omega) ⟨i+1,rfl,by omega,hnext⟩];dsimp only;rw[Ac,Bd]
     |false =>
      have h0:¬l[i].1=0:=by simpa[isN] using hN
      have e3:a3b (l.take i)++[l[i]]=a3b (l.take (i+1)):=by rw[e2];simp[a3b,hN]
      rw[if_pos (by simp[h0]),a0a hi,if_pos (by simp <;> omega),e3,hrec (k - 1) _ (by omega) ⟨i+1,rfl,by omega,hnext⟩];dsimp only;rw[Ac,Bd]
   ·have hil:i=l.length:=by omega
    subst hil;rw[Aq] at h2 ⊢;have hr:=a8a ⟨u2,u3⟩ h2;have hok:=b2p hv;have hsl:=b3c l;have hEL:=e0r (e:=u) hr hok (by omega);have hHL:=e6i u hl;rw[if_neg (by simp),EM,if_pos (by simp)];refine a9u (I:=fun s q=>s=d0n u l∧q=some ((colB u t l,true,()),())) ?_ ?_
    ·rintro _ _ ⟨rfl,rfl⟩;rw[b9e hok (by omega) hn,if_pos ⟨u1,hr⟩];simp only[Ab];rw[if_pos (by omega),e2h]
    ·intro J hJ;rw[a3u (by omega) (by omega)];by_cases ha:l.any isN=true
     ·have hlt:=(f7k l).2 ha;rw[if_pos (by simp only[decide_eq_true_eq];omega),a0s (by omega) (by simp),d4s (by simp <;> omega) (by simp <;> omega) (by omega)];simp only[Ab];have hnl:=b0x (l.map isN);rw[Bb] at hnl;rw[if_pos (by simp <;> omega)];exact hJ _ _ ⟨by unfold d0n;rw[if_pos ha];rfl,rfl⟩
     ·have hlt:¬(a3b l).length<l.length:=fun h=>ha ((f7k l).1 h)
      rw[if_neg (by simp only[decide_eq_true_eq];omega)];exact hJ _ _ ⟨by unfold d0n;rw[if_neg ha],rfl⟩
  ·dsimp only;rw[show Int.toNat 0=0 from rfl,Dk];split <;> rfl
end Go.Rb.R5

namespace Go.Rb.R5
open Go.Rb
def c0f(v:Vl):Int:=if v.1=0 then 0 else if v.1=4 then 2 else 1
def cmpG(x y:Vl):Int:=if c0f x=c0f y then(if x.1=0 then 0 else if x.1=4 then cmpI x.2.2.1 y.2.2.1 else cmpZ x.2.1 y.2.1) else cmpZ (c0f x) (c0f y)
theorem c1q(n:Nat)(v:Vl):a9x n (v,())=some ((c0f v,()),()):=by
 unfold a9x c0f;dsimp only;by_cases h1:v.1=0
 ·simp[h1]
 ·by_cases h2:v.1=4 <;> simp[h1,h2]
theorem f4z(n:Nat)(x y:Int):a6r n (x,y,())=some ((cmpZ x y,()),()):=by
 unfold a6r a8i cmpZ;dsimp only;simp only[decide_true,Br,AE,if_false,Ab];by_cases h1:x<y
 ·simp[h1]
 ·by_cases h2:y<x <;> simp[h1,h2]
theorem e2n(n:Nat)(x y:Int):a5a n (x,y,())=some ((cmpZ x y,()),()):=by
 unfold a5a a6f cmpZ;dsimp only;simp only[decide_true,Br,AE,if_false,Ab];by_cases h1:x<y
 ·simp[h1]
 ·by_cases h2:y<x <;> simp[h1,h2]
theorem e2f{x y:Int}:cmpZ x y=0↔x=y:=by
 unfold cmpZ;split
 ·constructor <;> intro h <;> omega
 ·split <;> constructor <;> intro h <;> omega
theorem a6x(n:Nat)(x y:Vl):a2j n (x,y,())=some ((cmpG x y,()),()):=by
 unfold a2j;rw[c1q];simp only[Ab];rw[c1q];simp only[Ab];rw[f4z];simp only[Ab];unfold cmpG;by_cases h:c0f x=c0f y
 ·rw[if_pos h];have h0:=e2f.2 h;rw[if_neg (by simp[h0]),h0];by_cases h1:x.1=0
  ·simp[h1]
  ·by_cases h2:x.1=4
   ·rw[if_neg (by simpa using h1),if_pos (by simpa using h2),if_neg h1,if_pos h2];unfold a9c a2n csF;simp
   ·rw[if_neg (by simpa using h1),if_neg (by simpa using h2),if_neg h1,if_neg h2,e2n];simp
 ·rw[if_neg h,if_pos (by simpa using fun q=>h (e2f.1 q))]
theorem e1z(x y:Int):cmpZ y x=-cmpZ x y:=by
 unfold cmpZ;by_cases h1:x<y
 ·rw[if_neg (by omega),if_pos h1,if_pos h1];rfl
 ·by_cases h2:y<x
  ·rw[if_pos h2,if_neg h1,if_pos h2]
  ·rw[if_neg h2,if_neg h1,if_neg h1,if_neg h2];rfl
theorem e5x:∀x y:List Int,cmpI y x=-cmpI x y
 |[],[]=>rfl
 |[],_::_=>rfl
 |_::_,[]=>rfl
 |a::x,b::y=>by
  unfold cmpI;by_cases h1:a<b
  ·rw[if_neg (by omega),if_pos h1,if_pos h1];rfl
  ·by_cases h2:b<a
   ·rw[if_pos h2,if_neg h1,if_pos h2]
   ·rw[if_neg h2,if_neg h1,if_neg h1,if_neg h2];exact e5x x y
theorem e2i(x y:Vl):cmpG y x=-cmpG x y:=by
 unfold cmpG;by_cases h:c0f x=c0f y
 ·rw[if_pos h.symm,if_pos h];have h1:x.1=0↔y.1=0:=by
   unfold c0f at h;constructor <;> intro q <;> simp only[q,if_true] at h <;> (split at h <;> (try split at h)) <;> omega
  have h2:x.1=4↔y.1=4:=by
   unfold c0f at h;constructor <;> intro q <;> simp only[q,if_true] at h <;> (split at h <;> (try split at h)) <;> omega
  by_cases h3:x.1=0
  ·rw[if_pos (h1.1 h3),if_pos h3];rfl
  ·rw[if_neg (fun q=>h3 (h1.2 q)),if_neg h3];by_cases h4:x.1=4
   ·rw[if_pos (h2.1 h4),if_pos h4];exact e5x _ _
   ·rw[if_neg (fun q=>h4 (h2.2 q)),if_neg h4];exact e1z _ _
 ·rw[if_neg (fun q=>h q.symm),if_neg h];exact e1z _ _
def minF(m v:Vl):Vl:=if cmpG v m<0 then v else m
def maxF(m v:Vl):Vl:=if 0<cmpG v m then v else m
def a6p(l:List Vl):Zn:=match a3b l with
 |[]=>((l.length:Int),a2e,a2e,())
 |v::r=>((l.length:Int) - ((v::r).length:Int),(v::r).foldl minF v,(v::r).foldl maxF v,())
theorem d5h{f:Vl→Vl→Vl}(hf:∀a b,f a b=a∨f a b=b):∀(l:List Vl) (a:Vl),l.foldl f a=a∨l.foldl f a∈l
 |[],a=>.inl rfl
 |b::l,a=>by
  rw[List.foldl_cons];rcases d5h hf l (f a b) with h|h
  ·rw[h];rcases hf a b with h|h <;> rw[h]
   ·exact .inl rfl
   ·exact .inr (by simp)
  ·exact .inr (Ar _ h)
theorem g7f(a b:Vl):minF a b=a∨minF a b=b:=by unfold minF;split <;> simp
theorem g5t(a b:Vl):maxF a b=a∨maxF a b=b:=by unfold maxF;split <;> simp
theorem e6e:mayV a2e=true:=by decide
theorem f1u:okV a2e:=by unfold okV a2e;decide
theorem f5b{l:List Vl}(hl:l.length<1000000)(h:∀v,v∈l→mayV v=true∧okV v):mayZ (a6p l):=by
 have hs:=b3c l;unfold a6p;split
 ·exact⟨by dsimp only;omega,by dsimp only;omega,e6e,f1u,e6e,f1u⟩
 ·rename_i v r hv;rw[hv] at hs;have hm:∀x,x∈v::r→mayV x=true∧okV x:=fun x hx=>h x (by
   rw[←hv] at hx;exact(List.mem_filter.1 hx).1)
  have h1:(v::r).foldl minF v∈v::r:=(d5h g7f _ _).elim (fun h=>by rw[h];simp) id;have h2:(v::r).foldl maxF v∈v::r:=(d5h g5t _ _).elim (fun h=>by rw[h];simp) id;exact⟨by dsimp only;omega,by dsimp only;omega,(hm _ h1).1,(hm _ h1).2,(hm _ h2).1,(hm _ h2).2⟩
theorem d7s{f:Vl→Vl→Vl}{l:List Vl}{a:Vl}{i:Nat}(hi:i<l.length):(l.take (i+1)).foldl f a=f ((l.take i).foldl f a) l[i]:=by
 rw[Am hi,Cy];rfl
theorem c9r{n:Nat}{l:List Vl}(hl:l.length<100000)(hn:l.length<n):c2f n (l,())=some ((a6p l,()),()):=by
 have hs:=b3c l;unfold c2f a0e;simp only[Ab];rw[c1v (q:=isN) (fun v _=>by unfold c5f isN;rfl) hl hn];simp only[Ab];have hq:(l.filter fun v=>!isN v)=a3b l:=rfl;rw[hq];unfold a6p;cases hsv:a3b l with
 |nil =>
  rw[if_pos (by simp),a0d (by simp <;> omega) (by simp <;> omega)];simp[a2e]
 |cons v r =>
  rw[hsv] at hs;rw[if_neg (by simp <;> omega),a0s (by simp) (by simp <;> omega),a0s (by simp) (by simp <;> omega)];dsimp only;obtain⟨q,hq⟩:∃q,q=v::r:=⟨_,rfl⟩
  rw[←hq] at hs ⊢;have hv:q.getD (0:Int).toNat ((0:Int),(0:Int),[],())=v:=by rw[hq];rfl
  rw[hv,a0d (x:=(l.length:Int) - (q.length:Int)) (by omega) (by omega)];refine a0i (fun i=>(((l.length:Int) - (q.length:Int),(q.take i).foldl minF v,(q.take i).foldl maxF v,()),(i:Int))) q.length (by simp) ?_ ?_ (by omega)
  ·intro rec i hi;dsimp only;rw[if_pos (by simp <;> omega),a0a hi,Ac,a0c hi,a6x,d7s hi,d7s hi,a0b (by omega)];simp only[Ab];generalize (q.take i).foldl minF v=a;generalize (q.take i).foldl maxF v=b;unfold minF maxF;by_cases h1:cmpG q[i] a<0
   ·rw[if_pos (by simpa using h1),if_pos h1,a6x];simp only[Ab];by_cases h2:0<cmpG q[i] b
    ·rw[if_pos (by simpa using h2),if_pos h2]
    ·rw[if_neg (by simpa using h2),if_neg h2]
   ·rw[if_neg (by simpa using h1),if_neg h1,a6x];simp only[Ab];by_cases h2:0<cmpG q[i] b
    ·rw[if_pos (by simpa using h2),if_pos h2]
    ·rw[if_neg (by simpa using h2),if_neg h2]
  ·intro rec;dsimp only;rw[if_neg (by simp),Aq]
def eqZ(x y:Zn):Bool:=decide (x.1=y.1)&&(decide (x.2.1=y.2.1)&&decide (x.2.2.1=y.2.2.1))
theorem f7n{x y:Zn}:eqZ x y=true↔x=y:=by
 unfold eqZ;obtain⟨a,b,c,u⟩:=x;obtain⟨a',b',c',u'⟩:=y;simp
theorem d6j(n:Nat)(x y:Zn):b8p n (x,y,())=some ((eqZ x y,()),()):=by
 unfold b8p eqZ;dsimp only;rw[eqVl,eqVl]
def a9s(l:List Vl):Bool:=(AA (l.length - 1)).all fun i=>decide (0≤cmpG (l.getD (i+1) a2e) (l.getD i a2e))
theorem d6c{p:Nat→Bool}(k:Nat):(AA (k+1)).all p=((AA k).all p&&p k):=by
 rw[G5,List.all_append];simp
theorem e0e{n:Nat}{l:List Vl}{c:Vl→Vl→Option Int}(hc:∀x y,c x y=some (cmpG x y))(hl:l.length<100000)(hn:l.length<n):a1d n (l,c,())=some ((a9s l,()),()):=by
 unfold a1d a9s;dsimp only;have key:∀(k m:Nat),k≤l.length - 1→k<m→a0h (fun rec2 (s1:Int)=>(if(decide ((0:Int)<s1))=true then(atI s1 l.length (atI (Aa.wrap (s1 - 1)) l.length ((c (l.getD s1.toNat ((0:Int),(0:Int),[],())) (l.getD (Aa.wrap (s1 - 1)).toNat ((0:Int),(0:Int),[],()))).bind fun y3=>(if(decide (y3<0))=true then(some ((false,()),())) else(rec2 (Aa.wrap (s1 - 1))))))) else(some ((true,()),())))) m (k:Int)=some (((AA k).all fun i=>decide (0≤cmpG (l.getD (i+1) a2e) (l.getD i a2e)),()),()):=by
  intro k
  induction k with
  |zero =>
   intro m _ hm;obtain⟨m,rfl⟩:∃m',m=m'+1:=⟨m - 1,by omega⟩
   unfold a0h;rw[if_neg (by simp)];simp
  |succ k ih =>
   intro m hk hm;obtain⟨m,rfl⟩:∃m',m=m'+1:=⟨m - 1,by omega⟩
   unfold a0h;have hw:Aa.wrap (((k+1:Nat):Int) - 1)=(k:Int):=by rw[a0d (by omega) (by omega)];omega
   rw[if_pos (by simp <;> omega),a0a (by omega),hw,a0a (by omega),Ac,Ac,hc];simp only[Ab];rw[d6c];by_cases h:cmpG (l.getD (k+1) ((0:Int),(0:Int),[],())) (l.getD k ((0:Int),(0:Int),[],()))<0
   ·rw[if_pos (by simpa using h)];have:decide (0≤cmpG (l.getD (k+1) a2e) (l.getD k a2e))=false:=by exact decide_eq_false (by unfold a2e;omega)
    rw[this,Bool.and_false]
   ·rw[if_neg (by simpa using h),ih m (by omega) (by omega)];have:decide (0≤cmpG (l.getD (k+1) a2e) (l.getD k a2e))=true:=by exact decide_eq_true (by unfold a2e;omega)
    rw[this,Bool.and_true]
 by_cases h0:l.length=0
 ·obtain⟨m,rfl⟩:∃m',n=m'+1:=⟨n - 1,by omega⟩
  rw[h0];unfold a0h;rw[if_neg (by rw[a0d (by simp) (by simp)];simp)];simp
 ·rw[show Aa.wrap ((l.length:Int) - 1)=((l.length - 1:Nat):Int) by rw[a0d (by omega) (by omega)];omega];exact key _ _ (Av _) (by omega)
theorem e1n{n:Nat}{cs:List (List Vl)}{i:Int}(hi:0≤i∧i<cs.length)(hl:∀l,l∈cs→l.length<100000∧l.length<n):c3p n (cs,i,())=some ((a9s (cs.getD i.toNat []),()),()):=by
 have hil:i.toNat<cs.length:=by omega
 obtain⟨h1,h2⟩:=hl _ (Aj hil);unfold c3p;dsimp only;rw[if_neg (by simp <;> omega),if_neg (by simp <;> omega),a0s hi.1 hi.2,a0c hil,e0e (fun x y=>by rw[a6x];rfl) h1 h2];simp
end Go.Rb.R5

namespace Go.Rb.R5
open Go.Rb
abbrev Sg:Type:=Int×Int×Int×List Int×List Int×List Zn×List (List Vl)×Unit
def a9q(cs:List (List Vl)):Nat:=(cs.getD 0 []).length
def e7q(m:Nat)(t e:Int)(z:Zn)(l:List Vl):Bool:=decide (b1o e t=some e)&&(decide (l.length=m)&&(eqZ z (a6p l)&&l.all (a5f t)))
def b8g(s:Sg):Prop:=0≤s.1∧s.1≤200∧0≤s.2.1∧s.2.1<4∧1≤s.2.2.2.2.2.2.1.length∧s.2.2.2.2.2.2.1.length≤6∧s.2.2.2.1.length=s.2.2.2.2.2.2.1.length∧s.2.2.2.2.1.length=s.2.2.2.2.2.2.1.length ∧
 s.2.2.2.2.2.1.length=s.2.2.2.2.2.2.1.length∧1≤a9q s.2.2.2.2.2.2.1∧a9q s.2.2.2.2.2.2.1≤16∧0≤s.2.2.1∧s.2.2.1≤s.2.2.2.2.2.2.1.length
instance (s:Sg):Decidable (b8g s):=by unfold b8g;infer_instance
def c4m(s:Sg)(i:Nat):Bool:=e7q (a9q s.2.2.2.2.2.2.1) (s.2.2.2.1.getD i 0) (s.2.2.2.2.1.getD i 0) (s.2.2.2.2.2.1.getD i c0e) (s.2.2.2.2.2.2.1.getD i [])
def a5j(s:Sg):Bool:=decide (b8g s)&&((AA s.2.2.2.2.2.2.1.length).all (c4m s)&&(decide (s.2.2.1=0)||a9s (s.2.2.2.2.2.2.1.getD (s.2.2.1 - 1).toNat [])))
theorem b0j(n:Nat)(s:Sg)(hl:∀l,l∈s.2.2.2.2.2.2.1→l.length<100000):a7p n (s,())=some ((((a9q s.2.2.2.2.2.2.1:Nat):Int),()),()):=by
 unfold a7p a9q;dsimp only;by_cases h:s.2.2.2.2.2.2.1.length=0
 ·rw[if_pos (by simp[h]),List.length_eq_zero_iff.1 h];rfl
 ·rw[if_neg (by rw[decide_eq_true_eq];omega),a0s (i:=(0:Int)) (by omega) (by omega)];rfl
theorem e7w{α:Type}(l:List α)(p:α→Bool):(!(l.any fun v=>!p v))=l.all p:=by
 induction l with
 |nil=>rfl
 |cons a l ih=>rw[List.any_cons,BD,←ih];cases p a <;> simp
theorem e6s{n:Nat}{s:Sg}{i:Nat}(h1:i<s.2.2.2.1.length)(h2:i<s.2.2.2.2.1.length)(h3:i<s.2.2.2.2.2.1.length)(h4:i<s.2.2.2.2.2.2.1.length)(hl:∀l,l∈s.2.2.2.2.2.2.1→l.length<100000)(hn:100000≤n) :
  c6f n (s,(i:Int),())=some ((c4m s i,()),()):=by
 have hli:=hl _ (Aj h4);unfold c6f c4m e7q;dsimp only;rw[a0a h2,a0a h1,Ac,b3i];simp only[Ab];rw[a0a h4];cases hu:b1o (s.2.2.2.2.1.getD i 0) (s.2.2.2.1.getD i 0) with
 |none=>simp
 |some u =>
  dsimp only;rw[if_pos rfl,a0a h2];by_cases he:u=s.2.2.2.2.1.getD i 0
  ·rw[if_pos (by simpa using he),b0j n s hl];simp only[Ab];rw[←he];simp only[decide_true,Bd];by_cases hr:(s.2.2.2.2.2.2.1.getD i []).length=a9q s.2.2.2.2.2.2.1
   ·rw[if_pos (decide_eq_true (by omega)),a0a h3,a0c h4];rw[a0c h4] at hr;rw[c9r hli (by omega)];simp only[Ab];rw[d6j];simp only[Ab];rw[show s.2.2.2.2.2.1.getD i ((0:Int),((0:Int),(0:Int),[],()),((0:Int),(0:Int),[],()),())=s.2.2.2.2.2.1.getD i c0e from rfl];simp only[hr,decide_true,Bd];cases hz:eqZ (s.2.2.2.2.2.1.getD i c0e) (a6p s.2.2.2.2.2.2.1[i]) with
    |false=>simp
    |true =>
     rw[if_pos rfl,b2g (q:=fun v=>!a5f (s.2.2.2.1.getD i 0) v) (fun v _=>by
      unfold c4s;dsimp only;rw[a0a h1,Ac,c0r];rfl) hli (by omega)]
     simp only[Ab,e7w,Bd]
   ·rw[if_neg (by rw[decide_eq_true_eq];omega),decide_eq_false hr,BY]
  ·rw[if_neg (by simpa using he)];have:¬(some u=some (s.2.2.2.2.1.getD i 0)):=by simpa using he
   simp only[this,decide_false,BY]
theorem b3a{n:Nat}{s:Sg}(hl:∀l,l∈s.2.2.2.2.2.2.1→l.length<100000)(hn:100001≤n):b0g n (s,())=some ((a5j s,()),()):=by
 unfold b0g a5j;dsimp only;rw[b0j n s hl];simp only[Ab];by_cases hA:b8g s
 ·simp only[hA,decide_true,Bd];obtain⟨a1,a2,a3,a4,a5,a6,a7,a8,a9,a10,a11,a12,a13⟩:=hA;rw[if_neg (by simp <;> omega),if_neg (by simp <;> omega),if_neg (by simp <;> omega),if_neg (by simp <;> omega),if_neg (by simp <;> omega),if_neg (by simp <;> omega),if_neg (by simp <;> omega),if_neg (by simp <;> omega),if_neg (by simp <;> omega),
   if_neg (by simp <;> omega),if_neg (by simp <;> omega),if_neg (by simp <;> omega),if_neg (by simp <;> omega)]
  rw[b7m (AA s.2.2.2.2.2.2.1.length) (c4m s) (some ((false,()),())) (some ((decide (s.2.2.1=0)||a9s (s.2.2.2.2.2.2.1.getD (s.2.2.1 - 1).toNat []),()),())) (by simp;omega)]
  ·cases(AA s.2.2.2.2.2.2.1.length).all (c4m s) <;> simp
  ·intro rec i hi;have hi':i<s.2.2.2.2.2.2.1.length:=by simpa using hi
   rw[if_pos (by simp <;> omega),e6s (by omega) (by omega) (by omega) hi' hl (by omega),a0b (by omega),List.getElem_range];simp only[Ab];cases c4m s i <;> simp
  ·intro rec;rw[if_neg (by simp)];by_cases h0:s.2.2.1=0
   ·rw[if_pos (by simpa using h0)];simp[h0]
   ·rw[if_neg (by simpa using h0),a0d (by omega) (by omega),e1n (by omega) (fun l h=>⟨hl l h,by have:=hl l h;omega⟩)];simp[h0]
 ·simp only[hA,decide_false,BY];by_cases c1:s.1<0
  ·rw[if_pos (decide_eq_true (by omega))]
  rw[if_neg (by rw[decide_eq_true_eq];omega)];by_cases c2:200<s.1
  ·rw[if_pos (decide_eq_true (by omega))]
  rw[if_neg (by rw[decide_eq_true_eq];omega)];by_cases c3:s.2.1<0
  ·rw[if_pos (decide_eq_true (by omega))]
  rw[if_neg (by rw[decide_eq_true_eq];omega)];by_cases c4:4≤s.2.1
  ·rw[if_pos (decide_eq_true (by omega))]
  rw[if_neg (by rw[decide_eq_true_eq];omega)];by_cases c5:s.2.2.2.2.2.2.1.length<1
  ·rw[if_pos (decide_eq_true (by omega))]
  rw[if_neg (by rw[decide_eq_true_eq];omega)];by_cases c6:6<s.2.2.2.2.2.2.1.length
  ·rw[if_pos (decide_eq_true (by omega))]
  rw[if_neg (by rw[decide_eq_true_eq];omega)];by_cases c7:s.2.2.2.1.length≠s.2.2.2.2.2.2.1.length
  ·rw[if_pos (by rw[A8,decide_eq_false_iff_not];omega)]
  rw[if_neg (by rw[A8,decide_eq_false_iff_not];omega)];by_cases c8:s.2.2.2.2.1.length≠s.2.2.2.2.2.2.1.length
  ·rw[if_pos (by rw[A8,decide_eq_false_iff_not];omega)]
  rw[if_neg (by rw[A8,decide_eq_false_iff_not];omega)];by_cases c9:s.2.2.2.2.2.1.length≠s.2.2.2.2.2.2.1.length
  ·rw[if_pos (by rw[A8,decide_eq_false_iff_not];omega)]
  rw[if_neg (by rw[A8,decide_eq_false_iff_not];omega)];by_cases c10:a9q s.2.2.2.2.2.2.1<1
  ·rw[if_pos (decide_eq_true (by omega))]
  rw[if_neg (by rw[decide_eq_true_eq];omega)];by_cases c11:16<a9q s.2.2.2.2.2.2.1
  ·rw[if_pos (decide_eq_true (by omega))]
  rw[if_neg (by rw[decide_eq_true_eq];omega)];by_cases c12:s.2.2.1<0
  ·rw[if_pos (decide_eq_true (by omega))]
  rw[if_neg (by rw[decide_eq_true_eq];omega)];by_cases c13:(s.2.2.2.2.2.2.1.length:Int)<s.2.2.1
  ·rw[if_pos (decide_eq_true (by omega))]
  rw[if_neg (by rw[decide_eq_true_eq];omega)];exact absurd ⟨by omega,by omega,by omega,by omega,by omega,by omega,by omega,by omega,by omega,by omega,by omega,by omega,by omega⟩ hA
def twoB(k:Nat):List Int:=[((k / 256 % 256:Nat):Int),((k % 256:Nat):Int)]
theorem c9y{n k:Nat}(hk:k<1000000):b0i n ((k:Int),())=some ((twoB k,()),()):=by
 unfold b0i twoB;dsimp only;have h1:(2:Int) ^ min (8:Int).toNat Aa.bits=((256:Nat):Int):=by decide
 rw[h1,d1p,c1o,c1o];simp only[Ad,Ak,List.cons.injEq,and_true];omega
def crB(t e:Int)(z:Zn)(l:List Vl):List Int:=t::(b1p z++(twoB (colB e t l).length++colB e t l))
def crAt(s:Sg)(i:Nat):List Int:=crB (s.2.2.2.1.getD i 0) (s.2.2.2.2.1.getD i 0) (s.2.2.2.2.2.1.getD i c0e) (s.2.2.2.2.2.2.1.getD i [])
def b8z(s:Sg):List Int:=83::71::(twoB s.1.toNat++[s.2.1,s.2.2.1,(s.2.2.2.2.2.2.1.length:Int),(a9q s.2.2.2.2.2.2.1:Int)])
def b3p(s:Sg)(k:Nat):List Int:=(AA k).flatMap (crAt s)
def segB(s:Sg):List Int:=b8z s++b3p s s.2.2.2.2.2.2.1.length
theorem c1n(s:Sg):(b8z s).length=8:=by simp[b8z,twoB]
structure ColFine (t e:Int) (z:Zn) (l:List Vl):Prop where
 used:b1o e t=some e
 rows:l.length≤16
 zone:z=a6p l
 fits:∀v,v∈l→a5f t v=true
 ok:∀v,v∈l→okV v
theorem g0z{t:Int}{v:Vl}(h:a5f t v=true):mayV v=true:=by
 unfold a5f at h;simp only[Af] at h;exact h.1.1
theorem ColFine.zmay{t e:Int}{z:Zn}{l:List Vl}(h:ColFine t e z l):mayZ z:=by
 have:=h.rows;rw[h.zone];exact f5b (by omega) fun v hv=>⟨g0z (h.fits v hv),h.ok v hv⟩
theorem ColFine.len{t e:Int}{z:Zn}{l:List Vl}(h:ColFine t e z l):(crB t e z l).length≤32100∧(colB e t l).length≤32000:=by
 have h1:=c7g h.zmay;obtain⟨_,u2,u3,_⟩:=a8f h.used;have hr:=h.rows;have h2:=g2q (u:=e) ⟨u2,u3⟩ h.fits h.ok (by omega);unfold crB twoB;simp only[A6,Ap,List.length_nil];omega
theorem d1b{s:Sg}(h:a5j s=true)(hv:∀l,l∈s.2.2.2.2.2.2.1→∀v,v∈l→okV v):b8g s∧∀i,i<s.2.2.2.2.2.2.1.length→ColFine (s.2.2.2.1.getD i 0) (s.2.2.2.2.1.getD i 0) (s.2.2.2.2.2.1.getD i c0e) (s.2.2.2.2.2.2.1.getD i []):=by
 unfold a5j at h;simp only[Af,decide_eq_true_eq] at h;obtain⟨h1,h2,_⟩:=h;refine⟨h1,fun i hi=>?_⟩;have h3:=AK.1 h2 i (List.mem_range.2 hi);unfold c4m e7q at h3;simp only[Af,decide_eq_true_eq] at h3;obtain⟨q1,q2,q3,q4⟩:=h3;have h16:=h1.2.2.2.2.2.2.2.2.2.2.1;refine⟨q1,by rw[q2];exact h16,f7n.1 q3,fun v hv'=>AK.1 q4 v hv',fun v hv'=>hv _ (by rw[a0c hi];exact Aj hi) v hv'⟩
theorem c3k(s:Sg)(k:Nat):b3p s (k+1)=b3p s k++crAt s k:=by
 unfold b3p;rw[G5,List.flatMap_append];simp
theorem c1u{s:Sg}(h:∀i,i<s.2.2.2.2.2.2.1.length→ColFine (s.2.2.2.1.getD i 0) (s.2.2.2.2.1.getD i 0) (s.2.2.2.2.2.1.getD i c0e) (s.2.2.2.2.2.2.1.getD i [])):∀k,k≤s.2.2.2.2.2.2.1.length→(b3p s k).length≤32100*k
 |0,_=>by simp[b3p]
 |k+1,hk=>by
  have h1:=c1u h k (by omega);have h2:=(h k (by omega)).len.1;rw[c3k,Ap];unfold crAt;omega
theorem f7f{n:Nat}{s:Sg}(hA:b8g s)(hC:∀i,i<s.2.2.2.2.2.2.1.length→ColFine (s.2.2.2.1.getD i 0) (s.2.2.2.2.1.getD i 0) (s.2.2.2.2.2.1.getD i c0e) (s.2.2.2.2.2.2.1.getD i []))(hn:1000000≤n){i:Nat}(hi:i<s.2.2.2.2.2.2.1.length){R:Type}(K:List Int→Option R) :
  atI (i:Int) s.2.2.2.2.2.2.1.length (atI (i:Int) s.2.2.2.2.1.length (atI (i:Int) s.2.2.2.1.length ((a4v n (s.2.2.2.2.1.getD (i:Int).toNat (0:Int),s.2.2.2.1.getD (i:Int).toNat (0:Int),s.2.2.2.2.2.2.1.getD (i:Int).toNat [],())).bind fun y7 =>
   atI (i:Int) s.2.2.2.1.length (atI (i:Int) s.2.2.2.2.2.1.length ((b4m n (s.2.2.2.2.2.1.getD (i:Int).toNat ((0:Int),((0:Int),(0:Int),[],()),((0:Int),(0:Int),[],()),()),())).bind fun y8 =>
    (b0i n ((y7.1.1.length:Int),())).bind fun y9=>(a0r n (([b8z s++b3p s i,[Ah.wrap (s.2.2.2.1.getD (i:Int).toNat (0:Int))],y8.1.1,y9.1.1,y7.1.1]:List (List Int)),())).bind fun y10=>K y10.1.1)))))=K (b8z s++b3p s (i+1)):=by
 obtain⟨a1,a2,a3,a4,a5,a6,a7,a8,a9,a10,a11,a12,a13⟩:=hA;have hc:=hC i hi;have hl:=c1u hC i (by omega);obtain⟨_,u2,u3,_⟩:=a8f hc.used;have hr:=hc.rows;rw[a0a hi,a0a (by omega),a0a (by omega),Ac,c2c hc.ok (by omega) (by omega)];have hp:b1z (s.2.2.2.2.1.getD i 0) (s.2.2.2.1.getD i 0) (s.2.2.2.2.2.2.1.getD i [])=some (colB (s.2.2.2.2.1.getD i 0) (s.2.2.2.1.getD i 0) (s.2.2.2.2.2.2.1.getD i [])):=by
  unfold b1z;rw[hc.used];dsimp only;rw[if_pos (AK.2 hc.fits)]
 rw[hp];simp only[Ab];rw[a0a (by omega),a0a (by omega),show s.2.2.2.2.2.1.getD i ((0:Int),((0:Int),(0:Int),[],()),((0:Int),(0:Int),[],()),())=s.2.2.2.2.2.1.getD i c0e from rfl,d9j hc.zmay (by omega)];simp only[Ab];have hlen:=hc.len;rw[c9y (by omega),a3u (by omega) (by omega)];simp only[Ab];have hfl:([b8z s++b3p s i,[s.2.2.2.1.getD i 0],b1p (s.2.2.2.2.2.1.getD i c0e),twoB (colB (s.2.2.2.2.1.getD i 0) (s.2.2.2.1.getD i 0) (s.2.2.2.2.2.2.1.getD i [])).length,colB (s.2.2.2.2.1.getD i 0) (s.2.2.2.1.getD i 0) (s.2.2.2.2.2.2.1.getD i [])]:List (List Int)).flatten=b8z s++b3p s (i+1):=by
  rw[c3k];unfold crAt crB;simp
 have hfl2:(b8z s++b3p s (i+1)).length<1000000:=by
  have:=c1u hC (i+1) (by omega);rw[Ap,c1n];omega
 rw[c5d (by simp;omega) (by simp) (by rw[hfl];exact hfl2),hfl];simp only[Ab]
theorem b2s{n:Nat}{s:Sg}(hl:∀l,l∈s.2.2.2.2.2.2.1→l.length<100000)(hv:∀l,l∈s.2.2.2.2.2.2.1→∀v,v∈l→okV v)(hn:1000000≤n) :
  b4q n (s,())=some ((if a5j s=true then segB s else[],()),())∧a8q n (s,())=some ((if a5j s=true then segB s else[],()),()):=by
 unfold b4q a8q;rw[b3a hl (by omega)];simp only[Ab];cases hm:a5j s with
 |false=>simp
 |true =>
  obtain⟨hA,hC⟩:=d1b hm hv;have hA':=hA;obtain⟨a1,a2,a3,a4,a5,a6,a7,a8,a9,a10,a11,a12,a13⟩:=hA;simp only[Br,AE,if_false,if_true];have htwo:b0i n (s.1,())=some ((twoB s.1.toNat,()),()):=by
   obtain⟨k,hk⟩:∃k:Nat,s.1=(k:Int):=⟨s.1.toNat,by omega⟩
   rw[hk,c9y (by omega),Ac]
  rw[htwo];simp only[Ab];rw[b0j n s hl];simp only[Ab];have hfl:([[83,71],twoB s.1.toNat,[s.2.1,s.2.2.1,(s.2.2.2.2.2.2.1.length:Int),(a9q s.2.2.2.2.2.2.1:Int)]]:List (List Int)).flatten=b8z s:=by simp[b8z]
  rw[a3u (x:=s.2.1) (by omega) (by omega),a3u (x:=s.2.2.1) (by omega) (by omega),a3u (x:=(s.2.2.2.2.2.2.1.length:Int)) (by omega) (by omega),a3u (x:=(a9q s.2.2.2.2.2.2.1:Int)) (by omega) (by omega),
   c5d (by simp;omega) (by simp) (by rw[hfl,c1n];omega),hfl]
  simp only[Ab];constructor
  ·refine a0i (fun i=>(b8z s++b3p s i,(i:Int))) s.2.2.2.2.2.2.1.length (by simp[b3p]) ?_ ?_ (by omega)
   ·intro rec i hi;dsimp only;rw[if_pos (by simp <;> omega)];refine DY (f7f hA' hC hn hi fun b=>rec (b,Aa.wrap ((i:Int)+1))) ?_;rw[a0b (by omega)]
   ·intro rec;dsimp only;rw[if_neg (by simp)];rfl
  ·refine a0i (fun i=>(b8z s++b3p s i,(i:Int))) s.2.2.2.2.2.2.1.length (by simp[b3p]) ?_ ?_ (by omega)
   ·intro rec i hi;dsimp only;rw[if_pos (by simp <;> omega)];refine DY (f7f hA' hC hn hi fun b=>rec (b,Aa.wrap ((i:Int)+1))) ?_;rw[a0b (by omega)]
   ·intro rec;dsimp only;rw[if_neg (by simp)];have:b8z s++b3p s s.2.2.2.2.2.2.1.length=83::(71::(twoB s.1.toNat++[s.2.1,s.2.2.1,(s.2.2.2.2.2.2.1.length:Int),(a9q s.2.2.2.2.2.2.1:Int)])++b3p s s.2.2.2.2.2.2.1.length):=rfl;unfold segB;rw[this]
end Go.Rb.R5
