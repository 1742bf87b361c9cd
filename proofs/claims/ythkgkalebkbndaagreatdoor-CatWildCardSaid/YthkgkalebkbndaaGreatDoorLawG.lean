/- Plain laws: the records that are made. Own work. -/
import Derived.Test.YthkgkalebkbndaaGreatDoorLawF
set_option autoImplicit false
set_option linter.unusedVariables false
set_option linter.unusedSimpArgs false
open Bool renaming and_eq_true->Af
open Go.IntKind renaming i64->Aa
open Int renaming le_refl->Bu,tmod_lt_of_pos->Du,tmod_nonneg->Dl,toNat_natCast->Ah
open List renaming foldl_append->D2,getElem_append_left->BK,getElem_append_right->Br,getElem_mem->A1,getElem_singleton->E8,length_append->Ac,length_cons->Bd,length_drop->B8,length_nil->A0,length_singleton->Av,mem_append->Aq,mem_of_mem_drop->C0,mem_of_mem_take->Dk,mem_or_eq_of_mem_set->E0,mem_singleton->BS
open Nat renaming le_refl->Ar,mul_le_mul_right->Ai,sub_self->Ej
open Option renaming bind_some->Ab
namespace Go.Rb.R7
open Go.Rb
def VOK(v:V):Prop:=okCV v∧byV v∧v.2.2.1.length≤20
def b1c(r:List V):Prop:=∀v,v∈r→VOK v
theorem VOK.zero:VOK d0:=⟨⟨a1a,a1a⟩,(fun x hx=>by cases hx),by simp[d0]⟩
theorem b1q{v:Int}(h1:-1000000000≤v)(h2:v≤1000000000):I64 v:=⟨by omega,by omega⟩
theorem f0i:I64 1:=⟨by decide,by decide⟩
theorem f2n:I64 2:=⟨by decide,by decide⟩
theorem f8j:I64 3:=⟨by decide,by decide⟩
theorem f3n:I64 4:=⟨by decide,by decide⟩
theorem f0f{s:List Int}(h:(s.all fun b=>decide (0≤b)&&decide (b≤255))=true):a1v s:=fun b hb=>by
 have:=List.all_eq_true.1 h b hb;simpa using this
theorem d8s{l:List Int}{st:Pks}{t:Int}(n:Nat)(hl:Nums l)(hp:Pk l st)(ht:1≤t)(ht4:t≤4):Gets (a5w n (st,t,())) fun y=>(b1a t y.1.1=true∧VOK y.1.1)∧Pk l y.2.1:=by
 unfold a5w;dsimp only;refine .bind (num n hl hp (by omega)) fun y1 ⟨a1,b1,p1⟩=>?_
 have hk:y1.1.1.toNat<9:=by omega
 refine .join (fun s=>Pk l s.1) (fun s hs=>?_) fun J hJ=>?_
 ·refine .dec (fun h=>?_) fun h=>?_
  ·subst h;refine .atI a1 (by simpa using b1) (.some ⟨?_,hs⟩);dsimp only;generalize y1.1.1.toNat=i at hk;have key:∀i,i<9→b1a 1 (1,([(0:Int),(1:Int),(2:Int),(3:Int),(-1:Int),(100:Int),(-32768:Int),(32767:Int),(5:Int)].getD i (0:Int)),[],())=true∧-1000000000≤([(0:Int),(1:Int),(2:Int),(3:Int),(-1:Int),(100:Int),(-32768:Int),(32767:Int),(5:Int)].getD i (0:Int))∧([(0:Int),(1:Int),(2:Int),(3:Int),(-1:Int),(100:Int),(-32768:Int),(32767:Int),(5:Int)].getD i (0:Int))≤1000000000:=by decide
   obtain⟨k1,k2,k3⟩:=key i hk;exact⟨k1,⟨f0i,b1q k2 k3⟩,(fun x hx=>by cases hx),by simp⟩
  refine .dec (fun h=>?_) fun h=>?_
  ·subst h;refine .atI a1 (by simpa using b1) (.some ⟨⟨by simp[b1a,mayV,a4c],⟨f2n,?_⟩,(fun x hx=>by cases hx),by simp⟩,hs⟩);dsimp only;generalize y1.1.1.toNat=i at hk;have key:∀i,i<9→-9223372036854775808≤([(0:Int),(1:Int),(2:Int),(3:Int),(-1:Int),(1000000:Int),(-9223372036854775808:Int),(9223372036854775807:Int),(4611686018427387904:Int)].getD i (0:Int))∧([(0:Int),(1:Int),(2:Int),(3:Int),(-1:Int),(1000000:Int),(-9223372036854775808:Int),(9223372036854775807:Int),(4611686018427387904:Int)].getD i (0:Int))≤9223372036854775807:=by decide
   exact key i hk
  refine .dec (fun h=>?_) fun h=>?_
  ·subst h;have e1:=Dl 2 a1;have e2:=Du y1.1.1 (b:=2) (by omega);have:y1.1.1.tmod 2=0∨y1.1.1.tmod 2=1:=by omega
   refine .some ⟨⟨by simp[b1a,mayV,a4c,this],⟨f8j,b1q ?_ ?_⟩,(fun x hx=>by cases hx),by simp⟩,hs⟩
   ·dsimp only;omega
   ·dsimp only;omega
  have h4:t=4:=by omega
  subst h4;refine .atI a1 (by simpa using b1) (.some ⟨?_,hs⟩);dsimp only;generalize y1.1.1.toNat=i at hk;have key:∀i,i<9→b1a 4 (4,0,(([[],[97],[98],[97,58,98],[97,98],[120,58,121,58,122],[58],[116,119,101,110,116,121,45,98,121,116,101,115,45,111,102,45,116,101,120,116],[99]]:List (List Int)).getD i []),())=true∧((([[],[97],[98],[97,58,98],[97,98],[120,58,121,58,122],[58],[116,119,101,110,116,121,45,98,121,116,101,115,45,111,102,45,116,101,120,116],[99]]:List (List Int)).getD i []).all fun b=>decide (0≤b)&&decide (b≤255))=true:=by decide
  obtain⟨k1,k2⟩:=key i hk;exact⟨k1,⟨f3n,a1a⟩,f0f k2,c9x k1⟩
 ·refine .dec (fun h=>?_) fun h=>hJ _ p1
  refine .bind (Q':=fun y=>Pk l y.2.1) (.some p1) fun y4 p4=>?_
  exact .not (fun _=>.some ⟨⟨e7o ht ht4,VOK.zero⟩,p4⟩) fun _=>hJ _ p4
theorem f1o{l:List Int}{st:Pks}{s:Sch}{n:Nat}(hn:20≤n)(hl:Nums l)(hp:Pk l st)(hc:s.1.length≤6)(hok:∀c,c∈s.1→TyOK c.2.2.1) :
  Gets (a7d n (st,s,())) fun y=>(a7g s.1 y.1.1=true∧b1c y.1.1)∧Pk l y.2.1:=by
 unfold a7d;dsimp only;refine .iter (fun t=>Pk l t.1∧(∀i,i<t.2.1.length→b1a (s.1.getD i k0).2.2.1 (t.2.1.getD i d0)=true)∧b1c t.2.1∧(t.2.1.length:Int)=t.2.2∧t.2.2≤s.1.length) (fun t=>(6 - t.2.2).toNat) ⟨hp,by simp,(fun v hv=>by cases hv),by simp,by simp⟩ (by dsimp only;omega) fun rec t hi ih=>?_
 obtain⟨q1,q2,q5,q3,q4⟩:=hi;refine .dec (fun h=>?_) fun h=>?_
 ·have hco:=hok _ (a6s (d:=k0) (show t.2.2.toNat<s.1.length by omega));refine .atI (by omega) h (.bind (d8s n hl q1 hco.1 hco.2) fun y3 ⟨⟨a3,v3⟩,p3⟩=>?_);refine .pos (by simp[room];omega) (ih _ ⟨p3,fun i hi=>?_,a8q q5 v3,?_,?_⟩ ?_)
  ·dsimp only at hi ⊢;rw[Ac] at hi;simp only[Bd,A0] at hi;by_cases hit:i<t.2.1.length
   ·rw[a0h (l:=t.2.1++[y3.1.1]) (i:=i) (d:=d0) (by simp;omega),BK hit,←a0h (d:=d0) hit];exact q2 i hit
   ·have:i=t.2.1.length:=by omega
    subst this;rw[a0h (l:=t.2.1++[y3.1.1]) (i:=t.2.1.length) (d:=d0) (by simp),Br (by omega)];simpa[show t.2.2.toNat=t.2.1.length by omega] using a3
  all_goals (try simp only[Ac,Bd,A0]);(rw[a0i (by omega) (by omega)]);omega
 ·refine .some ⟨⟨a9s.2 ⟨by dsimp only;omega,fun i hi=>q2 i (by omega)⟩,q5⟩,q1⟩
theorem e5v{l:List Int}{st:Pks}{s:Sch}{n:Nat}{k:Int}(hn:20≤n)(hl:Nums l)(hp:Pk l st)(hc:s.1.length≤6)(hok:∀c,c∈s.1→TyOK c.2.2.1)(hk:k≤10)(hk0:0≤k) :
  Gets (a8u n (st,s,k,())) fun y=>(∀r,r∈y.1.1→a7g s.1 r=true∧b1c r)∧(y.1.1.length:Int)=k∧Pk l y.2.1:=by
 unfold a8u;dsimp only;refine .iter (fun t=>Pk l t.1∧(∀r,r∈t.2.1→a7g s.1 r=true∧b1c r)∧(t.2.1.length:Int)=t.2.2∧t.2.2≤k) (fun t=>(10 - t.2.2).toNat) ⟨hp,by simp,by simp,hk0⟩ (by dsimp only;omega) fun rec t hi ih=>?_
 obtain⟨q1,q2,q3,q4⟩:=hi;refine .dec (fun h=>?_) fun h=>.some ⟨q2,by dsimp only;omega,q1⟩
 refine .bind (f1o hn hl q1 hc hok) fun y3 ⟨a3,p3⟩=>?_
 refine .pos (by simp[room];omega) (ih _ ⟨p3,a8q q2 a3,?_,?_⟩ ?_)
 all_goals (try simp only[Ac,Bd,A0]);(rw[a0i (by omega) (by omega)]);omega
theorem f0j{l:List Int}{st:Pks}{s:Sch}(n:Nat)(hl:Nums l)(hp:Pk l st)(hc:1≤s.1.length)(hi:∀c,c∈s.1→I64 c.1):Gets (a9n n (st,s,())) fun y=>I64 y.1.1∧Pk l y.2.1:=by
 unfold a9n;dsimp only;refine .bind (num n hl hp (by omega)) fun y1 ⟨a1,b1,p1⟩=>?_
 exact .atI a1 b1 (.some ⟨hi _ (a6s (d:=k0) (by omega)),p1⟩)
def ChOK(c:Chg):Prop:=okCG c∧byG c∧c.2.2.1.length≤12∧c.2.2.2.2.1.2.2.1.length≤20
theorem b4y{a b:Int}{nm:List Int}{t:Int}{v:V}{s m:Int}(ha:I64 a)(hb:I64 b)(hn:nm.length≤12)(hby:a1v nm)(ht:I64 t)(hv:VOK v)(hs:0≤s∧s≤255)(hm:I64 m):ChOK (a,b,nm,t,v,s,m,()) :=
 ⟨⟨ha,hb,ht,hv.1,hs,hm⟩,⟨hby,hv.2.1⟩,hn,hv.2.2⟩
theorem d9g{l:List Int}{st:Pks}{s:Sch}(n:Nat)(hl:Nums l)(hp:Pk l st)(hc:1≤s.1.length)(hi:∀c,c∈s.1→I64 c.1):Gets (a6u n (st,s,())) fun y=>ChOK y.1.1∧Pk l y.2.1:=by
 unfold a6u;dsimp only;have bnil:a1v []:=by intro b hb;simp at hb
 have bcons:∀{a x:Int},0≤a→a≤255→a1v ([a]++[IntKind.u8.wrap x]):=by
  intro a x h1 h2 b hb;have:=f4u x;simp at hb;rcases hb with rfl|rfl <;> omega
 have z:=a1a;refine .bind (num n hl hp (by omega)) fun y1 ⟨a1,b1,p1⟩=>?_
 have w:I64 (Aa.wrap (1+y1.1.1)):=a9f _;refine .bind (f0j n hl p1 hc hi) fun y2 ⟨g2,p2⟩=>?_
 refine .dec (fun h=>?_) fun h=>?_
 ·refine .bind (num n hl p2 (by omega)) fun y3 ⟨a3,b3,p3⟩=>?_
  refine .bind (num n hl p3 (by omega)) fun y4 ⟨a4,b4,p4⟩=>?_
  have w3:I64 (Aa.wrap (1+y3.1.1)):=a9f _;refine .pos (by simp) (.bind (d8s n hl p4 ?_ ?_) fun y5 ⟨⟨_,v5⟩,p5⟩=>.some ⟨b4y w z (by simp) (bcons (by omega) (by omega)) w3 v5 (by decide) z,p5⟩)
  all_goals (rw[a0i (x:=1+y3.1.1) (by omega) (by omega)];omega)
 refine .dec (fun h=>?_) fun h=>?_
 ·exact .bind (num n hl p2 (by omega)) fun y6 ⟨a6,b6,p6⟩=>.pos (by simp) (.some ⟨b4y w g2 (by simp) (bcons (by omega) (by omega)) z VOK.zero (by decide) z,p6⟩)
 refine .dec (fun h=>?_) fun h=>?_
 ·refine .bind (num n hl p2 (by omega)) fun y7 ⟨a7,b7,p7⟩=>.pos (by simp) (.bind (num n hl p7 (by omega)) fun y8 ⟨a8,b8,p8⟩=>?_)
  exact .dec (fun _=>.some ⟨b4y w f2n (by simp) (bcons (by omega) (by omega)) z VOK.zero (by decide) z,p8⟩) fun _=>.some ⟨b4y w g2 (by simp) (bcons (by omega) (by omega)) z VOK.zero (by decide) z,p8⟩
 refine .dec (fun h=>?_) fun h=>?_
 ·refine .bind (num n hl p2 (by omega)) fun y9 ⟨a9,b9,p9⟩=>?_
  exact .dec (fun _=>.some ⟨b4y w z (by simp) bnil z VOK.zero (by decide) z,p9⟩) fun _=>.some ⟨b4y w g2 (by simp) bnil z VOK.zero (by decide) z,p9⟩
 refine .dec (fun h=>?_) fun h=>?_
 ·exact .bind (num n hl p2 (by omega)) fun y10 ⟨_,_,p10⟩=>.some ⟨b4y w g2 (by simp) bnil z VOK.zero (by decide) (a9f _),p10⟩
 refine .dec (fun h=>.some ⟨b4y w z (by simp) bnil z VOK.zero (by decide) z,p2⟩) fun h=>?_
 refine .dec (fun h=>?_) fun h=>.some ⟨b4y w g2 (by simp) bnil z VOK.zero (by decide) z,p2⟩
 exact .bind (num n hl p2 (by omega)) fun y11 ⟨_,_,p11⟩=>.some ⟨b4y w g2 (by simp) bnil z VOK.zero (by decide) (a9f _),p11⟩
theorem c9g{l:List Int}{st:Pks}{i:Int}(n:Nat)(hl:Nums l)(hp:Pk l st):Gets (b0a n (st,i,())) fun y=>okCI y.1.1∧Pk l y.2.1:=by
 unfold b0a;dsimp only;refine .bind (num n hl hp (by omega)) fun y1 ⟨a1,b1,p1⟩=>?_
 refine .bind (num n hl p1 (by omega)) fun y2 ⟨a2,b2,p2⟩=>?_
 refine .bind (num n hl p2 (by omega)) fun y3 ⟨a3,b3,p3⟩=>?_
 refine .bind (num n hl p3 (by omega)) fun y4 ⟨a4,b4,p4⟩=>?_
 exact .some ⟨⟨a9f _,a9f _,a9f _,a9f _,b1q (by dsimp only;omega) (by dsimp only;omega)⟩,p4⟩
end Go.Rb.R7

namespace Go.Rb.R7
open Go.Rb
structure StOK (t:CT):Prop where
 may:MayT t
 rows:∀r,r∈t.2.2.2.1→b1c r
 ch:ChOK t.2.2.2.2.2.2.1
structure RecOK (r:CR):Prop where
 clean:Clean r
 st:r.1=1→StOK r.2.1
 rows:r.2.2.1.length≤9∧∀x,x∈r.2.2.1→b1c x∧x.length≤6
 n:I64 r.2.2.2.1
 its:r.2.2.2.2.1.length≤9∧a7a r.2.2.2.2.1
 more:r.2.2.2.2.2.1.length≤9∧a7a r.2.2.2.2.2.1
 ch:ChOK r.2.2.2.2.2.2.1
theorem ChOK.zero:ChOK zG:=⟨okG0,⟨(fun x hx=>by cases hx),fun x hx=>by cases hx⟩,by simp[zG],by simp[zG]⟩
theorem f3i{i:CI}(h:ItOK i):okCI i:=by
 obtain⟨a1,a2,a3,a4,a5,a6,a7,a8,a9,a10⟩:=h;exact⟨b1q (by omega) (by omega),b1q (by omega) (by omega),b1q (by omega) (by omega),b1q (by omega) (by omega),b1q (by omega) (by omega)⟩
theorem d2o{l:List CI}(h:b9x l=true):a7a l:=fun i hi=>f3i ((b1v.1 h).1 i hi)
theorem StOK.it{t:CT}(h:StOK t):ItT t:=⟨d2o h.may.segs,d2o h.may.next⟩
theorem StOK.sm{t:CT}(h:StOK t):SmT 1000 t:=h.may.sm (by omega) h.ch.2.1.1 (by have:=h.ch.2.2.1;omega)
theorem RecOK.sm{r:CR}(h:RecOK r):SmR 1000 r :=
 ⟨fun hk=>(h.st hk).sm.toSm,by have:=h.rows.1;omega,by have:=h.its.1;omega,by have:=h.more.1;omega,h.ch.2.1.1,by have:=h.ch.2.2.1;omega⟩
theorem RecOK.it{r:CR}(h:RecOK r):ItR r:=⟨fun hk=>(h.st hk).it,h.its.2,h.more.2⟩
theorem VOK.wider{v:V}(h:VOK v):VOK (c7y v):=by
 unfold c7y;split
 ·exact⟨⟨f0i,h.1.2⟩,h.2.1,h.2.2⟩
 ·split
  ·exact⟨⟨f2n,h.1.2⟩,h.2.1,h.2.2⟩
  ·exact h
theorem VOK.apart{v:V}{c:Int}(h:VOK v):VOK (b0w v c).1∧VOK (b0w v c).2:=by
 unfold b0w;split
 ·refine⟨⟨⟨f3n,a1a⟩,fun x hx=>h.2.1 x (Dk hx),?_⟩,⟨⟨f3n,a1a⟩,fun x hx=>h.2.1 x (C0 hx),?_⟩⟩
  ·have:=h.2.2;simp only[List.length_take];omega
  ·have:=h.2.2;simp only[B8];omega
 ·exact⟨h,VOK.zero⟩
theorem b1c.set{r:List V}{i:Nat}{v:V}(h:b1c r)(hv:VOK v):b1c (r.set i v):=fun x hx=>by
 rcases E0 hx with h1|rfl
 ·exact h x h1
 ·exact hv
theorem b1c.getD{r:List V}{i:Nat}(h:b1c r):VOK (r.getD i d0):=by
 by_cases hi:i<r.length
 ·exact h _ (a6s hi)
 ·rw[List.getD_eq_getElem?_getD,List.getElem?_eq_none (by omega)];exact VOK.zero
theorem b1c.app{a b:List V}(ha:b1c a)(hb:b1c b):b1c (a++b):=fun x hx=>by
 rcases Aq.1 hx with h|h
 ·exact ha x h
 ·exact hb x h
theorem f2s{cols:List Cl}{c:Chg}{r:List V}(h:b1c r)(hc:VOK c.2.2.2.2.1):b1c (b0e cols c r).1:=by
 have one:∀{v:V},VOK v→b1c [v]:=fun hv x hx=>by
  rcases BS.1 hx with rfl;exact hv
 unfold b0e;split
 ·exact fun x hx=>by cases hx
 split
 ·exact h.app (one hc)
 split
 ·split
  ·exact fun x hx=>by cases hx
  ·rename_i i _;split
   ·exact b1c.app (fun x hx=>h x (Dk hx)) fun x hx=>h x (C0 hx)
   split
   ·exact h.set h.getD.wider
   ·have h2:=h.set (i:=i) (h.getD (i:=i).apart (c:=c.2.2.2.2.2.1)).1;exact b1c.app (fun x hx=>h2 x (Dk hx)) (b1c.app (one (h.getD.apart).2) fun x hx=>h2 x (C0 hx))
 ·exact h
theorem e7v{cols:List Cl}{c:Chg}{rows:List (List V)}(h:∀r,r∈rows→b1c r)(hc:VOK c.2.2.2.2.1):∀r,r∈(b0d cols c rows).1→b1c r:=by
 unfold b0d;split
 ·intro r hr;obtain⟨x,hx,rfl⟩:=List.mem_map.1 hr;exact f2s (h x hx) hc
 ·exact fun r hr=>by cases hr
theorem ChOK.val{c:Chg}(h:ChOK c):VOK c.2.2.2.2.1:=⟨h.1.2.2.2.1,h.2.1.2,h.2.2.2⟩
theorem StOK.turn{t:CT}{r:CR}(h:StOK t)(hr:RecOK r)(hok:(a5h t r).2=0):StOK (a5h t r).1:=by
 obtain⟨h1,h2⟩:=c2x hok;generalize (a5h t r).1=t' at h1 h2;have a1:=h.rows;have a2:=h.ch;have c0:=hr.st;have c1:=hr.rows.2;have c2:=hr.ch;clear h hr hok;obtain⟨v,s,l,buf,segs,busy,c,ns,nl,next,todo,done,u⟩:=t;obtain⟨k,st,rows,m,its,more,ch,u2⟩:=r;unfold b5n at h1;dsimp only at *;split at h1
 ·cases h1;exact c0 ‹_›
 split at h1
 ·split at h1
  ·cases h1;refine⟨h2,fun r hr=>?_,a2⟩;rcases Aq.1 hr with h|h
   ·exact a1 r h
   ·exact(c1 r h).1
  ·cases h1
 split at h1
 ·split at h1
  ·cases h1;exact⟨h2,fun r hr=>a1 r (C0 hr),a2⟩
  ·cases h1
 split at h1
 ·split at h1
  ·cases h1;exact⟨h2,a1,c2⟩
  ·cases h1
 split at h1
 ·split at h1
  ·cases h1;exact⟨h2,a1,a2⟩
  ·cases h1
 split at h1
 ·split at h1
  ·cases h1;exact⟨h2,e7v a1 a2.val,ChOK.zero⟩
  ·cases h1
 split at h1
 ·split at h1
  ·cases h1;exact⟨h2,a1,ChOK.zero⟩
  ·cases h1
 ·cases h1
theorem f3a{s:CS}{l:CL}(h:MadeOK s l):StOK (0,s,l,[],[],false,zG,([],0,()),(0,0,0,[],()),[],0,0,()):=by
 refine⟨d5b.1 ?_,(fun r hr=>by cases hr),ChOK.zero⟩;have h1:=h.sh.may;have h2:=h.may;unfold mayT;dsimp only;rw[h1,h2];rfl
end Go.Rb.R7

namespace Go.Rb.R7
open Go.Rb
abbrev allR(t:CT):CR:=(1,t,[],0,[],[],zG,())
def c5r(t:CT)(r:CR):CT:=if(a5h t r).2=0 then(a5h t r).1 else t
def e9t(y:(CT×List CR×Unit)×Unit):Prop :=
 StOK y.1.1∧(∀r,r∈y.1.2.1→RecOK r)∧∃l st,y.1.2.1=l++[allR st]∧StOK st∧l.length≤30∧l.foldl c5r y.1.1=st∧∀r,r∈l→r.1≠1
theorem g0f{t:CT}(h:StOK t):RecOK (allR t) :=
 ⟨Clean.all t,fun _=>h,⟨by simp,fun x hx=>by cases hx⟩,a1a,⟨by simp,a5i⟩,⟨by simp,a5i⟩,ChOK.zero⟩
theorem b7s{i:CI}(h:okCI i):a7a [i]:=fun x hx=>by
 rcases BS.1 hx with rfl;exact h
theorem b4k{l:List Int}{n:Nat}{most:Int}(hn:3000≤n)(hl:Nums l)(hm:most≤30):Gets (a4w n (l,most,())) e9t:=by
 have hro:=a4t;unfold a4w;dsimp only;refine .bind (f8h n) fun y1 p1=>.bind (f0g (by omega) hl p1) fun y2 ⟨hmd,p2⟩=>?_
 refine .join (fun s=>StOK s) (fun s hs=>?_) fun J hJ=>hJ _ (f3a hmd)
 have fin:∀(out:List CR) (st:CT) (i:Int),(∀r,r∈out→RecOK r∧r.1≠1)→StOK st→(out.length:Int)≤i→i≤30→out.foldl c5r s=st →
   Gets (if(out.length+([allR st]:List CR).length)*528≤room then some ((s,out++([allR st]:List CR),()),()) else none) e9t:=by
  intro out st i h1 h2 h3 h4 h5;refine .pos (by simp only[Av];omega) (.some ⟨hs,a8q (fun r hr=>(h1 r hr).1) (g0f h2),out,st,rfl,h2,by omega,h5,fun r hr=>(h1 r hr).2⟩)
 refine .iter (fun s5=>Pk l s5.1∧StOK s5.2.1∧(∀r,r∈s5.2.2.1→RecOK r∧r.1≠1)∧(s5.2.2.1.length:Int)≤s5.2.2.2.2∧0≤s5.2.2.2.2∧s5.2.2.2.2≤30∧s5.2.2.1.foldl c5r s=s5.2.1) (fun s5=>(30 - s5.2.2.2.2).toNat) ⟨p2,hs,by simp,by simp,by simp,by simp,rfl⟩ (by dsimp only;omega) fun rec s5 hi ih=>?_
 obtain⟨pk,t,out,cnt,i⟩:=s5;obtain⟨q1,q2,q3,q4,q5,q6,q7⟩:=hi;dsimp only at *;refine .dec (fun hlt=>?_) fun hlt=>fin out t i q3 q2 q4 q6 q7
 refine .bind (Q':=fun y=>Pk l y.2.1) (.some q1) fun y7 p7=>.not (fun _=>?_) fun _=>fin out t i q3 q2 q4 q6 q7
 refine .bind (num n hl p7 (by omega)) fun y8 ⟨a8,b8,p8⟩=>?_
 have hi1:Aa.wrap (i+1)=i+1:=a0i (by omega) (by omega);rw[a0i (x:=2+y8.1.1) (by omega) (by omega),hi1];have hk2:2≤2+y8.1.1:=by omega
 have hk7:2+y8.1.1≤7:=by omega
 generalize 2+y8.1.1=k at hk2 hk7;have hS:=b5h.1 q2.may.s;have hty:∀c,c∈t.2.1.1→TyOK c.2.2.1:=fun c hc=>by
  have:=(hS.col c hc).2.2.2;unfold a4c at this;simp only[Af,decide_eq_true_eq] at this;exact this
 have hid:∀c,c∈t.2.1.1→I64 c.1:=fun c hc=>by
  have h1:=(hS.col c hc).1;have h2:=(hS.col c hc).2.1;have h3:=hS.last;exact b1q (by omega) (by omega)
 refine .join (fun s9=>Pk l s9.1∧s9.2.1=t∧RecOK s9.2.2.2∧s9.2.2.2.1≠1) ?_ ?_
 ·rintro⟨pk9,t9,cnt9,r⟩ ⟨p9,h9,hr,hr1⟩;dsimp only at *;subst h9;rw[b2k q2.sm hr.sm (by omega) hn (by omega) (by omega)];simp only[Ab];refine .dec (fun h0=>?_) fun h0=>?_
  ·refine .pos (by simp only[Av];omega) (ih _ ⟨p9,q2.turn hr h0,a8q q3 ⟨hr,hr1⟩,?_,by dsimp only;omega,by dsimp only;omega,?_⟩ (by dsimp only;omega))
   ·simp only[Ac,Av];omega
   ·dsimp only;rw[D2,q7];simp[c5r,h0]
  ·refine .bind (num n hl p9 (by omega)) fun y12 ⟨a12,b12,p12⟩=>.dec (fun _=>?_) fun _=>?_
   ·exact ih _ ⟨p12,q2,q3,by dsimp only;omega,by dsimp only;omega,by dsimp only;omega,q7⟩ (by dsimp only;omega)
   ·refine .pos (by simp only[Av];omega) (ih _ ⟨p12,q2,a8q q3 ⟨hr,hr1⟩,?_,by dsimp only;omega,by dsimp only;omega,?_⟩ (by dsimp only;omega))
    ·simp only[Ac,Av];omega
    ·dsimp only;rw[D2,q7];simp[c5r,h0]
 intro J hJ;have no2:¬(2:Int)=1:=by decide
 have no3:¬(3:Int)=1:=by decide
 have no4:¬(4:Int)=1:=by decide
 have no5:¬(5:Int)=1:=by decide
 have no6:¬(6:Int)=1:=by decide
 have no7:¬(7:Int)=1:=by decide
 have e0:([]:List (List CV)).length≤9∧∀x,x∈([]:List (List CV))→b1c x∧x.length≤6:=⟨by simp,fun x hx=>by cases hx⟩
 have e1:([]:List CI).length≤9∧a7a ([]:List CI):=⟨by simp,a5i⟩
 refine .dec (fun h=>?_) fun h2=>?_
 ·subst h;refine .bind (num n hl p8 (by omega)) fun y13 ⟨a13,b13,p13⟩=>?_
  rw[a0i (x:=1+y13.1.1) (by omega) (by omega)];refine .bind (e5v (by omega) hl p13 hS.len6 hty (by omega) (by omega)) fun y14 ⟨g1,g2,p14⟩=>hJ _ ⟨p14,rfl,?_,no2⟩
  refine⟨Clean.fresh _,fun h=>absurd h no2,⟨by dsimp only;omega,fun x hx=>⟨(g1 x hx).2,?_⟩⟩,a1a,e1,e1,ChOK.zero⟩;have h6:=hS.len6;have:=(a9s.1 (g1 x hx).1).1;omega
 refine .dec (fun h=>?_) fun h3=>?_
 ·subst h;refine .bind (num n hl p8 (by omega)) fun y15 ⟨a15,b15,p15⟩=>.bind (c9g n hl p15) fun y16 ⟨g16,p16⟩=>?_
  have hN:I64 (if 1≤Aa.wrap ((t.2.2.2.1.length:Int) - y15.1.1) then Aa.wrap ((t.2.2.2.1.length:Int) - y15.1.1) else 1):=by
   split
   ·exact a9f _
   ·exact f0i
  refine .pos (by simp[room]) (.ite (fun hb=>?_) fun hb=>?_)
  ·refine .bind (c9g n hl p16) fun y17 ⟨g17,p17⟩=>.pos (by simp[room]) (hJ _ ⟨p17,rfl,⟨Clean.flushed _ _ _,fun h=>absurd h no3,e0,hN,⟨by simp,b7s g16⟩,⟨by simp,b7s g17⟩,ChOK.zero⟩,no3⟩)
  ·exact hJ _ ⟨p16,rfl,⟨Clean.flushed _ _ _,fun h=>absurd h no3,e0,hN,⟨by simp,b7s g16⟩,e1,ChOK.zero⟩,no3⟩
 refine .dec (fun h=>?_) fun h4=>?_
 ·subst h;refine .bind (d9g n hl p8 hS.len1 hid) fun y18 ⟨g18,p18⟩=>hJ _ ⟨p18,rfl,⟨Clean.begun _,fun h=>absurd h no4,e0,a1a,e1,e1,g18⟩,no4⟩
 refine .dec (fun h=>?_) fun h5=>?_
 ·subst h;refine .bind (num n hl p8 (by omega)) fun y19 ⟨a19,b19,p19⟩=>?_
  refine .iter (fun s20=>Pk l s20.1∧(∃its:List CI,s20.2.2.1=(5,zT,[],0,its,[],zG,())∧a7a its∧(its.length:Int)+s20.2.2.2≤3)∧0≤s20.2.2.2∧s20.2.2.2≤3) (fun s20=>s20.2.2.2.toNat) ⟨p19,⟨[],rfl,a5i,by simp only[A0];omega⟩,a19,by dsimp only;omega⟩ (by dsimp only;omega) fun rec2 s20 hi2 ih2=>?_
  obtain⟨pk2,c2,r2,j⟩:=s20;obtain⟨z1,⟨its,z2,z3,z4⟩,z5,z6⟩:=hi2;dsimp only at *;subst z2;refine .dec (fun hj=>?_) fun hj=>?_
  ·refine .bind (c9g n hl z1) fun y22 ⟨g22,p22⟩=>.pos (by dsimp only;simp only[Av];omega) (ih2 _ ⟨p22,⟨its++[y22.1.1],rfl,b1x z3 (b7s g22),?_⟩,?_,?_⟩ ?_)
   all_goals (try simp only[Ac,Av]);(rw[a0i (x:=j - 1) (by omega) (by omega)]);omega
  ·exact hJ _ ⟨z1,rfl,⟨Clean.moved _,fun h=>absurd h no5,e0,a1a,⟨by dsimp only;omega,z3⟩,e1,ChOK.zero⟩,no5⟩
 have h67:k=6∨k=7:=by omega
 rcases h67 with rfl|rfl
 ·exact hJ _ ⟨p8,rfl,⟨Clean.cut,fun h=>absurd h no6,e0,a1a,e1,e1,ChOK.zero⟩,no6⟩
 ·exact hJ _ ⟨p8,rfl,⟨Clean.undone,fun h=>absurd h no7,e0,a1a,e1,e1,ChOK.zero⟩,no7⟩
end Go.Rb.R7

namespace Go.Rb.R7
open Go.Rb
theorem f2j{r:List CV}(h:b1c r)(hl:r.length≤6):(rowB r).length≤310:=by
 unfold rowB;rw[Ac];have h1:=a5e (d3p (k:=r.length) (by omega));have h2:=b1t (f:=vB) (k:=50) (l:=r) fun v hv=>by
  have:=e0z (m:=20) (h v hv).1 (h v hv).2.2 (by omega);omega
 have:r.length*50≤6*50:=Ai _ hl;omega
theorem d6n{l:List (List CV)}(h:∀r,r∈l→b1c r∧r.length≤6)(hl:l.length≤32):(b7r l).length≤9930:=by
 unfold b7r;rw[Ac];have h1:=a5e (d3p (k:=l.length) (by omega));have h2:=b1t (f:=rowB) (k:=310) (l:=l) fun r hr=>f2j (h r hr).1 (h r hr).2
 have:l.length*310≤32*310:=Ai _ hl;omega
theorem c6j{l:List CI}(h:a7a l)(hl:l.length≤60):(itsB l).length≤3010:=by
 have:=d5x h hl (by omega);omega
theorem c2i{s:CS}(h:mayS s=true):okCS s:=by
 have hs:=b5h.1 h;have h3:=hs.last;have h1:=hs.len1;refine⟨fun c hc=>?_,?_⟩
 ·have h1:=(hs.col c hc).1;have h2:=(hs.col c hc).2.1;have h4:=(hs.col c hc).2.2.2;unfold a4c at h4;simp only[Af,decide_eq_true_eq] at h4;exact⟨b1q (by omega) (by omega),b1q (by omega) (by omega)⟩
 ·have hc:=hs.col _ (A1 (show 0<s.1.length by omega));have h1:=hc.1;have h2:=hc.2.1;exact b1q (by omega) (by omega)
theorem f0t{s:CS}{id:Int}(h:okCS s)(hh:Has s id):I64 id:=by
 obtain⟨c,hc,rfl⟩:=hh;exact(h.1 c hc).1
theorem c6z{s:CS}{l:CL}(h:mayS s=true)(hl:mayL s l=true):okCL l:=by
 have hs:=c2i h;have hm:=c2q.1 hl;refine⟨?_,?_,?_,fun e he=>?_⟩
 ·rcases hm.sort with h|h
  ·exact f0t hs h
  ·rw[h];exact a1a
 ·rcases hm.part with h|h
  ·exact f0t hs h
  ·rw[h.2];exact a1a
 ·have:=hm.parts;exact b1q (by omega) (by omega)
 ·have:=hm.encs e he;unfold b5g at this;simp only[Af,decide_eq_true_eq] at this;exact b1q (by omega) (by omega)
theorem e0o{s:CS}(h:mayS s=true):szS 12 s:=by
 have hs:=b5h.1 h;have:=hs.len6;exact⟨by omega,fun c hc=>d5y (hs.col c hc).2.2.1⟩
theorem e1b{s:CS}{l:CL}(h:mayS s=true)(hl:mayL s l=true):szL 12 l:=by
 have h1:=(b5h.1 h).len6;have h2:=(c2q.1 hl).enc;show l.2.2.2.1.length≤12;omega
theorem f1a{s:CS}(h:mayS s=true):byS s:=fun c hc=>d6o ((b5h.1 h).col c hc).2.2.1
theorem StOK.next{t:CT}(h:StOK t):okCS t.2.2.2.2.2.2.2.1∧okCL t.2.2.2.2.2.2.2.2.1∧szS 12 t.2.2.2.2.2.2.2.1∧szL 12 t.2.2.2.2.2.2.2.2.1∧byS t.2.2.2.2.2.2.2.1∧I64 t.2.2.2.2.2.2.2.2.2.2.1∧I64 t.2.2.2.2.2.2.2.2.2.2.2.1:=by
 have hl:=c0q h.may.segs;rcases d8f h.may.way with⟨_,_,e1,e2,e3,e4,_⟩|⟨_,e0,e1,e2,e3,e4,e5⟩
 ·rw[e1,e2,e3,e4];exact⟨okS0,okL0,szS0,szL0,(fun c hc=>by cases hc),a1a,a1a⟩
 ·obtain⟨g1,g2,_⟩:=d0r e0;rw[e1] at g1;rw[e1,e2] at g2;exact⟨c2i g1,c6z g1 g2,e0o g1,e1b g1 g2,f1a g1,b1q (by omega) (by omega),b1q (by omega) (by omega)⟩
theorem StOK.ok{t:CT}(h:StOK t):okCT t:=by
 obtain⟨n1,n2,n3,n4,n5,n6,n7⟩:=h.next;have h0:=h.may.v0;have h1:=h.may.v1;exact⟨b1q (by omega) (by omega),c2i h.may.s,c6z h.may.s h.may.l,fun r hr v hv=>(h.rows r hr v hv).1,d2o h.may.segs,h.ch.1,n1,n2,d2o h.may.next,n6,n7⟩
theorem StOK.width{t:CT}(h:StOK t):∀r,r∈t.2.2.2.1→b1c r∧r.length≤6:=fun r hr=>by
 have h6:=(b5h.1 h.may.s).len6;have:=(a9s.1 (h.may.rows r hr)).1;exact⟨h.rows r hr,by omega⟩
theorem StOK.sz{t:CT}(h:StOK t):szT 100 t:=by
 obtain⟨n1,n2,n3,n4,n5,n6,n7⟩:=h.next;have g1:=c0q h.may.segs;have g2:=c0q h.may.next;have g3:=h.may.buf;refine⟨(e0o h.may.s).le (by omega),(e1b h.may.s h.may.l).le (by omega),⟨by omega,fun r hr=>?_⟩,by unfold a9a at g1;omega,⟨by have:=h.ch.2.2.1;omega,by have:=h.ch.2.2.2;unfold szV;omega⟩,n3.le (by omega),n4.le (by omega),by unfold a8e at g2;omega⟩;have:=h.width r hr;exact⟨by omega,fun v hv=>by have:=(this.1 v hv).2.2;unfold szV;omega⟩
theorem StOK.by{t:CT}(h:StOK t):byT t:=by
 obtain⟨n1,n2,n3,n4,n5,n6,n7⟩:=h.next;exact⟨f1a h.may.s,fun r hr v hv=>(h.rows r hr v hv).2.1,h.ch.2.1,n5⟩
theorem f8q{t:CT}(h:StOK t):(stB t).length≤19000:=by
 obtain⟨n1,n2,n3,n4,n5,n6,n7⟩:=h.next;have ho:=h.ok;unfold stB;simp only[Ac];have g1:=a5e ho.1;have g2:=d3s (m:=12) (c2i h.may.s) (c6z h.may.s h.may.l) (e0o h.may.s) (e1b h.may.s h.may.l) (by omega);have g3:=d6n h.width h.may.buf;have g4:=c6j (d2o h.may.segs) (c0q h.may.segs);have g5:(flB t.2.2.2.2.2.1).length≤10:=by
  unfold flB;refine a5e ?_;split
  ·exact f0i
  ·exact a1a
 have g6:=d4h (m:=20) h.ch.1 ⟨by have:=h.ch.2.2.1;omega,h.ch.2.2.2⟩ (by omega);have g7:=d3s (m:=12) n1 n2 n3 n4 (by omega);have g8:=c6j (d2o h.may.next) (c0q h.may.next);have g9:=e1a n6 n7;unfold a9a at g4;unfold a8e at g8;omega
theorem g4m:I64 5:=⟨by decide,by decide⟩
theorem g2w:I64 6:=⟨by decide,by decide⟩
theorem g4j:I64 7:=⟨by decide,by decide⟩
theorem RecOK.ok{r:CR}(h:RecOK r):okCR r:=by
 have hr:c0g r.2.2.1:=fun x hx v hv=>((h.rows.2 x hx).1 v hv).1
 have h2:=h.n;have h3:=h.its.2;have h4:=h.more.2;have h5:=h.ch.1;have h0:=h.st;have hc:=h.clean;clear h;cases hc with
 |all t=>exact⟨f0i,(h0 rfl).ok,hr,h2,h3,h4,h5⟩
 |fresh l=>exact⟨f2n,okT0,hr,h2,h3,h4,h5⟩
 |flushed k a b=>exact⟨f8j,okT0,hr,h2,h3,h4,h5⟩
 |begun c=>exact⟨f3n,okT0,hr,h2,h3,h4,h5⟩
 |moved a=>exact⟨g4m,okT0,hr,h2,h3,h4,h5⟩
 |cut=>exact⟨g2w,okT0,hr,h2,h3,h4,h5⟩
 |undone=>exact⟨g4j,okT0,hr,h2,h3,h4,h5⟩
theorem byT0:byT zT:=⟨(fun c hc=>by cases hc),(fun r hr=>by cases hr),⟨(fun x hx=>by cases hx),fun x hx=>by cases hx⟩,fun c hc=>by cases hc⟩
theorem RecOK.rest{r:CR}(h:RecOK r):szR 100 r∧byR r:=by
 have h1:c0d 100 r.2.2.1:=⟨by have:=h.rows.1;omega,fun x hx=>⟨by have:=(h.rows.2 x hx).2;omega,fun v hv=>by have:=((h.rows.2 x hx).1 v hv).2.2;unfold szV;omega⟩⟩
 have h2:r.2.2.2.2.1.length≤100:=by have:=h.its.1;omega
 have h3:r.2.2.2.2.2.1.length≤100:=by have:=h.more.1;omega
 have h4:szG 100 r.2.2.2.2.2.2.1:=⟨by have:=h.ch.2.2.1;omega,by have:=h.ch.2.2.2;unfold szV;omega⟩
 have b1:e2k r.2.2.1:=fun x hx v hv=>((h.rows.2 x hx).1 v hv).2.1
 have b2:=h.ch.2.1;have h0:=h.st;have hc:=h.clean;clear h;cases hc with
 |all t=>exact⟨⟨(h0 rfl).sz,h1,h2,h3,h4⟩,(h0 rfl).by,b1,b2⟩
 |fresh l=>exact⟨⟨szT0,h1,h2,h3,h4⟩,byT0,b1,b2⟩
 |flushed k a b=>exact⟨⟨szT0,h1,h2,h3,h4⟩,byT0,b1,b2⟩
 |begun c=>exact⟨⟨szT0,h1,h2,h3,h4⟩,byT0,b1,b2⟩
 |moved a=>exact⟨⟨szT0,h1,h2,h3,h4⟩,byT0,b1,b2⟩
 |cut=>exact⟨⟨szT0,h1,h2,h3,h4⟩,byT0,b1,b2⟩
 |undone=>exact⟨⟨szT0,h1,h2,h3,h4⟩,byT0,b1,b2⟩
theorem f3u{r:CR}(h:RecOK r):(recB r).length≤20000:=by
 have ho:=h.ok;have g1:=a5e ho.1;have g2:=d6n h.rows.2 (by have:=h.rows.1;omega);have g3:=a5e h.n;have g4:=c6j h.its.2 (by have:=h.its.1;omega);have g5:=c6j h.more.2 (by have:=h.more.1;omega);have g6:=d4h (m:=20) h.ch.1 ⟨by have:=h.ch.2.2.1;omega,h.ch.2.2.2⟩ (by omega);have h0:=h.st;unfold recB;rw[Ac];by_cases k1:r.1=1
 ·have:=f8q (h0 k1);rw[if_pos k1];omega
 by_cases k2:r.1=2
 ·rw[if_neg k1,if_pos k2];omega
 by_cases k3:r.1=3
 ·rw[if_neg k1,if_neg k2,if_pos k3];simp only[Ac];omega
 by_cases k5:r.1=5
 ·rw[if_neg k1,if_neg k2,if_neg k3,if_pos k5];omega
 by_cases k4:r.1=4
 ·rw[if_neg k1,if_neg k2,if_neg k3,if_neg k5,if_pos k4];omega
 ·rw[if_neg k1,if_neg k2,if_neg k3,if_neg k5,if_neg k4];simp only[A0];omega
end Go.Rb.R7

namespace Go.Rb.R7
open Go.Rb
theorem c6b{y:(CT×List CR×Unit)×Unit}(h:e9t y):1≤y.1.2.1.length∧y.1.2.1.length≤31:=by
 obtain⟨_,_,l,st,e,_,hl,_⟩:=h;rw[e,Ac,Av];omega
theorem d5u{b l:List Int}{a w:Int}(hb:a1v b)(hl:a1v l)(ha:0≤a∧a≤65535)(hw:0≤w∧w≤255):∃n y,a4u n (b,l,a,w,())=some y∧y.1.1=true:=by
 obtain⟨n,hn,hr,hbg⟩:∃n,70000000000000≤n∧n≤140737488355328∧a5p n ()=some ((true,()),()):=⟨_,by omega,by omega,e7p 99999999999000⟩
 refine⟨n,?_⟩;show Gets (a4u n (b,l,a,w,())) fun y=>y.1.1=true
 unfold a4u;dsimp only;rw[hbg];simp only[Ab];refine .not (fun h=>by cases h) fun _=>.dec (fun _=>.some rfl) fun hb3=>.dec (fun _=>.some rfl) fun hl2=>?_
 refine .bind (b4k (by omega) ⟨by omega,hl⟩ (by omega)) fun y2 hrec=>?_
 have hlen:=c6b hrec;obtain⟨_,hall,_⟩:=hrec;generalize y2.1.2.1=L at hlen hall;refine .neg (by omega) ?_;rw[a0i (x:=a) (by omega) (by omega)];have i1:=Dl (L.length:Int) ha.1;have i2:=Du a (b:=(L.length:Int)) (by omega);refine .atI i1 i2 ?_;have hr1:RecOK (L.getD (a.tmod (L.length:Int)).toNat zR):=hall _ (a6s (by omega));have hr2:L.getD (a.tmod (L.length:Int)).toNat (0,(0,([],0,()),(0,0,0,[],()),[],[],false,(0,0,[],0,(0,0,[],()),0,0,()),([],0,()),(0,0,0,[],()),[],0,0,()),[],0,[],[],(0,0,[],0,(0,0,[],()),0,0,()),())=L.getD (a.tmod (L.length:Int)).toNat zR:=rfl;rw[hr2];generalize L.getD (a.tmod (L.length:Int)).toNat zR=r at hr1;have hm:=f3u hr1;have hput:b0n n (r,())=some ((recB r,()),()):=f4s hr1.clean hr1.ok hr1.rest.1 hr1.rest.2 (by omega) hn hr;rw[hput];simp only[Ab];have h1:1≤(recB r).length:=by
  unfold recB;rw[Ac];have:=c4w r.1;omega
 have hby:=e8c hr1.rest.2;generalize recB r=c at hm h1 hby;refine .neg (by rw[decide_eq_true_eq];omega) (.neg (by omega) ?_);rw[Int.tdiv_eq_ediv_of_nonneg ha.1,a0i (x:=a / 8) (by omega) (by omega)];have j1:=Dl (c.length:Int) (show 0≤a / 8 by omega);have j2:=Du (a / 8) (b:=(c.length:Int)) (by omega);refine .atI j1 j2 ?_;generalize (((a / 8).tmod (c.length:Int)).toNat)=j;have hset:a1v (c.set j w):=fun x hx=>by
  rcases E0 hx with h|rfl
  ·exact hby x h
  ·exact hw
 have hsl:(c.set j w).length≤30000:=by rw[List.length_set];omega
 have two:∀x,x∈[b,c.set j w]→a1v x∧x.length≤30000:=by
  intro x hx;rcases List.mem_cons.1 hx with rfl|hx
  ·exact⟨hb,by omega⟩
  ·rcases BS.1 hx with rfl;exact⟨hset,hsl⟩
 generalize hT:[b,c.set j w]=T at two;have hTl:T.length=2:=by rw[←hT];rfl
 refine .iter (fun s4=>0≤s4∧s4≤2) (fun s4=>(2 - s4).toNat) (by omega) (by omega) fun rec s4 hi ih=>?_
 refine .dec (fun h2=>.atI hi.1 (by omega) ?_) fun _=>.some rfl
 obtain⟨g1,g2⟩:=two _ (a6s (d:=[]) (show s4.toNat<T.length by omega));have hnext:Gets (rec (Aa.wrap (s4+1))) fun y=>y.1.1=true:=by
  rw[a0i (x:=s4+1) (by omega) (by omega)];exact ih _ (by omega) (by omega)
 refine .bind (f3p g1 g2 hn hr) fun y6 h6=>?_
 rcases h6 with⟨q,rfl,hq⟩|rfl
 ·refine .pos rfl ?_;dsimp only;rw[hq];simp only[Ab];refine .atI hi.1 (by omega) (.neg (by simp) (.neg (by simp) hnext))
 ·refine .neg (by simp) (.pos (by simp) (.neg (by simp) (.neg (by simp) hnext)))
end Go.Rb.R7

namespace Go.Rb.R7
open Go.Rb
theorem e7k(b:Bool):(b==b)=true:=by cases b <;> rfl
theorem b0t{n:Nat}{l:List CI}(hn:l.length<n)(hc:l.length≤1000000):a6o n (l,l,())=ok1 true:=by
 unfold a6o;dsimp only;rw[if_neg (by simp)];refine a4b (fun i=>(i:Int)) l.length rfl ?_ ?_ hn
 ·intro rec i hi
  try dsimp only
  rw[if_pos (by rw[decide_eq_true_eq];omega),a3b hi,a3b hi,if_neg (by simp),a0d (by omega)]
 ·intro rec
  try dsimp only
  rw[if_neg (by rw[decide_eq_true_eq];omega)]
theorem b6y{n:Nat}{l:List CV}(hn:l.length<n)(hc:l.length≤1000000):a8k n (l,l,())=ok1 true:=by
 unfold a8k;dsimp only;rw[if_neg (by simp)];refine a4b (fun i=>(i:Int)) l.length rfl ?_ ?_ hn
 ·intro rec i hi
  try dsimp only
  rw[if_pos (by rw[decide_eq_true_eq];omega),a3b hi,a3b hi,if_neg (by simp),a0d (by omega)]
 ·intro rec
  try dsimp only
  rw[if_neg (by rw[decide_eq_true_eq];omega)]
theorem b7d{n:Nat}{l:List (List CV)}(hn:l.length<n)(hc:l.length≤1000000)(hw:∀r,r∈l→r.length<n∧r.length≤1000000):a9m n (l,l,())=ok1 true:=by
 unfold a9m b3m;dsimp only;rw[if_neg (by simp)];refine a4b (fun i=>(i:Int)) l.length rfl ?_ ?_ hn
 ·intro rec i hi;have h1:=hw _ (A1 hi)
  try dsimp only
  rw[if_pos (by rw[decide_eq_true_eq];omega),a3b hi,a3b hi,Ah,a8y hi,b6y h1.1 h1.2];simp only[Ab,Bool.not_true,Bool.false_eq_true,if_false];rw[a0d (by omega)]
 ·intro rec
  try dsimp only
  rw[if_neg (by rw[decide_eq_true_eq];omega)]
theorem a5f{n N:Nat}{t:CT}(hs:Sm N t)(hw:∀r,r∈t.2.2.2.1→r.length≤1000)(hn:3000≤n):a3n n (t,t,())=ok1 true:=by
 have ha:=hs.a;have hb:=hs.b;have h3:=hs.buf;have h4:t.2.2.2.2.1.length≤1000:=hs.segs;have h5:t.2.2.2.2.2.2.2.2.2.1.length≤1000:=hs.next;have a1:=ha.cols;have a2:=ha.enc;have a3:=hb.cols;have a4:=hb.enc;clear hs;unfold a3n;dsimp only;rw[if_neg (by simp),if_neg (by simp),if_neg (by simp),if_neg (by simp),if_neg (by simp),b0p (by omega) (by omega)];simp only[Ab];rw[if_neg (by simp),b0p (by omega) (by omega)];simp only[Ab];rw[if_neg (by simp),b0r (by omega) (by omega)];simp only[Ab];rw[if_neg (by simp),b0r (by omega) (by omega)];simp only[Ab];rw[if_neg (by simp),b7d (by omega) (by omega) fun r hr=>⟨by have:=hw r hr;omega,by have:=hw r hr;omega⟩];simp only[Ab];rw[if_pos trivial,b0t (by omega) (by omega)];simp only[Ab];rw[if_pos trivial,b0t (by omega) (by omega)];rfl
theorem sm0{N:Nat}:Sm N zT:=⟨b9d,b9d,by simp,by simp[a9a],by simp[a8e],(fun x hx=>by cases hx),by simp[zG]⟩
theorem d7e{n:Nat}{t:CT}{r:CR}(ht:StOK t)(hr:RecOK r)(hn:3000≤n):a3n n ((a5h t r).1,(a5h t r).1,())=ok1 true:=by
 by_cases h:(a5h t r).2=0
 ·have h2:=ht.turn hr h;exact a5f h2.sm.toSm (fun x hx=>by have:=(h2.width x hx).2;omega) hn
 ·rw[c4a h];exact a5f (N:=12) sm0 (fun x hx=>by cases hx) hn
theorem e0p:∃n,3000≤n∧140737488360000≤n∧a5p n ()=some ((true,()),()):=⟨_,by omega,by omega,e7p 140737488361000⟩
theorem e0u{l:List Int}(hl:a1v l):∃n y,a6a n (l,())=some y∧y.1.1=true:=by
 obtain⟨n,hn,_,hbg⟩:=e0p;refine⟨n,?_⟩;show Gets (a6a n (l,())) fun y=>y.1.1=true
 unfold a6a;dsimp only;rw[hbg];simp only[Ab];refine .not (fun h=>by cases h) fun _=>.dec (fun _=>.some rfl) fun hl2=>?_
 refine .bind (b4k (by omega) ⟨by omega,hl⟩ (by omega)) fun y2 hrec=>?_
 have hlen:=c6b hrec;obtain⟨hst,hall,_⟩:=hrec;generalize y2.1.2.1=L at hlen hall;generalize y2.1.1=first at hst
 refine .iter (fun s3=>StOK s3.1∧0≤s3.2∧s3.2≤(L.length:Int)) (fun s3=>((L.length:Int) - s3.2).toNat) ⟨hst,by simp,by dsimp only;omega⟩ (by dsimp only;omega) fun rec s3 hi ih=>?_
 obtain⟨t,i⟩:=s3;obtain⟨q1,q2,q3⟩:=hi;dsimp only at *;refine .dec (fun hlt=>.atI q2 hlt ?_) fun _=>.some rfl
 have hr:RecOK (L.getD i.toNat zR):=hall _ (a6s (by omega));have hr2:L.getD i.toNat (0,(0,([],0,()),(0,0,0,[],()),[],[],false,(0,0,[],0,(0,0,[],()),0,0,()),([],0,()),(0,0,0,[],()),[],0,0,()),[],0,[],[],(0,0,[],0,(0,0,[],()),0,0,()),())=L.getD i.toNat zR:=rfl;rw[hr2];generalize L.getD i.toNat zR=r at hr;rw[b5d q1.sm hr.sm q1.it hr.it (by omega) hn (by omega)];simp only[Ab];refine .atI q2 hlt ?_;rw[b2k q1.sm hr.sm (by omega) hn (by omega) (by omega)];simp only[Ab];rw[if_neg (by simp),d7e q1 hr hn];simp only[Ab];rw[if_neg (by simp),a0i (x:=i+1) (by omega) (by omega)];by_cases h0:(a5h t r).2=0
 ·rw[if_neg (by simp[h0])];have h2:=q1.turn hr h0;have hm:=d5b.2 (c2x h0).2;generalize (a5h t r).1=t' at h2 hm;have g1:=h2.sm.segs;have g2:=h2.sm.next;rw[b6q g1 g2 (by omega),b4o g1 g2 (by omega),b7x h2.sm.toSm h2.it.segs h2.it.next hn (by omega),hm];simp only[Ab];rw[if_neg (by simp),if_neg (by simp)];have hE:(extB t').length≤2000:=by unfold extB;rw[List.length_map,Ac];omega
  refine .iter (fun s=>0≤s∧s≤((extB t').length:Int)) (fun s=>(((extB t').length:Int) - s).toNat) ⟨by simp,by omega⟩ (by omega) fun rec2 s hi2 ih2=>?_
  refine .dec (fun hs=>.atI hi2.1 hs (.atI hi2.1 hs (.neg (by simp) (ih2 _ ?_ ?_)))) fun hs=>ih _ ⟨h2,by dsimp only;omega,by dsimp only;omega⟩ (by dsimp only;omega)
  all_goals (rw[a0i (x:=s+1) (by omega) (by omega)];omega)
 ·rw[if_pos (by simp[h0])];exact ih _ ⟨q1,by dsimp only;omega,by dsimp only;omega⟩ (by dsimp only;omega)
end Go.Rb.R7

namespace Go.Rb.R7
open Go.Rb
theorem d9s{cols:List Cl}{c:Chg}{rows:List (List V)}(h:(b0d cols c rows).2=true):(b0d cols c rows).1.length=rows.length:=by
 unfold b0d at *;split at h
 ·rename_i hc;rw[if_pos hc];simp
 ·cases h
theorem b9p{t t':CT}{r:CR}(hv:0≤t.1∧t.1≤200)(h:b5n t r=some t')(hk:r.1≠1) :
  (t'.2.2.2.1.length:Int)=(if r.1=2 then(t.2.2.2.1.length:Int)+(r.2.2.1.length:Int) else if r.1=3 then(t.2.2.2.1.length:Int) - r.2.2.2.1 else(t.2.2.2.1.length:Int))∧t.1≤t'.1 ∧
  (r.1=6→t'.1=t.1+1∧t'.2.2.2.2.2.1=false∧t'.2.2.2.2.1.length=t.2.2.2.2.2.2.2.2.2.1.length)∧(r.1=7→t'.2.2.2.2.2.1=false∧t'.2.2.2.2.1.length=t.2.2.2.2.1.length):=by
 obtain⟨v,s,l,buf,segs,busy,c,ns,nl,next,todo,done,u⟩:=t;obtain⟨k,st,rows,m,its,more,ch,u2⟩:=r;unfold b5n at h;dsimp only at *;rw[if_neg hk] at h;split at h
 ·rename_i k2;split at h
  ·cases h;refine⟨?_,Bu _,fun h=>absurd h (by omega),fun h=>absurd h (by omega)⟩;rw[if_pos k2];dsimp only;rw[Ac];omega
  ·cases h
 rename_i k2;split at h
 ·rename_i k3;split at h
  ·rename_i hc;cases h;refine⟨?_,Bu _,fun h=>absurd h (by omega),fun h=>absurd h (by omega)⟩;rw[if_neg k2,if_pos k3];dsimp only;rw[B8];omega
  ·cases h
 rename_i k3;split at h
 ·split at h
  ·cases h;refine⟨?_,Bu _,fun h=>absurd h (by omega),fun h=>absurd h (by omega)⟩;rw[if_neg k2,if_neg k3]
  ·cases h
 split at h
 ·split at h
  ·cases h;refine⟨?_,Bu _,fun h=>absurd h (by omega),fun h=>absurd h (by omega)⟩;rw[if_neg k2,if_neg k3]
  ·cases h
 split at h
 ·split at h
  ·rename_i hc;cases h;have hw:Aa.wrap (v+1)=v+1:=a0i (by omega) (by omega);refine⟨?_,?_,fun _=>⟨hw,rfl,rfl⟩,fun h=>absurd h (by omega)⟩
   ·rw[if_neg k2,if_neg k3];dsimp only;rw[d9s hc.2.2]
   ·dsimp only;rw[hw];omega
  ·cases h
 split at h
 ·split at h
  ·cases h;refine⟨?_,Bu _,fun h=>absurd h (by omega),fun _=>⟨rfl,rfl⟩⟩;rw[if_neg k2,if_neg k3]
  ·cases h
 ·cases h
theorem d7n{l:List Int}(hl:a1v l):∃n y,a5a n (l,())=some y∧y.1.1=true:=by
 obtain⟨n,hn,_,hbg⟩:=e0p;refine⟨n,?_⟩;show Gets (a5a n (l,())) fun y=>y.1.1=true
 unfold a5a;dsimp only;rw[hbg];simp only[Ab];refine .not (fun h=>by cases h) fun _=>.dec (fun _=>.some rfl) fun hl2=>?_
 refine .bind (b4k (by omega) ⟨by omega,hl⟩ (by omega)) fun y2 hrec=>?_
 have hlen:=c6b hrec;obtain⟨hst,hall,l0,stL,hL,_,_,hfold,hno⟩:=hrec;generalize y2.1.2.1=L at hlen hall hL;generalize y2.1.1=first at hst hfold
 refine .iter (fun s3=>StOK s3.1∧0≤s3.2∧s3.2≤(L.length:Int)∧(L.take s3.2.toNat).foldl c5r first=s3.1) (fun s3=>((L.length:Int) - s3.2).toNat) ⟨hst,by simp,by dsimp only;omega,rfl⟩ (by dsimp only;omega) fun rec s3 hi ih=>?_
 obtain⟨t,i⟩:=s3;obtain⟨q1,q2,q3,q4⟩:=hi;dsimp only at *;refine .dec (fun hlt=>.atI q2 hlt ?_) fun _=>.some rfl
 have hil:i.toNat<L.length:=by omega
 have hr:RecOK (L.getD i.toNat zR):=hall _ (a6s (by omega));have hr2:L.getD i.toNat (0,(0,([],0,()),(0,0,0,[],()),[],[],false,(0,0,[],0,(0,0,[],()),0,0,()),([],0,()),(0,0,0,[],()),[],0,0,()),[],0,[],[],(0,0,[],0,(0,0,[],()),0,0,()),())=L.getD i.toNat zR:=rfl;have hstep:(L.take (i+1).toNat).foldl c5r first=c5r t (L.getD i.toNat zR):=by
  rw[show(i+1).toNat=i.toNat+1 by omega,List.take_succ_eq_append_getElem hil,D2,q4,a0h hil];rfl
 have hlast:(L.getD i.toNat zR).1=1→t.1≤(L.getD i.toNat zR).2.1.1:=by
  intro k1;by_cases hi0:i.toNat<l0.length
  ·refine absurd k1 (hno _ ?_);rw[a0h hil];simp only[hL,BK hi0];exact A1 hi0
  ·have e1:L.length=l0.length+1:=by rw[hL,Ac,Av]
   have e2:i.toNat=l0.length:=by omega
   have e3:L.getD i.toNat zR=allR stL:=by
    rw[a0h hil];simp only[hL,e2,Br (Ar _),Ej,E8]
   have e4:t=stL:=by
    rw[←q4,hL,e2,List.take_left']
    ·exact hfold
    ·rfl
   rw[e3,e4];exact Bu _
 rw[hr2];generalize L.getD i.toNat zR=r at hr hstep hlast;rw[b5d q1.sm hr.sm q1.it hr.it (by omega) hn (by omega)];simp only[Ab];rw[a0i (x:=i+1) (by omega) (by omega)];by_cases h0:(a5h t r).2=0
 ·rw[if_neg (by simp[h0])];have h2:=q1.turn hr h0;have ha:=c2x h0;have hs:c5r t r=(a5h t r).1:=by unfold c5r;rw[if_pos h0]
  rw[hs] at hstep;generalize (a5h t r).1=t' at h2 ha hstep;obtain⟨hturn,_⟩:=ha;have hv0:=q1.may.v0;have hv1:=q1.may.v1;have hnext:Gets (rec (t',i+1)) fun y=>y.1.1=true:=ih _ ⟨h2,by dsimp only;omega,by dsimp only;omega,hstep⟩ (by dsimp only;omega)
  have hb:=q1.sm.buf2;have hrl:=hr.rows.1;refine .join (fun s6=>r.1≠1→(t'.2.2.2.1.length:Int)=s6) ?_ ?_
  ·intro s6 hs6;refine .atI q2 hlt ?_;by_cases k1:r.1=1
   ·have ht1:b5n t r=some r.2.1:=by
     unfold b5n;obtain⟨k,st,rows,m,its,more,ch,u2⟩:=r;dsimp only at k1 ⊢;rw[if_pos k1]
    rw[ht1] at hturn;cases hturn;rw[if_neg (by simp[k1])];have:=hlast k1;refine .neg (by rw[decide_eq_true_eq];omega) (.atI q2 hlt (.dec (fun k6=>absurd k6 (by omega)) fun _=>.atI q2 hlt (.dec (fun k7=>absurd k7 (by omega)) fun _=>hnext)))
   ·obtain⟨g1,g2,g6,g7⟩:=b9p ⟨hv0,hv1⟩ hturn k1;have hw:Aa.wrap (t.1+1)=t.1+1:=a0i (by omega) (by omega);rw[if_pos (by simp[k1])];refine .neg (by simp[hs6 k1]) (.neg (by simp;omega) (.atI q2 hlt (.dec (fun k6=>?_) fun k6=>?_)))
    ·obtain⟨f1,f2,f3⟩:=g6 k6;rw[hw,f2,f3,f1];refine .neg (by simp) (.neg (by simp) (.neg (by simp) (.atI q2 hlt (.dec (fun k7=>absurd k7 (by omega)) fun _=>hnext))))
    ·refine .atI q2 hlt (.dec (fun k7=>?_) fun _=>hnext);obtain⟨f1,f2⟩:=g7 k7;rw[f1,f2];exact .neg (by simp) (.neg (by simp) hnext)
  ·intro J hJ;refine .atI q2 hlt (.dec (fun k2=>.atI q2 hlt (hJ _ fun k1=>?_)) fun k2=>.dec (fun k3=>.atI q2 hlt (hJ _ fun k1=>?_)) fun k3=>hJ _ fun k1=>?_)
   ·obtain⟨g1,_⟩:=b9p ⟨hv0,hv1⟩ hturn k1;rw[if_pos k2] at g1;rw[a0i (by omega) (by omega)];exact g1
   ·obtain⟨g1,_⟩:=b9p ⟨hv0,hv1⟩ hturn k1;rw[if_neg k2,if_pos k3] at g1;have:=hr.n;have h32:=h2.may.buf;rw[a0i (by omega) (by omega)];exact g1
   ·obtain⟨g1,_⟩:=b9p ⟨hv0,hv1⟩ hturn k1;rw[if_neg k2,if_neg k3] at g1;exact g1
 ·rw[if_pos (by simp[h0]),c4a h0];have hs:c5r t r=t:=by unfold c5r;rw[if_neg h0]
  rw[hs] at hstep;refine .neg (by simp) (.neg (by simp) (.neg (by simp) (ih _ ⟨q1,by dsimp only;omega,by dsimp only;omega,hstep⟩ (by dsimp only;omega))))
end Go.Rb.R7

namespace Go.Rb.R7
open Go.Rb
abbrev BIG:Nat:=140737488355328
theorem f4m{n:Nat}{t:CT}(hs:Sm BIG t)(hi:a7a (a9a t))(hj:a7a (a8e t))(hn:140737488360000≤n) :
  Gets ((a2w n (t,())).bind fun y=>(a2d n (t,())).bind fun y'=>some ((y.1.1==y'.1.1,()),())) fun y:(Bool×Unit)×Unit=>y.1.1=true:=by
 rw[b7x hs hi hj (by omega) (by unfold BIG;omega),c0j hs (by omega) (by unfold BIG;omega) (by unfold BIG;omega)];simp only[Ab];exact .some (e7k _)
structure RecIn (r:CR):Prop where
 its:a7a r.2.2.2.2.1
 more:a7a r.2.2.2.2.2.1
 nm:a1v r.2.2.2.2.2.2.1.2.2.1
 nml:r.2.2.2.2.2.2.1.2.2.1.length≤BIG
 len:r.2.2.1.length≤BIG
theorem StOK.big{t:CT}(h:StOK t):SmT BIG t:=h.may.sm (by unfold BIG;omega) h.ch.2.1.1 (by have:=h.ch.2.2.1;unfold BIG;omega)
theorem d8e{l:List Int}{wh to:Int}{r:CR}(hl:a1v l)(hw:0≤wh∧wh≤255)(ht:0≤to∧to≤255)(hr:RecIn r):∃n y,a5c n (l,wh,to,r,())=some y∧y.1.1=true:=by
 obtain⟨n,hn,hnb,hbg⟩:=e0p;have hro:=a4t;refine⟨n,?_⟩;show Gets (a5c n (l,wh,to,r,())) fun y=>y.1.1=true
 unfold a5c;dsimp only;rw[hbg];simp only[Ab];refine .not (fun h=>by cases h) fun _=>.dec (fun _=>.some rfl) fun hl2=>.dec (fun _=>.some rfl) fun hr1=>.dec (fun _=>.some rfl) fun hr2=>.dec (fun _=>.some rfl) fun hr3=>?_
 refine .iter (fun s2=>s2.1=r∧0≤s2.2∧s2.2≤(r.2.2.1.length:Int)) (fun s2=>((r.2.2.1.length:Int) - s2.2).toNat) ⟨rfl,by simp,by dsimp only;omega⟩ (by dsimp only;omega) fun rec3 s2 hi ih=>?_
 obtain⟨r',i⟩:=s2;obtain⟨q1,q2,q3⟩:=hi;dsimp only at q1 q2 q3;subst q1;refine .dec (fun hlt=>.atI q2 hlt (.dec (fun _=>.some rfl) fun _=>ih _ ⟨rfl,?_,?_⟩ ?_)) fun hlt=>?_
 ·dsimp only at *;rw[a0i (x:=i+1) (by omega) (by omega)];omega
 ·dsimp only at *;rw[a0i (x:=i+1) (by omega) (by omega)];omega
 ·dsimp only at *;rw[a0i (x:=i+1) (by omega) (by omega)];omega
 clear ih rec3 hlt;refine .bind (b4k (by omega) ⟨by omega,hl⟩ (by omega)) fun y4 hrec=>?_
 have hlen:=c6b hrec;obtain⟨hst,_,l0,st,hL,hok,_⟩:=hrec;generalize y4.1.2.1=L at hlen hL;generalize y4.1.1=first at hst
 have e1:L.length=l0.length+1:=by rw[hL,Ac,Av]
 have hidx:Aa.wrap ((L.length:Int) - 1)=((l0.length:Nat):Int):=by rw[a0i (by omega) (by omega)];omega
 have hlast:L.getD l0.length zR=allR st:=by
  rw[a0h (by omega)];simp only[hL,Br (Ar _),Ej,E8]
 have hlast2:L.getD l0.length (0,(0,([],0,()),(0,0,0,[],()),[],[],false,(0,0,[],0,(0,0,[],()),0,0,()),([],0,()),(0,0,0,[],()),[],0,0,()),[],0,[],[],(0,0,[],0,(0,0,[],()),0,0,()),())=allR st:=hlast;rw[hidx];simp only[Ah,hlast2];refine .atI (by omega) (by omega) ?_;refine .join (fun s5=>SmR BIG s5.2∧ItR s5.2) ?_ ?_
 ·rintro⟨s5,q⟩ ⟨h1,h2⟩;dsimp only at h1 h2 ⊢;rw[b5d hok.big h1 hok.it h2 (by unfold BIG;omega) hn (by unfold BIG;omega)];simp only[Ab];rw[b2k hok.big h1 (by unfold BIG;omega) hn (by unfold BIG;omega) (by unfold BIG;omega)];simp only[Ab];have hsame:a3n n ((a5h st q).1,(a5h st q).1,())=ok1 true:=by
   by_cases h:(a5h st q).2=0
   ·obtain⟨g1,g2⟩:=c2x h;refine a5f (d4k (by unfold BIG;omega) hok.big h1 g1) (fun x hx=>?_) hn;have h6:=(b5h.1 g2.s).len6;have:=(a9s.1 (g2.rows x hx)).1;omega
   ·rw[c4a h];exact a5f (N:=12) sm0 (fun x hx=>by cases hx) hn
  rw[if_neg (by simp),hsame];simp only[Ab];rw[if_neg (by simp)];clear hsame h1 h2 hlast hlast2 hL hidx;have w1:∀x,I64 (Aa.wrap x):=fun x=>a9f _
  have hsm:=hok.big;have hit:=hok.it;have ha:=hsm.a;have hb:=hsm.b;have b1:=hsm.buf2;have b2:st.2.2.2.2.1.length≤100:=hsm.segs2;have b3:st.2.2.2.2.2.2.2.2.2.1.length≤100:=hsm.next2;have c1:=hsm.nm;have c2:=hsm.nml;have i1:a7a st.2.2.2.2.1:=hit.segs;have i2:a7a st.2.2.2.2.2.2.2.2.2.1:=hit.next;clear hsm hit hok;obtain⟨v,s,ly,buf,segs,busy,c,ns,nl,next,todo,done,u⟩:=st;dsimp only at *;have mk:∀(v:Int) (s:CS) (ly:CL) (buf:List (List CV)) (segs:List CI) (busy:Bool) (c':CG) (ns:CS) (nl:CL) (next:List CI) (todo done:Int),SmS BIG s ly→SmS BIG ns nl→buf.length≤1000→segs.length≤1000→next.length≤1000→c'.2.2.1=c.2.2.1→a7a segs→a7a next →
    Gets ((a2w n ((v,s,ly,buf,segs,busy,c',ns,nl,next,todo,done,u),())).bind fun y=>(a2d n ((v,s,ly,buf,segs,busy,c',ns,nl,next,todo,done,u),())).bind fun y'=>some ((y.1.1==y'.1.1,()),())) fun y:(Bool×Unit)×Unit=>y.1.1=true :=
   fun v s ly buf segs busy c' ns nl next todo done z1 z2 z3 z4 z5 z6 z7 z8=>f4m ⟨z1,z2,z3,z4,z5,by dsimp only;rw[z6];exact c1,by dsimp only;rw[z6];exact c2⟩ z7 z8 hnb
  refine .dec (fun _=>mk _ _ _ _ _ _ _ _ _ _ _ _ ha hb (by omega) (by omega) (by omega) rfl i1 i2) fun _=>?_
  refine .dec (fun _=>mk _ _ _ _ _ _ _ _ _ _ _ _ ha hb (by omega) (by omega) (by omega) rfl i1 i2) fun _=>?_
  refine .dec (fun _=>mk _ _ _ _ _ _ _ _ _ _ _ _ ha hb (by omega) (by omega) (by omega) rfl i1 i2) fun _=>?_
  refine .dec (fun _=>mk _ _ _ _ _ _ _ _ _ _ _ _ ha hb (by omega) (by omega) (by omega) rfl i1 i2) fun _=>?_
  refine .dec (fun _=>mk _ _ _ _ _ _ _ _ _ _ _ _ ha hb (by omega) (by omega) (by omega) rfl i1 i2) fun _=>?_
  refine .dec (fun _=>mk _ _ _ _ _ _ _ _ _ _ _ _ ⟨ha.cols,ha.nms,ha.nby,ha.enc⟩ hb (by omega) (by omega) (by omega) rfl i1 i2) fun _=>?_
  refine .dec (fun _=>mk _ _ _ _ _ _ _ _ _ _ _ _ ⟨ha.cols,ha.nms,ha.nby,ha.enc⟩ hb (by omega) (by omega) (by omega) rfl i1 i2) fun _=>?_
  refine .dec (fun _=>mk _ _ _ _ _ _ _ _ _ _ _ _ ha ⟨hb.cols,hb.nms,hb.nby,hb.enc⟩ (by omega) (by omega) (by omega) rfl i1 i2) fun _=>?_
  refine .dec (fun _=>mk _ _ _ _ _ _ _ _ _ _ _ _ ha ⟨hb.cols,hb.nms,hb.nby,hb.enc⟩ (by omega) (by omega) (by omega) rfl i1 i2) fun _=>?_
  have hone:∀a b c d e:Int,I64 a→I64 b→I64 c→I64 d→I64 e→a7a [((a,b,()),c,d,e,())]:=fun a b c d e h1 h2 h3 h4 h5=>b7s ⟨h1,h2,h3,h4,h5⟩
  have w3:I64 3:=f8j;refine .dec (fun _=>?_) fun _=>?_
  ·refine .pos (by simp only[A0];omega) (.pos (by simp only[Ac,A0,Av];omega) (mk _ _ _ _ _ _ _ _ _ _ _ _ ha hb (by omega) ?_ (by omega) rfl (b1x (b1x a5i i1) (hone _ _ _ _ _ (w1 _) w3 (w1 _) (w1 _) (w1 _))) i2));simp only[Ac,A0,Av];omega
  refine .dec (fun _=>?_) fun _=>?_
  ·refine .pos (by simp only[A0];omega) (.pos (by simp only[Ac,A0,Av];omega) (mk _ _ _ _ _ _ _ _ _ _ _ _ ha hb (by omega) (by omega) ?_ rfl i1 (b1x (b1x a5i i2) (hone _ _ _ _ _ (w1 _) w3 (w1 _) (w1 _) (w1 _)))));simp only[Ac,A0,Av];omega
  ·refine .pos (by simp only[A0];omega) (.pos (by simp only[Ac,A0,Av];omega) (mk _ _ _ _ _ _ _ _ _ _ _ _ ha hb ?_ (by omega) (by omega) rfl i1 i2));simp only[Ac,A0,Av];omega
 ·intro J hJ;have z0:([]:List (List CV)).length≤900:=by simp
  have z1:([]:List CI).length≤900:=by simp
  have z2:a1v ([]:List Int):=fun x hx=>by cases hx
  have z3:([]:List Int).length≤BIG:=by simp
  have d1:=hr.nm;have d2:=hr.nml;have d3:=hr.its;have d4:=hr.more;obtain⟨k,rs,rows,m,its,more,ch,u⟩:=r';dsimp only at *;refine .dec (fun k1=>hJ _ ⟨⟨fun _=>hst.big.toSm,z0,z1,z1,z2,z3⟩,⟨fun _=>hst.it,a5i,a5i⟩⟩) fun k1=>?_
  have n1:∀{p:Prop},k=1→p:=fun h=>absurd h k1
  refine .dec (fun k2=>hJ _ ⟨⟨n1,by dsimp only;omega,z1,z1,z2,z3⟩,⟨n1,a5i,a5i⟩⟩) fun k2=>?_
  refine .dec (fun k3=>hJ _ ⟨⟨n1,z0,by dsimp only;omega,by dsimp only;omega,z2,z3⟩,⟨n1,d3,d4⟩⟩) fun k3=>?_
  refine .dec (fun k4=>hJ _ ⟨⟨n1,z0,z1,z1,d1,d2⟩,⟨n1,a5i,a5i⟩⟩) fun k4=>?_
  refine .dec (fun k5=>hJ _ ⟨⟨n1,z0,by dsimp only;omega,z1,z2,z3⟩,⟨n1,d3,a5i⟩⟩) fun k5=>?_
  exact hJ _ ⟨⟨n1,z0,z1,z1,z2,z3⟩,⟨n1,a5i,a5i⟩⟩
end Go.Rb.R7
