/- Plain laws, of no program: loops, bits, numbers as bytes. Own work. -/
import Derived.Test.YthkgkalebkbndaaGreatDoorRbE
import Derived.Test.YthkgkalebkbndaaGreatDoorRbI
set_option autoImplicit false
set_option linter.unusedVariables false
set_option linter.unusedSimpArgs false
open BitVec renaming allOnes->Gw,ofInt->AS,toNat_and->FZ,toNat_not->Ga,toNat_or->Gi,xor_allOnes->FE
open Bool renaming and_eq_true->Af,not_eq_true'->A8,or_eq_true->B6
open Function renaming comp_apply->D1
open Go.IntKind renaming bits->BC,i16->D2,i64->Aa,signed->Bs,u64->Ae,u8->Ah,wrap->BB
open Go.Lib renaming bitLen->BQ
open Int renaming emod_def->Ji,fdiv_eq_ediv_of_nonneg->EX,le_of_lt->Jj,lt_trichotomy->Gy,mul_assoc->FF,mul_comm->Jh,natCast_ediv->G2,pow_pos->EY,pow_succ->Fw,toNat_natCast->Ac
open List renaming all_eq_true->AK,append_assoc->Al,append_inj->G3,append_nil->A3,cons_append->AT,countP->CT,countP_cons->EE,drop_eq_getElem_cons->A7,drop_left->ET,ext_getElem->Bm,filterMap_cons->CZ,filterMap_nil->Dd,flatMap_cons->Du,foldl_cons->BK,getElem?_eq_getElem->Ax,getElem_map->Bj,getElem_mem->Aj,getElem_of_eq->Dj,getElem_range->BT,length->BS,length_append->Ap,length_cons->A6,length_drop->AM,length_map->Bb,map_congr_left->C8,map_cons->AW,map_id->Jf,map_map->Cv,mem_append->Ao,mem_cons->Az,mem_cons_of_mem->Ar,mem_filter->Ck,mem_map->Bu,mem_of_mem_drop->Bf,mem_singleton->B9,pairwise_cons->C7,pairwise_iff_getElem->BE,range->AA,replicate->Ag,take_succ_cons->BX,take_succ_eq_append_getElem->Am
open List.Pairwise renaming imp_of_mem->Jg
open List.cons renaming injEq->AB
open Nat renaming add_comm->D0,add_sub_cancel->Gj,and_le_left->GE,div_div_eq_div_mul->Fv,le_refl->Av,lt_or_ge->AY,lt_trichotomy->Gx,min_eq_left->DE,mod_eq_of_lt->C5,mul_add->FO,mul_assoc->Fl,mul_comm->BM,mul_le_mul_left->Dg,mul_le_mul_right->An,or_lt_two_pow->Gv,pow_pos->FP,pow_succ->BL,strongRecOn->DH
open Option.some renaming inj->Ai,injEq->Ad
open Prod.mk renaming injEq->Ak
namespace Go.Rb
variable {R:Type} {σ:Type}
theorem g0o{f:(σ→Option R)→σ→Option R}(st:Nat→σ)(k:Nat){r:Option R}(h:∀rec i,i<k→f rec (st i)=rec (st (i+1)))(he:∀rec,f rec (st k)=r):∀{n:Nat},k<n→a0h f n (st 0)=r:=by
 have key:∀(m n i:Nat),i+m=k→m<n→a0h f n (st i)=r:=by
  intro m
  induction m with
  |zero =>
   intro n i hi hn;obtain⟨n,rfl⟩:∃n',n=n'+1:=⟨n - 1,by omega⟩
   unfold a0h;obtain rfl:i=k:=by omega
   exact he _
  |succ m ih =>
   intro n i hi hn;obtain⟨n,rfl⟩:∃n',n=n'+1:=⟨n - 1,by omega⟩
   unfold a0h;rw[h _ i (by omega)];exact ih n (i+1) (by omega) (by omega)
 intro n hn;exact key k n 0 (by omega) hn
theorem a0i{f:(σ→Option R)→σ→Option R}(st:Nat→σ)(k:Nat){r:Option R}{s0:σ}(h0:st 0=s0)(h:∀rec i,i<k→f rec (st i)=rec (st (i+1)))(he:∀rec,f rec (st k)=r){n:Nat}(hn:k<n):a0h f n s0=r:=by
 subst h0;exact g0o st k h he hn
theorem a8m{f:(σ→Option R)→σ→Option R}(I:Nat→σ→Prop)(res:σ→Option R)(h:∀k s rec,I k s→(∀j s',j<k→I j s'→rec s'=res s')→f rec s=res s) :
  ∀(n k:Nat) (s:σ),I k s→k<n→a0h f n s=res s
 |0,k,s,_,hk=>absurd hk (Nat.not_lt_zero _)
 |n+1,k,s,hi,hk=>h k s (a0h f n) hi fun j s' hj hs'=>a8m I res h n j s' hs' (by omega)
theorem b7m{α:Type}{body:(Int→Option R)→Int→Option R}(l:List α)(p:α→Bool)(no fin:Option R){n:Nat}(hn:l.length<n)
  (hb:∀rec i (hi:i<l.length),body rec (i:Int)=if p l[i]=true then rec ((i+1:Nat):Int) else no) (he:∀rec,body rec (l.length:Int)=fin):a0h body n (0:Int)=if l.all p=true then fin else no:=by
 have key:∀(k n:Nat) (i:Nat),i+k=l.length→k<n→a0h body n (i:Int)=if(l.drop i).all p=true then fin else no:=by
  intro k
  induction k with
  |zero =>
   intro n i hi hn;obtain⟨n,rfl⟩:∃n',n=n'+1:=⟨n - 1,by omega⟩
   obtain rfl:i=l.length:=by omega
   unfold a0h;rw[he];simp
  |succ k ih =>
   intro n i hi hn;obtain⟨n,rfl⟩:∃n',n=n'+1:=⟨n - 1,by omega⟩
   have hil:i<l.length:=by omega
   unfold a0h;rw[hb _ i hil,A7 hil,List.all_cons];cases hp:p l[i] with
   |false=>simp
   |true=>rw[if_pos rfl,ih n (i+1) (by omega) (by omega)];simp
 have:=key l.length n 0 (by omega) hn;simpa using this
theorem a9u{f:σ→Option R}{g:(σ→Option R)→Option R}{r:Option R}(I:σ→Option R→Prop)(h1:∀s q,I s q→f s=q)(h2:∀J,(∀s q,I s q→J s=q)→g J=r):b1j f g=r:=h2 f h1
theorem a0s{i:Int}{n:Nat}{x:Option R}(h0:0≤i)(h1:i<n):atI i n x=x:=by
 unfold atI;rw[if_pos ⟨h0,h1⟩]
theorem a0a{i n:Nat}{x:Option R}(h1:i<n):atI (i:Int) n x=x:=a0s (by omega) (by omega)
theorem a0c{α:Type}{l:List α}{i:Nat}{d:α}(hi:i<l.length):l.getD i d=l[i]:=by
 rw[List.getD_eq_getElem?_getD,Ax hi];rfl
theorem b6r{α β:Type}(f:α→List β){l:List α}{i:Nat}(hi:i<l.length):(l.take (i+1)).flatMap f=(l.take i).flatMap f++f l[i]:=by
 rw[Am hi,List.flatMap_append,Du,List.flatMap_nil,A3]
theorem map_take{α β:Type}(f:α→β){l:List α}{i:Nat}(hi:i<l.length):(l.take (i+1)).map f=(l.take i).map f++[f l[i]]:=by
 rw[Am hi,List.map_append,AW,List.map_nil]
theorem b5r{x:Nat}(h:x<256):Ah.wrap (x:Int)=(x:Int):=a3u (by omega) (by omega)
theorem a2f{x:Nat}(h:x<18446744073709551616):Ae.wrap (x:Int)=(x:Int):=c6c (by omega) (by omega)
theorem a0q{x:Nat}(h:x<9223372036854775808):Aa.wrap (x:Int)=(x:Int):=a0d (by omega) (by omega)
theorem c1o(x:Int):Ah.wrap x=x % 256:=by
 simp only[BB,BC,Bs];simp
theorem a2d(x:Int):Ae.wrap x=x % 18446744073709551616:=by
 simp only[BB,BC,Bs];simp
theorem a6c(w x:Nat)(h:x<2 ^ w):(AS w (x:Int)).toNat=x:=by
 simp[BitVec.toNat_ofInt]
 exact_mod_cast C5 h
theorem d8z{x y:Nat}(hx:x<256)(hy:y<256):bits .or .u8 (x:Int) (y:Int)=((x ||| y:Nat):Int):=by
 have e1:=a6c 8 x (by omega);have e2:=a6c 8 y (by omega);have h:x ||| y<2 ^ 8:=Gv (by omega) (by omega);show Ah.wrap (((AS 8 (x:Int)) ||| (AS 8 (y:Int))).toNat:Int)=_;rw[Gi,e1,e2];exact b5r (by omega)
theorem c6u{x y:Nat}(hx:x<256)(hy:y<256):bits .and .u8 (x:Int) (y:Int)=((x &&& y:Nat):Int):=by
 have e1:=a6c 8 x (by omega);have e2:=a6c 8 y (by omega);have h:x &&& y≤x:=GE;show Ah.wrap (((AS 8 (x:Int)) &&& (AS 8 (y:Int))).toNat:Int)=_;rw[FZ,e1,e2];exact b5r (by omega)
theorem d3w{x y:Nat}(hx:x<18446744073709551616)(hy:y<18446744073709551616):bits .or .u64 (x:Int) (y:Int)=((x ||| y:Nat):Int):=by
 have e1:=a6c 64 x (by omega);have e2:=a6c 64 y (by omega);have h:x ||| y<2 ^ 64:=Gv (by omega) (by omega);show Ae.wrap (((AS 64 (x:Int)) ||| (AS 64 (y:Int))).toNat:Int)=_;rw[Gi,e1,e2];exact a2f (by omega)
theorem d6v{x y:Nat}(hx:x<18446744073709551616)(hy:y<18446744073709551616):bits .and .u64 (x:Int) (y:Int)=((x &&& y:Nat):Int):=by
 have e1:=a6c 64 x (by omega);have e2:=a6c 64 y (by omega);have h:x &&& y≤x:=GE;show Ae.wrap (((AS 64 (x:Int)) &&& (AS 64 (y:Int))).toNat:Int)=_;rw[FZ,e1,e2];exact a2f (by omega)
theorem f2t{x y:Nat}(hx:x<18446744073709551616)(hy:y<18446744073709551616):bits .xor .u64 (x:Int) (y:Int)=((x ^^^ y:Nat):Int):=by
 have e1:=a6c 64 x (by omega);have e2:=a6c 64 y (by omega);have h:x ^^^ y<2 ^ 64:=Nat.xor_lt_two_pow (by omega) (by omega);show Ae.wrap (((AS 64 (x:Int)) ^^^ (AS 64 (y:Int))).toNat:Int)=_;rw[BitVec.toNat_xor,e1,e2];exact a2f (by omega)
theorem d1p(x k:Nat):((x:Int)).fdiv (k:Int)=((x / k:Nat):Int):=by
 rw[EX _ (by omega)];exact(G2 x k).symm
theorem a5m(x k:Nat):((x:Int)).tdiv (k:Int)=((x / k:Nat):Int):=by
 rw[Int.tdiv_eq_ediv_of_nonneg (by omega)];exact(G2 x k).symm
theorem a9k(x k:Nat):((x:Int)).tmod (k:Int)=((x % k:Nat):Int):=by
 rw[Int.tmod_eq_emod_of_nonneg (by omega)];exact(Int.natCast_emod x k).symm
theorem c7o(v k:Nat)(hk:k≤64):((v:Int)).fdiv (2 ^ min ((k:Int)).toNat Ae.bits)=((v / 2 ^ k:Nat):Int):=by
 have:(2 ^ min ((k:Int)).toNat Ae.bits:Int)=((2 ^ k:Nat):Int):=by
  rw[Ac,show Ae.bits=64 from rfl,DE hk]
  push_cast;rfl
 rw[this,d1p]
theorem f9w(v k:Nat)(hk:k≤8):((v:Int)).fdiv (2 ^ min ((k:Int)).toNat Ah.bits)=((v / 2 ^ k:Nat):Int):=by
 have:(2 ^ min ((k:Int)).toNat Ah.bits:Int)=((2 ^ k:Nat):Int):=by
  rw[Ac,show Ah.bits=8 from rfl,DE hk]
  push_cast;rfl
 rw[this,d1p]
theorem d3x(v k w:Nat)(hk:k≤w):(v:Int)*2 ^ min ((k:Int)).toNat w=((v*2 ^ k:Nat):Int):=by
 rw[Ac,DE hk]
 push_cast;rfl
set_option maxRecDepth 100000 in
theorem h1v{x:Nat}(h:x<256):x ||| 128=x % 128+128:=(by decide:∀x:Fin 256,x.1 ||| 128=x.1 % 128+128) ⟨x,h⟩
set_option maxRecDepth 100000 in
theorem g8h{x:Nat}(h:x<256):x &&& 128=if x<128 then 0 else 128:=(by decide:∀x:Fin 256,x.1 &&& 128=if x.1<128 then 0 else 128) ⟨x,h⟩
set_option maxRecDepth 100000 in
theorem g9g{x:Nat}(h:x<256):x &&& 127=x % 128:=(by decide:∀x:Fin 256,x.1 &&& 127=x.1 % 128) ⟨x,h⟩
def putN(v:Nat):List Int :=
 if v<128 then[(v:Int)] else((v % 128+128:Nat):Int)::putN (v / 128)
termination_by v
decreasing_by omega
theorem a4x{v:Nat}(h:v<128):putN v=[(v:Int)]:=by
 rw[putN];simp[h]
theorem a9m{v:Nat}(h:128≤v):putN v=((v % 128+128:Nat):Int)::putN (v / 128):=by
 conv=>lhs;rw[putN]
 rw[if_neg (by omega)]
theorem g6p(v:Nat):putN v≠[]:=by
 rw[putN];split <;> simp
theorem b6o(v:Nat):1≤(putN v).length:=by
 have:=g6p v;cases h:putN v with
 |nil=>exact absurd h this
 |cons=>simp
theorem g0b:∀(k v:Nat),v<128 ^ (k+1)→(putN v).length≤k+1
 |0,v,h=>by rw[a4x (by omega)];simp
 |k+1,v,h=>by
  by_cases hv:v<128
  ·rw[a4x hv];simp
  ·rw[a9m (by omega)];have:=g0b k (v / 128) (by rw[BL] at h;omega);simp;omega
theorem a3r{v:Nat}(h:v<18446744073709551616):(putN v).length≤10:=g0b 9 v (by omega)
theorem c7z:∀(v:Nat) (b:Int),b∈putN v→0≤b∧b≤255:=by
 intro v
 induction v using DH with
 |ind v ih =>
  intro b hb;by_cases h:v<128
  ·rw[a4x h] at hb;simp at hb;subst hb;omega
  ·rw[a9m (by omega)] at hb;rcases Az.1 hb with rfl|hb
   ·omega
   ·exact ih (v / 128) (by omega) b hb
theorem b5e:∀(v v':Nat) (s s':List Int),putN v++s=putN v'++s'→v=v'∧s=s':=by
 intro v
 induction v using DH with
 |ind v ih =>
  intro v' s s' h;by_cases h1:v<128
  ·by_cases h2:v'<128
   ·rw[a4x h1,a4x h2] at h;simp at h;exact⟨by omega,h.2⟩
   ·rw[a4x h1,a9m (by omega)] at h;simp at h;omega
  ·by_cases h2:v'<128
   ·rw[a4x h2,a9m (by omega)] at h;simp at h;omega
   ·rw[a9m (by omega),a9m (v:=v') (by omega)] at h;simp only[AT,AB] at h;obtain⟨h3,h4⟩:=ih (v / 128) (by omega) (v' / 128) s s' h.2;exact⟨by omega,h4⟩
def a3i:List Int→Option (Nat×Nat)
 |[]=>none
 |b::l =>
  if b<128 then some (b.toNat,1)
  else match a3i l with
   |some (v,n)=>if v=0∨18446744073709551616≤b.toNat - 128+128*v then none else some (b.toNat - 128+128*v,n+1)
   |none=>none
theorem a5b:∀(v:Nat) (s:List Int),v<18446744073709551616→a3i (putN v++s)=some (v,(putN v).length):=by
 intro v
 induction v using DH with
 |ind v ih =>
  intro s hv;by_cases h:v<128
  ·rw[a4x h];simp only[AT,List.nil_append,a3i];rw[if_pos (by omega)];simp
  ·rw[a9m (by omega)];simp only[AT,a3i];rw[if_neg (by omega),ih (v / 128) (by omega) s (by omega)];have e:((v % 128+128:Nat):Int).toNat - 128+128*(v / 128)=v:=by omega
   simp only[e];rw[if_neg (by omega)];simp
theorem a2g:∀{b:List Int} {v n:Nat},(∀x,x∈b→0≤x∧x≤255)→a3i b=some (v,n)→v<18446744073709551616∧n≤b.length∧b.take n=putN v
 |[],v,n,_,h=>by simp[a3i] at h
 |b::l,v,n,hb,h=>by
  have h0:=hb b (by simp);unfold a3i at h;split at h
  ·simp at h;obtain⟨rfl,rfl⟩:=h;refine⟨by omega,by simp,?_⟩;rw[a4x (by omega)];simp;omega
  ·split at h
   ·rename_i v' n' he;split at h
    ·cases h
    ·rename_i hne;simp at h;obtain⟨rfl,rfl⟩:=h;obtain⟨h1,h2,h3⟩:=a2g (fun x hx=>hb x (Ar _ hx)) he;refine⟨by omega,by simp;omega,?_⟩;rw[a9m (by omega),BX,h3];have e1:(b.toNat - 128+128*v') % 128=b.toNat - 128:=by omega
     have e2:(b.toNat - 128+128*v') / 128=v':=by omega
     rw[e1,e2];congr 1;omega
   ·cases h
theorem b1y{b:List Int}{v n:Nat}(hb:∀x,x∈b→0≤x∧x≤255)(h:a3i b=some (v,n)):n=(putN v).length∧b=putN v++b.drop n:=by
 obtain⟨h1,h2,h3⟩:=a2g hb h;refine⟨?_,?_⟩
 ·rw[←h3];simp[h2]
 ·rw[←h3];simp
theorem e6o{x:Nat}(h:x<18446744073709551616):bits .xor .u64 (x:Int) 0=(x:Int):=by
 have:=f2t h (show 0<18446744073709551616 by omega);simpa using this
theorem e5a{x:Nat}(h:x<18446744073709551616):bits .xor .u64 (x:Int) 18446744073709551615=((18446744073709551615 - x:Nat):Int):=by
 show Ae.wrap (((AS 64 (x:Int)) ^^^ (AS 64 (18446744073709551615:Int))).toNat:Int)=_;rw[show AS 64 (18446744073709551615:Int)=Gw 64 by decide,FE,Ga,a6c 64 x (by omega)];exact a2f (by omega)
theorem e5r{x:Nat}(h:x<9223372036854775808):bits .xor .i64 (x:Int) 0=(x:Int):=by
 show Aa.wrap (((AS 64 (x:Int)) ^^^ (AS 64 (0:Int))).toNat:Int)=_;rw[show AS 64 (0:Int)=0#64 by decide,BitVec.xor_zero,a6c 64 x (by omega)];exact a0q h
theorem e4n{x:Nat}(h:x<9223372036854775808):bits .xor .i64 (x:Int) (-1)=-(x:Int) - 1:=by
 show Aa.wrap (((AS 64 (x:Int)) ^^^ (AS 64 (-1:Int))).toNat:Int)=_;rw[show AS 64 (-1:Int)=Gw 64 by decide,FE,Ga,a6c 64 x (by omega)];simp only[BB,BC,Bs,if_true];simp;split <;> omega
def zig(v:Int):Nat:=if 0≤v then 2*v.toNat else 2*(-(v+1)).toNat+1
def zag(u:Nat):Int:=if u % 2=0 then(u / 2:Nat) else -((u / 2:Nat):Int) - 1
theorem g2f{v:Int}(h1:-9223372036854775808≤v)(h2:v≤9223372036854775807) :
  bits .xor .u64 (Ae.wrap ((Ae.wrap v)*2 ^ min (1:Int).toNat Ae.bits)) (Ae.wrap (v.fdiv (2 ^ min (63:Int).toNat Aa.bits)))=((zig v:Nat):Int):=by
 have e1:(2 ^ min (1:Int).toNat Ae.bits:Int)=2:=by decide
 have e2:(2 ^ min (63:Int).toNat Aa.bits:Int)=9223372036854775808:=by decide
 rw[e1,e2,a2d,a2d,a2d,EX _ (by omega)];unfold zig;by_cases h:0≤v
 ·rw[if_pos h,show v / 9223372036854775808 % 18446744073709551616=0 by omega,show v % 18446744073709551616*2 % 18446744073709551616=((2*v.toNat:Nat):Int) by omega];exact e6o (by omega)
 ·rw[if_neg h,show v / 9223372036854775808 % 18446744073709551616=18446744073709551615 by omega,show v % 18446744073709551616*2 % 18446744073709551616=((18446744073709551616 - 2*(-v).toNat:Nat):Int) by omega];rw[e5a (by omega)];omega
theorem g3d{u:Nat}(h:u<18446744073709551616) :
  bits .xor .i64 (Aa.wrap ((u:Int).fdiv (2 ^ min (1:Int).toNat Ae.bits))) (Aa.wrap (0 - (Aa.wrap (bits .and .u64 (u:Int) (1:Int)))))=zag u:=by
 have e1:(2 ^ min (1:Int).toNat Ae.bits:Int)=((2:Nat):Int):=by decide
 have e3:bits .and .u64 (u:Int) (1:Int)=((u % 2:Nat):Int):=by
  have:=d6v h (show 1<18446744073709551616 by omega);rw[Nat.and_one_is_mod] at this;exact this
 rw[e1,d1p,a0q (by omega),e3,a0q (x:=u % 2) (by omega)];unfold zag;by_cases h0:u % 2=0
 ·rw[if_pos h0,h0,show(0:Int) - ((0:Nat):Int)=((0:Nat):Int) by omega,a0q (by omega)];exact e5r (by omega)
 ·rw[if_neg h0,show u % 2=1 by omega,show(0:Int) - ((1:Nat):Int)=-1 by omega,a0d (by omega) (by omega)];exact e4n (by omega)
theorem b9m(v:Int):zag (zig v)=v:=by
 unfold zag zig;split <;> split <;> omega
theorem b6v{v:Int}(h1:-9223372036854775808≤v)(h2:v≤9223372036854775807):zig v<18446744073709551616:=by
 unfold zig;split <;> omega
theorem e6d{u:Nat}(h:u<18446744073709551616):-9223372036854775808≤zag u∧zag u≤9223372036854775807:=by
 unfold zag;split <;> omega
end Go.Rb

namespace Go.Rb
def a5q(bit:Nat→Nat)(s:Nat):Nat→Nat
 |0=>0
 |c+1=>a5q bit s c+bit (s+c)*2 ^ c
variable {bit bit':Nat→Nat}
theorem b9q(hb:∀p,bit p≤1)(s:Nat):∀c,a5q bit s c<2 ^ c
 |0=>by simp[a5q]
 |c+1=>by
  have h1:=b9q hb s c;have h2:bit (s+c)*2 ^ c≤1*2 ^ c:=An _ (hb _);rw[a5q,BL];omega
theorem e7b{s c:Nat}(h:∀p,s≤p→p<s+c→bit p=bit' p):a5q bit s c=a5q bit' s c:=by
 induction c with
 |zero=>rfl
 |succ c ih=>rw[a5q,a5q,ih fun p h1 h2=>h p h1 (by omega),h (s+c) (by omega) (by omega)]
theorem c6x(bit:Nat→Nat)(s:Nat):∀c,a5q bit s (c+1)=bit s+2*a5q bit (s+1) c
 |0=>by simp[a5q]
 |c+1=>by
  rw[a5q,c6x bit s c,a5q,show s+(c+1)=s+1+c by omega,BL];generalize bit (s+1+c)=x;generalize a5q bit (s+1) c=y;rw[FO,←Fl,BM (x*2 ^ c) 2,←Fl];omega
theorem e5t(hb:∀p,bit p≤1):∀(c s t:Nat),a5q bit s c / 2 ^ t % 2=if t<c then bit (s+t) else 0
 |0,s,t=>by simp[a5q]
 |c+1,s,0=>by
  have:=hb s;rw[c6x];simp;omega
 |c+1,s,t+1=>by
  have:=hb s;have ih:=e5t hb c (s+1) t;rw[c6x,BL,BM (2 ^ t) 2,←Fv,show(bit s+2*a5q bit (s+1) c) / 2=a5q bit (s+1) c by omega,ih];by_cases h:t<c
  ·rw[if_pos h,if_pos (by omega),show s+1+t=s+(t+1) by omega]
  ·rw[if_neg h,if_neg (by omega)]
theorem f2i(v s:Nat):∀w,a5q (fun p=>v / 2 ^ (p - s) % 2) s w=v % 2 ^ w
 |0=>by simp[a5q,Nat.mod_one]
 |w+1=>by
  rw[a5q,f2i v s w,show s+w - s=w by omega,BL,Nat.mod_mul];rw[BM]
def b2u(bit:Nat→Nat)(p j:Nat):Nat:=a5q bit (8*j) (min 8 (p - 8*j))
theorem d2w(hb:∀p,bit p≤1)(p j:Nat):b2u bit p j<256:=by
 have h1:=b9q hb (8*j) (min 8 (p - 8*j));have h2:2 ^ (min 8 (p - 8*j))≤2 ^ 8:=Nat.pow_le_pow_right (by omega) (Nat.min_le_left _ _);unfold b2u;omega
theorem e4c{p j:Nat}(h:p / 8≠j):b2u bit (p+1) j=b2u bit p j:=by
 unfold b2u;congr 1;omega
theorem e9e{p:Nat}:b2u bit (p+1) (p / 8)=b2u bit p (p / 8)+bit p*2 ^ (p % 8):=by
 unfold b2u;rw[show min 8 (p+1 - 8*(p / 8))=p % 8+1 by omega,show min 8 (p - 8*(p / 8))=p % 8 by omega,a5q];rw[show 8*(p / 8)+p % 8=p by omega]
theorem c1m(hb:∀p,bit p≤1)(p:Nat):b2u bit p (p / 8)<2 ^ (p % 8):=by
 unfold b2u;rw[show min 8 (p - 8*(p / 8))=p % 8 by omega];exact b9q hb _ _
theorem e9w{a b k:Nat}(h:a<2 ^ k):a ||| b*2 ^ k=a+b*2 ^ k:=by
 rw[BM b,Nat.or_comm,D0];exact(Nat.two_pow_add_eq_or_of_lt h b).symm
def a6i(bit:Nat→Nat)(m p:Nat):List Int:=(AA m).map fun j=>((b2u bit p j:Nat):Int)
theorem a8e(m p:Nat):(a6i bit m p).length=m:=by simp[a6i]
theorem b5n{m p j:Nat}(h:j<m):(a6i bit m p).getD j 0=((b2u bit p j:Nat):Int):=by
 rw[a0c (by simpa[a6i] using h)];simp[a6i]
theorem c1s(m:Nat):a6i bit m 0=Ag m 0:=by
 unfold a6i;apply Bm
 ·simp
 ·intro i h1 h2;simp[b2u,a5q]
theorem c0y{m p:Nat}(h:p / 8<m):(a6i bit m p).set (p / 8) (((b2u bit p (p / 8)+bit p*2 ^ (p % 8):Nat):Int))=a6i bit m (p+1):=by
 apply Bm
 ·simp[a6i]
 ·intro i h1 h2;rw[List.getElem_set];simp only[a6i,Bj,BT];by_cases hi:p / 8=i
  ·subst hi;rw[if_pos rfl,e9e]
  ·rw[if_neg hi,e4c hi]
theorem b8c(hb:∀p,bit p≤1){m p:Nat}:∀x,x∈a6i bit m p→0≤x∧x≤255:=by
 intro x hx;simp only[a6i,Bu] at hx;obtain⟨j,_,rfl⟩:=hx;have:=d2w hb p j;omega
def bitB(b:List Int)(p:Nat):Nat:=(b.getD (p / 8) 0).toNat / 2 ^ (p % 8) % 2
theorem c8g(b:List Int)(p:Nat):bitB b p≤1:=by unfold bitB;omega
theorem c9w(hb:∀p,bit p≤1){m P p:Nat}(h:p<P)(hm:p / 8<m):bitB (a6i bit m P) p=bit p:=by
 unfold bitB;rw[b5n hm,Ac];unfold b2u;rw[e5t hb,if_pos (by omega),show 8*(p / 8)+p % 8=p by omega]
def bitL(l:List Int)(w p:Nat):Nat:=(l.getD (p / w) 0).toNat / 2 ^ (p % w) % 2
theorem b6y(l:List Int)(w p:Nat):bitL l w p≤1:=by unfold bitL;omega
def a7i(l:List Int)(w:Nat):List Int:=a6i (bitL l w) ((l.length*w+7) / 8) (l.length*w)
theorem a4b(l:List Int)(w:Nat):(a7i l w).length=(l.length*w+7) / 8:=a8e _ _
def b1n(b:List Int)(n w:Nat):List Int:=(AA n).map fun i=>((a5q (bitB b) (i*w) w:Nat):Int)
theorem b1e(b:List Int)(n w:Nat):(b1n b n w).length=n:=by simp[b1n]
theorem mul_add_div{i w t:Nat}(h:t<w):(i*w+t) / w=i:=by
 rw[BM,Nat.mul_add_div (by omega),Nat.div_eq_of_lt h];rfl
theorem mul_add_mod{i w t:Nat}(h:t<w):(i*w+t) % w=t:=by
 rw[BM,Nat.mul_add_mod,C5 h]
theorem b5h{l:List Int}{w:Nat}(hl:∀x,x∈l→0≤x∧x.toNat<2 ^ w):b1n (a7i l w) l.length w=l:=by
 apply Bm
 ·simp[b1n]
 ·intro i h1 h2;simp only[b1n,Bj,BT];have hx:=hl _ (Aj h2);have key:a5q (bitB (a7i l w)) (i*w) w=a5q (fun p=>l[i].toNat / 2 ^ (p - i*w) % 2) (i*w) w:=by
   refine e7b fun p q1 q2=>?_
   obtain⟨t,rfl⟩:∃t,p=i*w+t:=⟨p - i*w,by omega⟩
   have ht:t<w:=by omega
   have hle:i*w+w≤l.length*w:=by
    have:=An w (show i+1≤l.length from h2);rwa [Nat.add_mul,Nat.one_mul] at this
   unfold a7i;rw[c9w (b6y l w) (by omega) (by omega)];unfold bitL;rw[mul_add_div ht,mul_add_mod ht,a0c h2,show i*w+t - i*w=t by omega]
  rw[key,f2i,C5 hx.2];omega
theorem d2r{l l':List Int}{w:Nat}(hlen:l.length=l'.length)(hl:∀x,x∈l→0≤x∧x.toNat<2 ^ w)(hl':∀x,x∈l'→0≤x∧x.toNat<2 ^ w)(h:a7i l w=a7i l' w):l=l':=by
 rw[←b5h hl,←b5h hl',h,hlen]
def e3c(i V:Nat):Option (Nat×Nat)→Option (Nat×Nat)
 |some (v,k)=>if(i=0∨v≠0)∧V+2 ^ (7*i)*v<18446744073709551616 then some (V+2 ^ (7*i)*v,i+k) else none
 |none=>none
theorem b4j(i V v k:Nat):e3c i V (some (v,k))=if(i=0∨v≠0)∧V+2 ^ (7*i)*v<18446744073709551616 then some (V+2 ^ (7*i)*v,i+k) else none:=rfl
theorem f2x(i V:Nat):e3c i V none=none:=rfl
theorem d7i(b:Int)(l:List Int):a3i (b::l)=if b<128 then some (b.toNat,1) else match a3i l with
  |some (v,n)=>if v=0∨18446744073709551616≤b.toNat - 128+128*v then none else some (b.toNat - 128+128*v,n+1)
  |none=>none:=rfl
theorem pow7(i:Nat):2 ^ (7*(i+1))=128*2 ^ (7*i):=by
 rw[FO,Nat.pow_add];omega
theorem f3b{b:List Int}(hb:∀x,x∈b→0≤x∧x≤255):e3c 0 0 (a3i b)=a3i b:=by
 cases h:a3i b with
 |none=>rfl
 |some r =>
  obtain⟨v,k⟩:=r;have:=(a2g hb h).1;rw[b4j,if_pos (by simp;omega)];simp
theorem f2u{b:List Int}{i V:Nat}(hi:i<b.length)(hc:128≤b[i]):e3c i V (a3i (b.drop i))=e3c (i+1) (V+(b[i].toNat - 128)*2 ^ (7*i)) (a3i (b.drop (i+1))):=by
 rw[A7 hi,d7i,if_neg (by omega)];cases a3i (b.drop (i+1)) with
 |none=>rfl
 |some r =>
  obtain⟨v,k⟩:=r;dsimp only;have e:V+2 ^ (7*i)*(b[i].toNat - 128+128*v)=V+(b[i].toNat - 128)*2 ^ (7*i)+2 ^ (7*(i+1))*v:=by
   rw[pow7,FO,BM (2 ^ (7*i)) (b[i].toNat - 128),Nat.add_assoc];congr 2;rw[←Fl,BM (2 ^ (7*i)) 128]
  have hle:b[i].toNat - 128+128*v≤V+2 ^ (7*i)*(b[i].toNat - 128+128*v):=by
   have h1:1≤2 ^ (7*i):=FP (by omega);have h2:=An (b[i].toNat - 128+128*v) h1;omega
  by_cases h0:v=0∨18446744073709551616≤b[i].toNat - 128+128*v
  ·rw[if_pos h0,f2x,b4j,if_neg];rintro⟨q1,q2⟩;rw[←e] at q2;omega
  ·rw[if_neg h0,b4j,b4j,←e];by_cases h1:V+2 ^ (7*i)*(b[i].toNat - 128+128*v)<18446744073709551616
   ·rw[if_pos ⟨by omega,h1⟩,if_pos ⟨by omega,h1⟩];congr 2;omega
   ·rw[if_neg (fun q=>h1 q.2),if_neg (fun q=>h1 q.2)]
theorem f4d{b:List Int}{i V:Nat}(hi:i<b.length)(hc:b[i]<128)(h0:0≤b[i]):e3c i V (a3i (b.drop i))=if(i=0∨b[i]≠0)∧V+b[i].toNat*2 ^ (7*i)<18446744073709551616 then some (V+b[i].toNat*2 ^ (7*i),i+1) else none:=by
 rw[A7 hi,d7i,if_pos (by omega),b4j];rw[BM (2 ^ (7*i))];have:b[i].toNat≠0↔b[i]≠0:=by omega
 simp only[this]
theorem d3a{V:Nat}{r:Option (Nat×Nat)}:e3c 10 V r=none:=by
 cases r with
 |none=>rfl
 |some r =>
  obtain⟨v,k⟩:=r;rw[b4j,if_neg];rintro⟨h1,h2⟩;have:2 ^ (7*10)*1≤2 ^ (7*10)*v:=Dg _ (by omega);omega
def blen(v:Nat):Nat:=if v=0 then 0 else blen (v / 2)+1
termination_by v
decreasing_by omega
theorem d5e:blen 0=0:=by rw[blen];simp
theorem d1o{v:Nat}(h:0<v):blen v=blen (v / 2)+1:=by
 conv=>lhs;rw[blen]
 rw[if_neg (by omega)]
theorem b2d:∀(w v:Nat),blen v≤w↔v<2 ^ w
 |0,v=>by
  by_cases h:v=0
  ·subst h;simp[d5e]
  ·rw[d1o (by omega)];simp;omega
 |w+1,v=>by
  by_cases h:v=0
  ·subst h;simp[d5e,FP]
  ·rw[d1o (by omega)];have:=b2d w (v / 2);rw[BL];omega
theorem c2r:∀(k v:Nat),2 ^ k≤v→blen v=blen (v / 2 ^ k)+k
 |0,v,_=>by simp
 |k+1,v,h=>by
  rw[BL] at h;have hp:=FP (n:=k) (show 0<2 by omega);rw[d1o (by omega),c2r k (v / 2) (by omega),Fv,BL,BM 2];omega
def a2v(l:List Int):Nat:=l.foldl (fun w x=>max w (blen x.toNat)) 0
theorem b7p{l:List Int}{w:Nat}:a2v l≤w↔∀x,x∈l→x.toNat<2 ^ w:=by
 have key:∀(l:List Int) (a:Nat),l.foldl (fun w x=>max w (blen x.toNat)) a≤w↔a≤w∧∀x,x∈l→x.toNat<2 ^ w:=by
  intro l
  induction l with
  |nil=>intro a;simp
  |cons y l ih =>
   intro a;rw[BK,ih,Nat.max_le,b2d];simp[and_assoc]
 have:=key l 0;unfold a2v;rw[this];simp
end Go.Rb

namespace Go.Rb
set_option linter.unusedSectionVars false
variable {α:Type} [DecidableEq α]
structure LinO (lt:α→α→Bool) (S:α→Prop):Prop where
 irrefl:∀x,S x→lt x x=false
 trans:∀x y z,S x→S y→S z→lt x y=true→lt y z=true→lt x z=true
 total:∀x y,S x→S y→lt x y=true∨x=y∨lt y x=true
variable {lt:α→α→Bool} {S:α→Prop}
theorem LinO.asymm(h:LinO lt S){x y:α}(hx:S x)(hy:S y)(h1:lt x y=true):lt y x=false:=by
 cases h2:lt y x with
 |false=>rfl
 |true=>have:=h.trans x y x hx hy hx h1 h2;rw[h.irrefl x hx] at this;cases this
def b1c(lt:α→α→Bool)(l:List α):Prop:=l.Pairwise fun x y=>lt x y=true
def insS(lt:α→α→Bool)(v:α):List α→List α
 |[]=>[v]
 |x::l=>if lt x v=true then x::insS lt v l else if lt v x=true then v::x::l else x::l
def d9h(lt:α→α→Bool)(l:List α):List α:=l.foldl (fun d v=>insS lt v d) []
theorem d1a(h:LinO lt S){v:α}(hv:S v):∀{l:List α},(∀x,x∈l→S x)→∀x,x∈insS lt v l↔x=v∨x∈l
 |[],_,x=>by simp[insS]
 |y::l,hl,x=>by
  have hy:=hl y (by simp);unfold insS;split
  ·rw[Az,d1a h hv (fun x hx=>hl x (Ar _ hx)),Az];exact or_left_comm
  ·split
   ·simp
   ·rename_i h1 h2;rcases h.total y v hy hv with h3|h3|h3
    ·exact absurd h3 h1
    ·subst h3;simp
    ·exact absurd h3 h2
theorem d2z(h:LinO lt S){v:α}(hv:S v):∀{l:List α},(∀x,x∈l→S x)→b1c lt l→b1c lt (insS lt v l)
 |[],_,_=>by simp[insS,b1c]
 |y::l,hl,hr=>by
  have hy:=hl y (by simp);have hl':=fun x hx=>hl x (Ar _ hx)
  obtain⟨h1,h2⟩:=C7.1 hr;unfold insS;split
  ·rename_i h3;refine C7.2 ⟨fun x hx=>?_,d2z h hv hl' h2⟩;rcases(d1a h hv hl' x).1 hx with rfl|hx
   ·exact h3
   ·exact h1 x hx
  ·split
   ·rename_i h3 h4;refine C7.2 ⟨fun x hx=>?_,hr⟩;rcases Az.1 hx with rfl|hx
    ·exact h4
    ·exact h.trans v y x hv hy (hl' x hx) h4 (h1 x hx)
   ·exact hr
theorem d9n(h:LinO lt S):∀(l d:List α),(∀x,x∈l→S x)→(∀x,x∈d→S x)→b1c lt d→(∀x,x∈l.foldl (fun d v=>insS lt v d) d↔x∈l∨x∈d)∧b1c lt (l.foldl (fun d v=>insS lt v d) d)
 |[],d,_,_,hr=>⟨by simp,hr⟩
 |v::l,d,hl,hd,hr=>by
  have hv:=hl v (by simp);have hd':∀x,x∈insS lt v d→S x:=fun x hx=>by
   rcases(d1a h hv hd x).1 hx with rfl|hx
   ·exact hv
   ·exact hd x hx
  obtain⟨h1,h2⟩:=d9n h l (insS lt v d) (fun x hx=>hl x (Ar _ hx)) hd' (d2z h hv hd hr);refine⟨fun x=>?_,h2⟩;rw[BK,h1 x,d1a h hv hd,Az];constructor
  ·rintro(h|h|h)
   ·exact .inl (.inr h)
   ·exact .inl (.inl h)
   ·exact .inr h
  ·rintro((h|h)|h)
   ·exact .inr (.inl h)
   ·exact .inl h
   ·exact .inr (.inr h)
theorem b4c(h:LinO lt S){l:List α}(hl:∀x,x∈l→S x)(x:α):x∈d9h lt l↔x∈l:=by
 have:=(d9n h l [] hl (by simp) (by simp[b1c])).1 x;unfold d9h;simpa using this
theorem c4w(h:LinO lt S){l:List α}(hl:∀x,x∈l→S x):b1c lt (d9h lt l):=(d9n h l [] hl (by simp) (by simp[b1c])).2
theorem d5p(h:LinO lt S):∀{l l':List α},(∀x,x∈l→S x)→b1c lt l→b1c lt l'→(∀x,x∈l↔x∈l')→l=l'
 |[],[],_,_,_,_=>rfl
 |[],y::l',_,_,_,hm=>absurd ((hm y).2 (by simp)) (by simp)
 |x::l,[],_,_,_,hm=>absurd ((hm x).1 (by simp)) (by simp)
 |x::l,y::l',hl,hr,hr',hm=>by
  obtain⟨a1,a2⟩:=C7.1 hr;obtain⟨b1,b2⟩:=C7.1 hr';have hx:=hl x (by simp);have hy:=hl y ((hm y).2 (by simp));have hxy:x=y:=by
   rcases Az.1 ((hm x).1 (by simp)) with h1|h1
   ·exact h1
   ·rcases Az.1 ((hm y).2 (by simp)) with h2|h2
    ·exact h2.symm
    ·have:=h.asymm hx hy (a1 y h2);rw[b1 x h1] at this;cases this
  subst hxy;congr 1;refine d5p h (fun z hz=>hl z (Ar _ hz)) a2 b2 fun z=>⟨fun hz=>?_,fun hz=>?_⟩
  ·rcases Az.1 ((hm z).1 (Ar _ hz)) with rfl|h2
   ·have:=a1 z hz;rw[h.irrefl z hx] at this;cases this
   ·exact h2
  ·rcases Az.1 ((hm z).2 (Ar _ hz)) with rfl|h2
   ·have:=b1 z hz;rw[h.irrefl z hx] at this;cases this
   ·exact h2
theorem e1x(h:LinO lt S){l:List α}(hl:∀x,x∈l→S x)(hr:b1c lt l){i j:Nat}(hi:i<l.length)(hj:j<l.length)(e:l[i]=l[j]):i=j:=by
 rcases Gx i j with h1|h1|h1
 ·have:=(BE.1 hr) i j hi hj h1;rw[e,h.irrefl _ (hl _ (Aj hj))] at this;cases this
 ·exact h1
 ·have:=(BE.1 hr) j i hj hi h1;rw[e,h.irrefl _ (hl _ (Aj hj))] at this;cases this
def posS(d:List α)(v:α):Nat:=d.idxOf v
theorem c0x{d:List α}{v:α}(hv:v∈d):posS d v<d.length:=List.idxOf_lt_length_of_mem hv
theorem c7m{d:List α}{v:α}(hv:v∈d):d[posS d v]'(c0x hv)=v:=by
 simp[posS]
theorem g1s(h:LinO lt S){d:List α}(hl:∀x,x∈d→S x)(hr:b1c lt d){v:α}(hv:v∈d){i:Nat}(hi:i<d.length):d[i]=v↔i=posS d v:=by
 constructor
 ·intro e;exact e1x h hl hr hi (c0x hv) (e.trans (c7m hv).symm)
 ·rintro rfl;exact c7m hv
theorem f6q(h:LinO lt S){d:List α}(hl:∀x,x∈d→S x)(hr:b1c lt d){v:α}(hv:v∈d){i:Nat}(hi:i<d.length):lt d[i] v=true↔i<posS d v:=by
 have hp:=c0x hv;have hg:=c7m hv;rcases Gx i (posS d v) with h1|h1|h1
 ·have:=(BE.1 hr) i _ hi hp h1;rw[hg] at this;simp[this,h1]
 ·subst h1;rw[hg,h.irrefl v (hl v hv)];simp
 ·have:=(BE.1 hr) _ i hp hi h1;rw[hg] at this;have h2:=h.asymm (hl v hv) (hl _ (Aj hi)) this;rw[h2];simp;omega
end Go.Rb

namespace Go.Rb
open Go.Sort Go.Proofs
abbrev Vl:Type:=Int×Int×List Int×Unit
def okV(v:Vl):Prop:=(-9223372036854775808≤v.1∧v.1≤9223372036854775807)∧(-9223372036854775808≤v.2.1∧v.2.1≤9223372036854775807)∧v.2.2.1.length≤140737488355328∧∀c,c∈v.2.2.1→0≤c∧c≤255
def mayV(v:Vl):Bool :=
 (decide (v.1=0)&&decide (v.2.1=0)&&decide (v.2.2.1=[]))||(decide (v.1=1)&&decide (-32768≤v.2.1)&&decide (v.2.1≤32767)&&decide (v.2.2.1=[])) ||
 (decide (v.1=2)&&decide (v.2.2.1=[]))||(decide (v.1=3)&&(decide (v.2.1=0)||decide (v.2.1=1))&&decide (v.2.2.1=[]))||(decide (v.1=4)&&decide (v.2.1=0)&&decide (v.2.2.1.length≤20))
def a0j(t:Int)(v:Vl):Bool:=decide (v.1=t)&&mayV v
def a1i(t:Int)(l:List Vl):Bool:=decide (1≤t)&&decide (t≤4)&&l.all (a0j t)
def oneV(v:Vl):List Int:=if v.1=3 then[v.2.1] else if v.1=4 then(v.2.2.1.length:Int)::v.2.2.1 else putN (zig v.2.1)
theorem a1s{t:Int}{v:Vl}(h:a0j t v=true):v.1=t∧((t=0∧v.2.1=0∧v.2.2.1=[])∨(t=1∧-32768≤v.2.1∧v.2.1≤32767∧v.2.2.1=[])∨(t=2∧v.2.2.1=[])∨(t=3∧(v.2.1=0∨v.2.1=1)∧v.2.2.1=[])∨(t=4∧v.2.1=0∧v.2.2.1.length≤20)):=by
 unfold a0j mayV at h;simp only[Af,B6,decide_eq_true_eq] at h;obtain⟨rfl,h⟩:=h;refine⟨rfl,?_⟩;rcases h with(((h|h)|h)|h)|h
 ·exact .inl ⟨h.1.1,h.1.2,h.2⟩
 ·exact .inr (.inl ⟨h.1.1.1,h.1.1.2,h.1.2,h.2⟩)
 ·exact .inr (.inr (.inl h))
 ·exact .inr (.inr (.inr (.inl ⟨h.1.1,h.1.2,h.2⟩)))
 ·exact .inr (.inr (.inr (.inr ⟨h.1.1,h.1.2,h.2⟩)))
theorem c3f{t:Int}{v:Vl}(h:a0j t v=true)(hv:okV v):1≤(oneV v).length∧(oneV v).length≤21:=by
 obtain⟨h1,h2⟩:=a1s h;unfold oneV;split
 ·simp
 ·split
  ·rename_i h4;have:v.2.2.1.length≤20:=by omega
   simp;omega
  ·have a:=b6o (zig v.2.1);have b:=a3r (b6v hv.2.1.1 hv.2.1.2);omega
theorem f8f{t:Int}{v:Vl}(h:a0j t v=true)(hv:okV v):∀b,b∈oneV v→0≤b∧b≤255:=by
 obtain⟨h1,h2⟩:=a1s h;intro b hb;unfold oneV at hb;split at hb
 ·simp at hb;subst hb;rcases h2 with h2|h2|h2|h2|h2 <;> omega
 ·split at hb
  ·rcases Az.1 hb with rfl|hb
   ·omega
   ·exact hv.2.2.2 b hb
  ·exact c7z _ b hb
theorem d5v{t:Int}{v v':Vl}(h:a0j t v=true)(h':a0j t v'=true){s s':List Int}(e:oneV v++s=oneV v'++s'):v=v'∧s=s':=by
 obtain⟨h1,h2⟩:=a1s h;obtain⟨h3,h4⟩:=a1s h';obtain⟨a,b,c,u⟩:=v;obtain⟨a',b',c',u'⟩:=v';dsimp only at *;subst h1;unfold oneV at e;dsimp only at e;rw[h3] at e;have key:(b=b'∧c=c')∧s=s'→(a,b,c,u)=(a',b',c',u')∧s=s':=by
  rintro⟨⟨rfl,rfl⟩,rfl⟩;exact⟨by rw[h3],rfl⟩
 apply key;split at e
 ·simp at e;have:c=c':=by
   rcases h2 with h2|h2|h2|h2|h2 <;> rcases h4 with h4|h4|h4|h4|h4 <;> first|omega|(rw[h2.2.2,h4.2.2])
  exact⟨⟨e.1,this⟩,e.2⟩
 ·split at e
  ·simp only[AT,AB] at e;have hl:c.length=c'.length:=by omega
   have:=G3 e.2 hl;have hb:b=b':=by omega
   exact⟨⟨hb,this.1⟩,this.2⟩
  ·obtain⟨e1,e2⟩:=b5e _ _ _ _ e;have:b=b':=by rw[←b9m b,e1,b9m]
   have hc:c=c':=by
    rcases h2 with h2|h2|h2|h2|h2 <;> rcases h4 with h4|h4|h4|h4|h4 <;> first|omega|(rw[h2.2.2.2,h4.2.2.2])|(rw[h2.2.2,h4.2.2])|(rw[h2.2,h4.2])
   exact⟨⟨this,hc⟩,e2⟩
def ltV(t:Int)(x y:Vl):Bool:=if t=4 then a1n x.2.2.1 y.2.2.1 else decide (x.2.1<y.2.1)
theorem c6r{t:Int}{v v':Vl}(h:a0j t v=true)(h':a0j t v'=true)(e:if t=4 then v.2.2.1=v'.2.2.1 else v.2.1=v'.2.1):v=v':=by
 obtain⟨h1,h2⟩:=a1s h;obtain⟨h3,h4⟩:=a1s h';obtain⟨a,b,c,u⟩:=v;obtain⟨a',b',c',u'⟩:=v';dsimp only at *;subst h1 h3;by_cases h5:a'=4
 ·rw[if_pos h5] at e;have hb:b=b':=by omega
  rw[e,hb]
 ·rw[if_neg h5] at e;have hc:c=c':=by
   rcases h2 with h2|h2|h2|h2|h2 <;> rcases h4 with h4|h4|h4|h4|h4 <;> first|omega|(rw[h2.2.2.2,h4.2.2.2])|(rw[h2.2.2,h4.2.2])|(rw[h2.2,h4.2])
  rw[e,hc]
theorem a7q(t:Int):LinO (ltV t) (fun v=>a0j t v=true) where
 irrefl x _:=by
  unfold ltV;split
  ·rw[a8d,c6q];simp
  ·simp
 trans x y z _ _ _ h1 h2:=by
  unfold ltV at *;split at h1
  ·rename_i h4;rw[if_pos h4] at h2 ⊢;rw[a8d] at *;simp only[decide_eq_true_eq] at *;rcases Int.lt_or_le (cmpI x.2.2.1 z.2.2.1) 0 with h|h
   ·exact h
   ·have a:=b8i x.2.2.1 z.2.2.1;have b:=c7s y.2.2.1 z.2.2.1 x.2.2.1 (by omega) (by omega);have c:=b8i x.2.2.1 y.2.2.1;omega
  ·rename_i h4;rw[if_neg h4] at h2 ⊢;simp only[decide_eq_true_eq] at *;omega
 total x y hx hy:=by
  unfold ltV;by_cases h4:t=4
  ·simp only[if_pos h4];rw[a8d,a8d,b8i x.2.2.1 y.2.2.1];simp only[decide_eq_true_eq];rcases Gy (cmpI x.2.2.1 y.2.2.1) 0 with h|h|h
   ·exact .inl h
   ·exact .inr (.inl (c6r hx hy (by rw[if_pos h4];exact d9e _ _ h)))
   ·exact .inr (.inr (by omega))
  ·simp only[if_neg h4,decide_eq_true_eq];rcases Gy x.2.1 y.2.1 with h|h|h
   ·exact .inl h
   ·exact .inr (.inl (c6r hx hy (by rw[if_neg h4];exact h)))
   ·exact .inr (.inr h)
def cmpR(t:Int)(x y:Vl):Int:=if t=4 then cmpI x.2.2.1 y.2.2.1 else cmpZ x.2.1 y.2.1
theorem e9c{t:Int}{x y:Vl}:cmpR t x y<0↔ltV t x y=true:=by
 unfold cmpR ltV;split
 ·rw[a8d];simp
 ·rw[g4v];simp
theorem g5c{t:Int}{x y:Vl}(hx:a0j t x=true)(hy:a0j t y=true):cmpR t x y=0↔x=y:=by
 unfold cmpR;constructor
 ·intro h;refine c6r hx hy ?_;split
  ·rename_i h4;rw[if_pos h4] at h;exact d9e _ _ h
  ·rename_i h4;rw[if_neg h4] at h;exact b7a.1 h
 ·rintro rfl;split
  ·exact c6q _
  ·exact b7a.2 rfl
theorem e6m{l:List Int}(h:∀c,c∈l→0≤c∧c≤255):d8h l=l:=by
 unfold d8h a1o toBA;simp only[Cv]
 conv=>rhs;rw[←Jf l]
 apply C8;intro c hc;have:=h c hc;simp only[D1,id,Nat.toUInt8,UInt8.toNat_ofNat'];omega
theorem f6u{t:Int}{x y:Vl}(hx:a0j t x=true)(hy:a0j t y=true)(h1:okV x)(h2:okV y)(ht:t≠0):cfV x y=cmpR t x y:=by
 have a:=(a1s hx).1;have b:=(a1s hy).1;rw[d4e,e6m h1.2.2.2,e6m h2.2.2.2,a,b,show cmpZ (b0e t) (b0e t)=0 from b7a.2 rfl];rw[if_neg (by simp[ht])];rfl
theorem f1k(l:List Vl){i j:Nat}(hi:i<l.length)(hj:j<l.length):eqAt tV l i j=decide (l[i]=l[j]):=by
 unfold eqAt;rw[Ax hi,Ax hj];obtain⟨a,b,c,u⟩:=l[i];obtain⟨a',b',c',u'⟩:=l[j];show(decide (a=a')&&(decide (b=b')&&decide (c=c')))=_;by_cases h1:a=a' <;> by_cases h2:b=b' <;> by_cases h3:c=c' <;> simp[h1,h2,h3]
variable {lt:Vl→Vl→Bool} {S:Vl→Prop}
theorem f0j(h:LinO lt S){l:List Vl}(hl:∀x,x∈l→S x)(hs:l.Pairwise fun x y=>lt y x=false):∀m,m≤l.length →
  (∀x,x∈(a3c (eqAt tV l) m).filterMap (fun i=>l[i]?)↔∃j,∃hj:j<l.length,j<m∧l[j]=x)∧b1c lt ((a3c (eqAt tV l) m).filterMap fun i=>l[i]?)
 |0,_=>by simp[a3c,b1c]
 |m+1,hm=>by
  obtain⟨ih1,ih2⟩:=f0j h hl hs m (by omega);have hml:m<l.length:=by omega
  have hSm:=hl _ (Aj hml);have hle:∀j (hj:j<l.length),j<m→lt l[m] l[j]=false:=fun j hj hjm=>BE.1 hs j m hj hml hjm
  rw[b8s,List.filterMap_append];by_cases hk:c0s (eqAt tV l) m=true
  ·rw[if_pos hk];have hnew:∀j (hj:j<l.length),j<m→lt l[j] l[m]=true:=by
    intro j hj hjm;rcases h.total l[j] l[m] (hl _ (Aj hj)) hSm with h1|h1|h1
    ·exact h1
    ·exfalso;obtain⟨p,rfl⟩:∃p,m=p+1:=⟨m - 1,by omega⟩
     have hpl:p<l.length:=by omega
     simp only[c0s,Gj,f1k l hml hpl,B6,decide_eq_true_eq,A8,decide_eq_false_iff_not] at hk;have hne:l[p+1]≠l[p]:=by
      rcases hk with hk|hk
      ·omega
      ·exact hk
     have a:=hle p hpl (by omega);rcases AY j p with h3|h3
     ·have b:=BE.1 hs j p hj hpl h3;rw[h1] at b;rcases h.total l[p] l[p+1] (hl _ (Aj hpl)) hSm with h4|h4|h4
      ·rw[h4] at b;cases b
      ·exact hne h4.symm
      ·rw[h4] at a;cases a
     ·have:j=p:=by omega
      subst this;exact hne h1.symm
    ·rw[hle j hj hjm] at h1;cases h1
   refine⟨fun x=>?_,?_⟩
   ·rw[Ao,ih1];simp only[CZ,Ax hml,Dd,B9];constructor
    ·rintro(⟨j,hj,h1,h2⟩|rfl)
     ·exact⟨j,hj,by omega,h2⟩
     ·exact⟨m,hml,by omega,rfl⟩
    ·rintro⟨j,hj,h1,h2⟩;rcases AY j m with h3|h3
     ·exact .inl ⟨j,hj,h3,h2⟩
     ·have:j=m:=by omega
      subst this;exact .inr h2.symm
   ·refine List.pairwise_append.2 ⟨ih2,by simp only[CZ,Ax hml,Dd];exact List.pairwise_singleton _ _,fun x hx y hy=>?_⟩;simp only[CZ,Ax hml,Dd,B9] at hy;subst hy;obtain⟨j,hj,h1,rfl⟩:=(ih1 x).1 hx;exact hnew j hj h1
  ·rw[if_neg hk,Dd,A3];refine⟨fun x=>?_,ih2⟩;rw[ih1];constructor
   ·rintro⟨j,hj,h1,h2⟩;exact⟨j,hj,by omega,h2⟩
   ·rintro⟨j,hj,h1,h2⟩;rcases AY j m with h3|h3
    ·exact⟨j,hj,h3,h2⟩
    ·have:j=m:=by omega
     subst this;obtain⟨p,rfl⟩:∃p,j=p+1:=⟨j - 1,by
      rcases Nat.eq_zero_or_pos j with h0|h0
      ·subst h0;exact absurd (show c0s (eqAt tV l) 0=true from rfl) hk
      ·omega⟩
     have hpl:p<l.length:=by omega
     simp only[c0s,Gj,f1k l hml hpl] at hk;have he:l[p+1]=l[p]:=by
      by_cases hq:l[p+1]=l[p]
      ·exact hq
      ·exact absurd (by simp[hq]) hk
     exact⟨p,hpl,by omega,by rw[←he];exact h2⟩
theorem g6z(h:LinO lt S){l:List Vl}(hl:∀x,x∈l→S x)(hs:l.Pairwise fun x y=>lt y x=false):(∀x,x∈e5b tV l↔x∈l)∧b1c lt (e5b tV l):=by
 obtain⟨h1,h2⟩:=f0j h hl hs l.length (Av _);refine⟨fun x=>?_,h2⟩;rw[show x∈e5b tV l↔_ from h1 x,List.mem_iff_getElem];constructor
 ·rintro⟨j,hj,_,h4⟩;exact⟨j,hj,h4⟩
 ·rintro⟨j,hj,h4⟩;exact⟨j,hj,hj,h4⟩
theorem f5o{t:Int}{l:List Vl}(ht:t≠0)(hl:∀x,x∈l→a0j t x=true∧okV x) :
  e5b tV (pdq (ltOf cfV) l.toArray 0 l.length (BQ l.length) true true).toList=d9h (ltV t) l:=by
 have hp:=d1c swoV l;have hs:=f3k swoV l;generalize (pdq (ltOf cfV) l.toArray 0 l.length (BQ l.length) true true).toList=m at hp hs;have hm:∀x,x∈m→a0j t x=true∧okV x:=fun x hx=>hl x (hp.mem_iff.1 hx)
 have hs':m.Pairwise fun x y=>ltV t y x=false:=by
  refine Jg ?_ hs;intro x y hx hy hxy;have:=f6u (hm y hy).1 (hm x hx).1 (hm y hy).2 (hm x hx).2 ht;unfold ltOf at hxy;rw[this] at hxy;cases h:ltV t y x with
  |false=>rfl
  |true=>rw[←e9c] at h;simp at hxy;omega
 obtain⟨h1,h2⟩:=g6z (a7q t) (fun x hx=>(hm x hx).1) hs';refine d5p (a7q t) (fun x hx=>(hm x ((h1 x).1 hx)).1) h2 (c4w (a7q t) fun x hx=>(hl x hx).1) fun x=>?_
 rw[h1,b4c (a7q t) fun x hx=>(hl x hx).1];exact hp.mem_iff
end Go.Rb

namespace Go.Rb
def a3e(t:Int)(b:List Int):Option (Vl×Nat) :=
 if t≠3∧t≠4 then match a3i b with
  |some (u,k)=>some ((t,zag u,[],()),k)
  |none=>none
 else match b with
  |[]=>none
  |c::_=>if t=3 then some ((t,c,[],()),1) else if 1+c.toNat≤b.length then some ((t,0,(b.take (1+c.toNat)).drop 1,()),1+c.toNat) else none
theorem b1t{t:Int}{v:Vl}(h:a0j t v=true)(hv:okV v)(s:List Int):a3e t (oneV v++s)=some (v,(oneV v).length):=by
 obtain⟨h1,h2⟩:=a1s h;obtain⟨a,b,c,u⟩:=v;dsimp only at h1 h2;subst h1;unfold a3e oneV;dsimp only;by_cases h3:a=3
 ·have hc:c=[]:=by
   rcases h2 with h2|h2|h2|h2|h2 <;> first|omega|exact h2.2.2
  simp[h3,hc]
 ·by_cases h4:a=4
  ·have hb:b=0:=by omega
   have hl:(1+((c.length:Int)).toNat)=c.length+1:=by omega
   have e:List.take (1+c.length) (((c.length:Nat):Int)::(c++s))=((c.length:Nat):Int)::c:=by
    rw[D0,BX,List.take_left]
   simp[h4,hl,hb,e];omega
  ·have hc:c=[]:=by
    rcases h2 with h2|h2|h2|h2|h2 <;> first|omega|exact h2.2.2.2|exact h2.2.2|exact h2.2
   have hz:=b6v hv.2.1.1 hv.2.1.2;dsimp only at hz;rw[if_pos ⟨h3,h4⟩,if_neg h3,if_neg h4,a5b _ _ hz,hc];dsimp only;rw[b9m]
theorem b7k{t:Int}{b:List Int}{v:Vl}{k:Nat}(ht:-9223372036854775808≤t∧t≤9223372036854775807)(hb:∀x,x∈b→0≤x∧x≤255)(h:a3e t b=some (v,k)):okV v∧v.1=t∧k≤b.length∧1≤k:=by
 unfold a3e at h;split at h
 ·split at h
  ·rename_i u k' he;cases h;have h1:=a2g hb he;have h2:=e6d h1.1;have h3:=b1y hb he;have h4:=b6o u;exact⟨⟨ht,h2,by simp,by simp⟩,rfl,h1.2.1,by omega⟩
  ·cases h
 ·split at h
  ·cases h
  ·rename_i c l;have hc:=hb c (by simp);split at h
   ·cases h;exact⟨⟨ht,⟨by simp only;omega,by simp only;omega⟩,by simp,by simp⟩,rfl,by simp,by omega⟩
   ·split at h
    ·rename_i hle;cases h;refine⟨⟨ht,⟨by simp,by simp⟩,?_,fun x hx=>?_⟩,rfl,hle,by omega⟩
     ·simp only[AM,List.length_take];omega
     ·exact hb x (List.mem_of_mem_take (Bf hx))
    ·cases h
variable {t:Int}
abbrev a9a(t:Int)(l:List Vl):List Vl:=d9h (ltV t) l
theorem a2m{l:List Vl}(h:a1i t l=true):1≤t∧t≤4∧∀v,v∈l→a0j t v=true:=by
 unfold a1i at h;simp only[Af,decide_eq_true_eq,AK] at h;exact⟨h.1.1,h.1.2,h.2⟩
theorem f0u(lt:Vl→Vl→Bool)(v:Vl):∀l,(insS lt v l).length≤l.length+1
 |[]=>by simp[insS]
 |x::l=>by
  have:=f0u lt v l;unfold insS;split
  ·simp;omega
  ·split <;> simp
theorem c3u(lt:Vl→Vl→Bool)(l:List Vl):(d9h lt l).length≤l.length:=by
 have key:∀(l d:List Vl),(l.foldl (fun d v=>insS lt v d) d).length≤d.length+l.length:=by
  intro l
  induction l with
  |nil=>intro d;simp
  |cons v l ih =>
   intro d;have h1:=ih (insS lt v d);have h2:=f0u lt v d;simp only[BK,A6];omega
 have:=key l [];unfold d9h;simpa using this
def a1w(t:Int)(l:List Vl):List Int:=l.map fun v=>((posS (a9a t l) v:Nat):Int)
theorem a2c(l:List Vl):(a1w t l).length=l.length:=by simp[a1w]
theorem c7c{l:List Vl}(h:a1i t l=true):∀x,x∈a1w t l→0≤x∧x.toNat<(a9a t l).length:=by
 intro x hx;obtain⟨_,_,hr⟩:=a2m h;simp only[a1w,Bu] at hx;obtain⟨v,hv,rfl⟩:=hx;have:=c0x ((b4c (a7q t) hr v).2 hv);simp only[Ac];exact⟨by omega,this⟩
theorem a9w{l:List Vl}(h:a1i t l=true):∀x,x∈a1w t l→0≤x∧x.toNat<2 ^ blen ((a9a t l).length - 1):=by
 intro x hx;have h1:=c7c h x hx;have h2:=(b2d (blen ((a9a t l).length - 1)) ((a9a t l).length - 1)).1 (Av _);exact⟨h1.1,by omega⟩
theorem b9s{l:List Vl}(h:a1i t l=true):(a1w t l).map (fun p=>(a9a t l).getD p.toNat ((0:Int),(0:Int),[],()))=l:=by
 obtain⟨_,_,hr⟩:=a2m h;unfold a1w;rw[Cv]
 conv=>rhs;rw[←Jf l]
 apply C8;intro v hv;have hm:=(b4c (a7q t) hr v).2 hv;simp only[D1,Ac,id];rw[a0c (c0x hm),c7m hm]
def b7v(t:Int)(l:List Vl):List Int:=putN (a9a t l).length++((a9a t l).flatMap oneV++a7i (a1w t l) (blen ((a9a t l).length - 1)))
theorem b2q{t:Int}:∀{d:List Vl},(∀v,v∈d→a0j t v=true∧okV v)→∀b,b∈d.flatMap oneV→0≤b∧b≤255:=by
 intro d hd b hb;obtain⟨v,hv,hb⟩:=List.mem_flatMap.1 hb;exact f8f (hd v hv).1 (hd v hv).2 b hb
theorem a1t{t:Int}:∀{d:List Vl},(∀v,v∈d→a0j t v=true∧okV v)→(d.flatMap oneV).length≤21*d.length
 |[],_=>by simp
 |v::d,h=>by
  have h1:=a1t (d:=d) fun x hx=>h x (Ar _ hx)
  have h2:=c3f (h v (by simp)).1 (h v (by simp)).2;simp only[Du,Ap,A6];omega
theorem b4p{l:List Vl}(h:a1i t l=true)(hv:∀v,v∈l→okV v):∀v,v∈a9a t l→a0j t v=true∧okV v:=by
 obtain⟨_,_,hr⟩:=a2m h;intro v hm;have:=(b4c (a7q t) hr v).1 hm;exact⟨hr v this,hv v this⟩
theorem d9v{l:List Vl}(h:a1i t l=true)(hv:∀v,v∈l→okV v):∀b,b∈b7v t l→0≤b∧b≤255:=by
 intro b hb;unfold b7v at hb;rcases Ao.1 hb with hb|hb
 ·exact c7z _ b hb
 ·rcases Ao.1 hb with hb|hb
  ·exact b2q (b4p h hv) b hb
  ·exact b8c (b6y _ _) b hb
theorem b8j{v w:Nat}(h:v<2 ^ w):blen v≤w:=(b2d w v).2 h
theorem d4t{l:List Vl}(h:a1i t l=true)(hv:∀v,v∈l→okV v)(hl:l.length≤1000):(b7v t l).length≤24000:=by
 have h1:=c3u (ltV t) l;have h2:=a1t (b4p h hv);have h3:=a3r (v:=(a9a t l).length) (by simp only[a9a];omega);have h4:blen ((a9a t l).length - 1)≤10:=b8j (by simp only[a9a];omega);have h5:l.length*blen ((a9a t l).length - 1)≤1000*10:=Nat.mul_le_mul hl h4;unfold b7v;simp only[Ap,a4b,a2c];simp only[a9a] at *;omega
theorem b7f{t:Int}:∀{d d':List Vl} {s s':List Int},(∀v,v∈d→a0j t v=true)→(∀v,v∈d'→a0j t v=true)→d.length=d'.length→d.flatMap oneV++s=d'.flatMap oneV++s'→d=d'∧s=s'
 |[],[],s,s',_,_,_,e=>⟨rfl,by simpa using e⟩
 |[],_::_,_,_,_,_,h,_=>by simp at h
 |_::_,[],_,_,_,_,h,_=>by simp at h
 |v::d,v'::d',s,s',h,h',hl,e=>by
  simp only[Du,Al] at e;obtain⟨rfl,e2⟩:=d5v (h v (by simp)) (h' v' (by simp)) e;obtain⟨rfl,e3⟩:=b7f (fun x hx=>h x (Ar _ hx)) (fun x hx=>h' x (Ar _ hx)) (by simpa using hl) e2;exact⟨rfl,e3⟩
theorem e6b{l l':List Vl}(h:a1i t l=true)(h':a1i t l'=true)(hl:l.length=l'.length){s:List Int}(e:b7v t l++s=b7v t l'):l=l'∧s=[]:=by
 obtain⟨_,_,hr⟩:=a2m h;obtain⟨_,_,hr'⟩:=a2m h';unfold b7v at e;simp only[Al] at e;obtain⟨e1,e2⟩:=b5e _ _ _ _ e;obtain⟨e3,e4⟩:=b7f (fun v hv=>hr v ((b4c (a7q t) hr v).1 hv)) (fun v hv=>hr' v ((b4c (a7q t) hr' v).1 hv)) e1 e2;have hlen:=congrArg BS e4;rw[Ap,a4b,a4b,a2c,a2c,hl,e1] at hlen;have hs:s=[]:=by
  have:s.length=0:=by omega
  exact List.length_eq_zero_iff.1 this
 subst hs;rw[A3] at e4;refine⟨?_,rfl⟩;have hp:a1w t l=a1w t l':=by
  refine d2r (by simp[a2c,hl]) (a9w h) (fun x hx=>?_) (by rw[e4,e1]);have:=a9w h' x hx;rw[e1];exact this
 have e5:a9a t l=a9a t l':=e3;rw[←b9s h,←b9s h',hp,e5]
end Go.Rb

namespace Go.Rb
variable {t:Int}
def runN(v:Vl)(l:List Vl):Nat:=(l.takeWhile fun x=>decide (x=v)).length
theorem c8m(v:Vl)(l:List Vl):runN v l≤l.length:=by
 unfold runN;exact(List.takeWhile_prefix _).length_le
def rleF:Nat→List Vl→List Int
 |0,_=>[]
 |_+1,[]=>[]
 |n+1,v::l=>putN (1+runN v l)++(oneV v++rleF n (l.drop (runN v l)))
def rleB(l:List Vl):List Int:=rleF l.length l
theorem d2m:∀(n m:Nat) (l:List Vl),l.length≤n→l.length≤m→rleF n l=rleF m l
 |0,m,[],_,_=>by cases m <;> rfl
 |n+1,0,[],_,_=>rfl
 |n+1,m+1,[],_,_=>rfl
 |n+1,m+1,v::l,h1,h2=>by
  simp only[A6] at h1 h2;unfold rleF;rw[d2m n m (l.drop (runN v l)) (by simp;omega) (by simp;omega)]
theorem c3i:rleB []=[]:=rfl
theorem b0v(v:Vl)(l:List Vl):rleB (v::l)=putN (1+runN v l)++(oneV v++rleB (l.drop (runN v l))):=by
 show rleF (l.length+1) (v::l)=_;unfold rleF rleB;rw[d2m l.length (l.drop (runN v l)).length _ (by simp) (Av _)]
theorem b7q(v:Vl):∀l:List Vl,l=Ag (runN v l) v++l.drop (runN v l)
 |[]=>rfl
 |x::l=>by
  by_cases h:x=v
  ·have e:runN v (x::l)=runN v l+1:=by simp[runN,h]
   rw[e,List.replicate_succ,List.drop_succ_cons,AT,←b7q v l,h]
  ·have e:runN v (x::l)=0:=by simp[runN,h]
   rw[e];simp
theorem e9v(v:Vl){l:List Vl}{i:Nat}(h:i<runN v l):l.getD i ((0:Int),(0:Int),[],())=v:=by
 have hl:=c8m v l;have e:=b7q v l;rw[a0c (by omega)];have h2:(Ag (runN v l) v++l.drop (runN v l))[i]?=some v:=by
  rw[List.getElem?_append_left (by simpa using h),List.getElem?_replicate,if_pos h]
 rw[←e,Ax (by omega)] at h2;exact Ai h2
theorem e7n(v:Vl):∀{l:List Vl} (h:runN v l<l.length),l[runN v l]≠v
 |[],h=>by simp at h
 |x::l,h=>by
  by_cases hx:x=v
  ·have e:runN v (x::l)=runN v l+1:=by simp[runN,hx]
   simp only[A6] at h;have:=e7n v (l:=l) (by omega);simp only[e,List.getElem_cons_succ];exact this
  ·have e:runN v (x::l)=0:=by simp[runN,hx]
   simp only[e,List.getElem_cons_zero];exact hx
theorem f5s:∀(n:Nat) {l:List Vl},l.length≤n→(∀v,v∈l→a0j t v=true∧okV v)→∀b,b∈rleB l→0≤b∧b≤255
 |_,[],_,_,b,hb=>by simp[c3i] at hb
 |0,_::_,h,_,_,_=>by simp at h
 |n+1,v::l,h,hl,b,hb=>by
  simp only[A6] at h;rw[b0v] at hb;rcases Ao.1 hb with hb|hb
  ·exact c7z _ b hb
  ·rcases Ao.1 hb with hb|hb
   ·exact f8f (hl v (by simp)).1 (hl v (by simp)).2 b hb
   ·exact f5s n (by simp;omega) (fun x hx=>hl x (Ar _ (Bf hx))) b hb
theorem f0f:∀(n:Nat) {l:List Vl},l.length≤n→l.length<1000000→(∀v,v∈l→a0j t v=true∧okV v)→(rleB l).length≤31*l.length
 |_,[],_,_,_=>by simp[c3i]
 |0,_::_,h,_,_=>by simp at h
 |n+1,v::l,h,hm,hl=>by
  simp only[A6] at h hm;have h1:=c8m v l;have h2:=c3f (hl v (by simp)).1 (hl v (by simp)).2;have h3:=a3r (v:=1+runN v l) (by omega);have h4:=f0f n (l:=l.drop (runN v l)) (by simp;omega) (by simp;omega) (fun x hx=>hl x (Ar _ (Bf hx)));rw[b0v];simp only[Ap,A6,AM] at h4 ⊢;omega
theorem d2d:∀(n:Nat) {l l':List Vl} {s s':List Int},l.length≤n→(∀v,v∈l→a0j t v=true)→(∀v,v∈l'→a0j t v=true)→l.length=l'.length→rleB l++s=rleB l'++s'→l=l'∧s=s'
 |_,[],[],s,s',_,_,_,_,e=>by simpa[c3i] using e
 |_,[],_::_,_,_,_,_,_,h,_=>by simp at h
 |_,_::_,[],_,_,_,_,_,h,_=>by simp at h
 |0,_::_,_,_,_,h,_,_,_,_=>by simp at h
 |n+1,v::l,v'::l',s,s',h,hl,hl',hlen,e=>by
  simp only[A6] at h hlen;rw[b0v,b0v] at e;simp only[Al] at e;obtain⟨e1,e2⟩:=b5e _ _ _ _ e;obtain⟨rfl,e3⟩:=d5v (hl v (by simp)) (hl' v' (by simp)) e2;have er:runN v l=runN v l':=by omega
  obtain⟨e4,e5⟩:=d2d n (by simp;omega) (fun x hx=>hl x (Ar _ (Bf hx))) (fun x hx=>hl' x (Ar _ (Bf hx))) (by simp;omega) e3;refine⟨?_,e5⟩;rw[b7q v l,b7q v l',e4,er]
def c8p(last x:Int):Int:=Aa.wrap (x - last)
theorem b9o(last x:Int):-9223372036854775808≤c8p last x∧c8p last x≤9223372036854775807:=c0h _
theorem a3g(x:Int):Aa.wrap x=(x+9223372036854775808) % 18446744073709551616 - 9223372036854775808:=by
 simp only[BB,BC,Bs,if_true];simp;split <;> omega
theorem c3r{last x:Int}(hx:-9223372036854775808≤x∧x≤9223372036854775807):Aa.wrap (last+c8p last x)=x:=by
 unfold c8p;rw[a3g,a3g];omega
def a6a:Int→List Vl→List Int
 |_,[]=>[]
 |last,v::l=>putN (zig (c8p last v.2.1))++a6a v.2.1 l
theorem e3v:∀(l:List Vl) (last:Int) (b:Int),b∈a6a last l→0≤b∧b≤255
 |[],_,b,hb=>by simp[a6a] at hb
 |v::l,last,b,hb=>by
  unfold a6a at hb;rcases Ao.1 hb with hb|hb
  ·exact c7z _ b hb
  ·exact e3v l _ b hb
theorem a8c(last x:Int):zig (c8p last x)<18446744073709551616:=b6v (b9o last x).1 (b9o last x).2
theorem d6y:∀(l:List Vl) (last:Int),(a6a last l).length≤10*l.length
 |[],_=>by simp[a6a]
 |v::l,last=>by
  have h1:=a3r (a8c last v.2.1);have h2:=d6y l v.2.1;unfold a6a;simp only[Ap,A6];omega
theorem g4d{v v':Vl}(h:a0j t v=true)(h':a0j t v'=true)(ht:t≤3)(e:v.2.1=v'.2.1):v=v':=c6r h h' (by rw[if_neg (by omega)];exact e)
theorem f6w{x y:Int}(h:zig x=zig y):x=y:=by
 have:=congrArg zag h;rwa [b9m,b9m] at this
theorem c5r:∀{l l':List Vl} {last:Int} {s s':List Int},t≤3→(∀v,v∈l→a0j t v=true∧okV v)→(∀v,v∈l'→a0j t v=true∧okV v)→l.length=l'.length→a6a last l++s=a6a last l'++s'→l=l'∧s=s'
 |[],[],_,s,s',_,_,_,_,e=>by simpa[a6a] using e
 |[],_::_,_,_,_,_,_,_,h,_=>by simp at h
 |_::_,[],_,_,_,_,_,_,h,_=>by simp at h
 |v::l,v'::l',last,s,s',ht,hl,hl',hlen,e=>by
  simp only[a6a,Al] at e;obtain⟨e1,e2⟩:=b5e _ _ _ _ e;have e3:v.2.1=v'.2.1:=by
   have h1:=c3r (last:=last) (hl v (by simp)).2.2.1;have h2:=c3r (last:=last) (hl' v' (by simp)).2.2.1;rw[←h1,←h2,f6w e1]
  have e4:=g4d (hl v (by simp)).1 (hl' v' (by simp)).1 ht e3;subst e4;obtain⟨e5,e6⟩:=c5r ht (fun x hx=>hl x (Ar _ hx)) (fun x hx=>hl' x (Ar _ hx)) (by simpa using hlen) e2;exact⟨by rw[e5],e6⟩
def a3p(l:List Vl):Int:=match l with
 |[]=>0
 |v::l=>(v::l).foldl (fun m x=>if m≤x.2.1 then m else x.2.1) v.2.1
def a1u(l:List Vl):List Int:=l.map fun v=>v.2.1 - a3p l
def c0g(l:List Vl):List Int:=match l with
 |[]=>[]
 |v::l=>putN (zig (a3p (v::l)))++(((a2v (a1u (v::l)):Nat):Int)::a7i (a1u (v::l)) (a2v (a1u (v::l))))
theorem d2c:∀(l:List Vl) (m:Int),(l.foldl (fun m x=>if m≤x.2.1 then m else x.2.1) m≤m)∧(∀v,v∈l→l.foldl (fun m x=>if m≤x.2.1 then m else x.2.1) m≤v.2.1) ∧
  (l.foldl (fun m x=>if m≤x.2.1 then m else x.2.1) m=m∨∃v,v∈l∧l.foldl (fun m x=>if m≤x.2.1 then m else x.2.1) m=v.2.1)
 |[],m=>⟨Int.le_refl _,by simp,.inl rfl⟩
 |x::l,m=>by
  simp only[BK];obtain⟨h1,h2,h3⟩:=d2c l (if m≤x.2.1 then m else x.2.1);have h4:(if m≤x.2.1 then m else x.2.1)≤m∧(if m≤x.2.1 then m else x.2.1)≤x.2.1:=by split <;> omega
  refine⟨by omega,?_,?_⟩
  ·intro v hv;rcases Az.1 hv with rfl|hv
   ·omega
   ·exact h2 v hv
  ·rcases h3 with h3|⟨v,hv,h3⟩
   ·rw[h3];by_cases hm:m≤x.2.1
    ·rw[if_pos hm];exact .inl rfl
    ·rw[if_neg hm];exact .inr ⟨x,by simp,rfl⟩
   ·exact .inr ⟨v,Ar _ hv,h3⟩
theorem d9g{l:List Vl}{v:Vl}(hv:v∈l):a3p l≤v.2.1:=by
 cases l with
 |nil=>simp at hv
 |cons x l=>exact(d2c (x::l) x.2.1).2.1 v hv
theorem g1c{l:List Vl}(hl:l≠[]):∃v,v∈l∧a3p l=v.2.1:=by
 cases l with
 |nil=>exact absurd rfl hl
 |cons x l =>
  rcases(d2c (x::l) x.2.1).2.2 with h|h
  ·exact⟨x,by simp,h⟩
  ·exact h
theorem b1r{l:List Vl}(hv:∀v,v∈l→okV v):-9223372036854775808≤a3p l∧a3p l≤9223372036854775807:=by
 by_cases hl:l=[]
 ·subst hl;simp[a3p]
 ·obtain⟨v,h1,h2⟩:=g1c hl;rw[h2];exact(hv v h1).2.1
theorem a2y(l:List Vl):(a1u l).length=l.length:=by simp[a1u]
theorem b8m{l:List Vl}(hv:∀v,v∈l→okV v):∀x,x∈a1u l→0≤x∧x<18446744073709551616:=by
 intro x hx;simp only[a1u,Bu] at hx;obtain⟨v,h1,rfl⟩:=hx;have h2:=d9g h1;have h3:=b1r hv;have h4:=(hv v h1).2.1;omega
theorem c4j{l:List Vl}(hv:∀v,v∈l→okV v):∀x,x∈a1u l→0≤x∧x.toNat<2 ^ a2v (a1u l) :=
 fun x hx=>⟨(b8m hv x hx).1,(b7p (w:=a2v (a1u l))).1 (Av _) x hx⟩
theorem b4r{l:List Vl}(hv:∀v,v∈l→okV v):a2v (a1u l)≤64:=by
 rw[b7p];intro x hx;have:=b8m hv x hx;omega
theorem b1x{l:List Vl}(hl:l≠[]):c0g l=putN (zig (a3p l))++(((a2v (a1u l):Nat):Int)::a7i (a1u l) (a2v (a1u l))):=by
 cases l with
 |nil=>exact absurd rfl hl
 |cons v l=>rfl
theorem g2p{l:List Vl}(hv:∀v,v∈l→okV v):∀b,b∈c0g l→0≤b∧b≤255:=by
 intro b hb;by_cases hl:l=[]
 ·subst hl;simp[c0g] at hb
 ·rw[b1x hl] at hb;rcases Ao.1 hb with hb|hb
  ·exact c7z _ b hb
  ·rcases Az.1 hb with rfl|hb
   ·have:=b4r hv;omega
   ·exact b8c (b6y _ _) b hb
theorem f8u{l:List Vl}(hv:∀v,v∈l→okV v):(c0g l).length≤19+8*l.length:=by
 by_cases hl:l=[]
 ·subst hl;simp[c0g]
 ·rw[b1x hl];have h1:=a3r (b6v (b1r hv).1 (b1r hv).2);have h2:=b4r hv;have h3:l.length*a2v (a1u l)≤l.length*64:=Dg _ h2;simp only[Ap,A6,a4b,a2y];omega
theorem f7r{l l':List Vl}(h:∀v,v∈l→a0j t v=true)(h':∀v,v∈l'→a0j t v=true)(ht:t≤3)(e1:a3p l=a3p l')(e2:a1u l=a1u l'):l=l':=by
 have hlen:l.length=l'.length:=by
  have:=congrArg BS e2;rwa [a2y,a2y] at this
 refine Bm hlen fun i h1 h2=>?_
 refine g4d (h _ (Aj h1)) (h' _ (Aj h2)) ht ?_;have h3:(a1u l)[i]'(by rw[a2y];exact h1)=(a1u l')[i]'(by rw[a2y];exact h2):=Dj e2 _;simp only[a1u,Bj] at h3;omega
theorem e5g{l l':List Vl}{s:List Int}(ht:t≤3)(h:∀v,v∈l→a0j t v=true∧okV v)(h':∀v,v∈l'→a0j t v=true∧okV v)(hlen:l.length=l'.length)(e:c0g l++s=c0g l'):l=l'∧s=[]:=by
 by_cases hl:l=[]
 ·subst hl;have:l'=[]:=by cases l' with|nil=>rfl|cons=>simp at hlen
  subst this;exact⟨rfl,by simpa[c0g] using e⟩
 have hl':l'≠[]:=by rintro rfl;cases l with|nil=>exact hl rfl|cons=>simp at hlen
 rw[b1x hl,b1x hl'] at e;simp only[Al,AT] at e;obtain⟨e1,e2⟩:=b5e _ _ _ _ e;simp only[AB] at e2;obtain⟨e3,e4⟩:=e2;have e5:a2v (a1u l)=a2v (a1u l'):=by omega
 have e6:s=[]:=by
  have:=congrArg BS e4;simp only[Ap,a4b,a2y,e5,hlen] at this;exact List.eq_nil_of_length_eq_zero (by omega)
 subst e6;rw[A3,←e5] at e4;have e7:=d2r (by rw[a2y,a2y,hlen]) (c4j fun v hv=>(h v hv).2) (by rw[e5];exact c4j fun v hv=>(h' v hv).2) e4;exact⟨f7r (fun v hv=>(h v hv).1) (fun v hv=>(h' v hv).1) ht (f6w e1) e7,rfl⟩
def a6w(e t:Int):Bool:=decide (e=1)||decide (e=2)||decide (e=3)||(decide (e=4)&&decide (t≤3))||(decide (e=5)&&decide (t≤2))
def encB(e t:Int)(l:List Vl):List Int :=
 if e=1 then l.flatMap oneV else if e=2 then rleB l else if e=3 then b7v t l else if e=4 then c0g l else a6a 0 l
theorem a5g{l:List Vl}(h:a1i t l=true)(hv:∀v,v∈l→okV v):∀v,v∈l→a0j t v=true∧okV v:=fun v hm=>⟨(a2m h).2.2 v hm,hv v hm⟩
theorem g5s{e:Int}{l:List Vl}(h:a1i t l=true)(hv:∀v,v∈l→okV v):∀b,b∈encB e t l→0≤b∧b≤255:=by
 intro b hb;unfold encB at hb;split at hb
 ·exact b2q (a5g h hv) b hb
 ·split at hb
  ·exact f5s _ (Av _) (a5g h hv) b hb
  ·split at hb
   ·exact d9v h hv b hb
   ·split at hb
    ·exact g2p hv b hb
    ·exact e3v _ _ b hb
theorem e0r{e:Int}{l:List Vl}(h:a1i t l=true)(hv:∀v,v∈l→okV v)(hl:l.length≤1000):(encB e t l).length≤31000:=by
 unfold encB;split
 ·have:=a1t (a5g h hv);omega
 ·split
  ·have:=f0f _ (Av _) (by omega) (a5g h hv);omega
  ·split
   ·have:=d4t h hv hl;omega
   ·split
    ·have:=f8u hv;omega
    ·have:=d6y l 0;omega
theorem c4p{e:Int}{l l':List Vl}{s:List Int}(he:a6w e t=true)(h:a1i t l=true)(hv:∀v,v∈l→okV v)(h':a1i t l'=true)(hv':∀v,v∈l'→okV v)(hlen:l.length=l'.length)(q:encB e t l++s=encB e t l'):l=l'∧s=[]:=by
 have hb:=a5g h hv;have hb':=a5g h' hv';unfold a6w at he;simp only[B6,Af,decide_eq_true_eq] at he;unfold encB at q;by_cases h1:e=1
 ·rw[if_pos h1,if_pos h1] at q;exact b7f (fun v hv=>(hb v hv).1) (fun v hv=>(hb' v hv).1) hlen (s':=[]) (by rw[A3];exact q)
 rw[if_neg h1,if_neg h1] at q;by_cases h2:e=2
 ·rw[if_pos h2,if_pos h2] at q;exact d2d _ (Av _) (fun v hv=>(hb v hv).1) (fun v hv=>(hb' v hv).1) hlen (s':=[]) (by rw[A3];exact q)
 rw[if_neg h2,if_neg h2] at q;by_cases h3:e=3
 ·rw[if_pos h3,if_pos h3] at q;exact e6b h h' hlen q
 rw[if_neg h3,if_neg h3] at q;by_cases h4:e=4
 ·rw[if_pos h4,if_pos h4] at q;exact e5g (t:=t) (by omega) hb hb' hlen q
 rw[if_neg h4,if_neg h4] at q;exact c5r (t:=t) (by omega) hb hb' hlen (s':=[]) (by rw[A3];exact q)
def b2i(b:Bool):Int:=if b then 1 else 0
def b3m(l:List Bool):List Int:=a7i (l.map b2i) 1
theorem b0x(l:List Bool):(b3m l).length=(l.length+7) / 8:=by
 unfold b3m;rw[a4b];simp
theorem g0v(l:List Bool):∀b,b∈b3m l→0≤b∧b≤255:=b8c (b6y _ _)
theorem d4c(l:List Bool):∀x,x∈l.map b2i→0≤x∧x.toNat<2 ^ 1:=by
 intro x hx;obtain⟨b,_,rfl⟩:=Bu.1 hx;cases b <;> simp[b2i]
theorem f8z{l l':List Bool}(hlen:l.length=l'.length)(e:b3m l=b3m l'):l=l':=by
 have h1:=d2r (by simpa using hlen) (d4c l) (d4c l') e;refine Bm hlen fun i h2 h3=>?_
 have h4:(l.map b2i)[i]'(by simpa using h2)=(l'.map b2i)[i]'(by simpa using h3):=Dj h1 _;simp only[Bj] at h4;generalize l[i]=x at h4 ⊢;generalize l'[i]=y at h4 ⊢;revert h4;cases x <;> cases y <;> simp[b2i]
def isN(v:Vl):Bool:=decide (v.1=0)
def a5f(t:Int)(v:Vl):Bool:=mayV v&&(decide (1≤t)&&decide (t≤4))&&(decide (v.1=0)||decide (v.1=t))
def b1o(e t:Int):Option Int :=
 if 1≤t∧t≤4∧1≤e∧e≤5 then some (if e=5∧3≤t then(if t=4 then 3 else 4) else if e=4∧t=4 then 3 else e) else none
theorem a8f{e t u:Int}(h:b1o e t=some u):a6w u t=true∧1≤t∧t≤4∧1≤u∧u≤5∧b1o u t=some u:=by
 unfold b1o at h;split at h
 ·rename_i hc;obtain⟨h1,h2,h3,h4⟩:=hc;simp only[Ad] at h;unfold a6w b1o;simp only[B6,Af,decide_eq_true_eq];split at h
  ·rename_i h5;split at h
   ·subst h;refine⟨by omega,h1,h2,by omega,by omega,?_⟩;rw[if_pos (by omega),if_neg (by omega),if_neg (by omega)]
   ·subst h;refine⟨by omega,h1,h2,by omega,by omega,?_⟩;rw[if_pos (by omega),if_neg (by omega),if_neg (by omega)]
  ·split at h
   ·subst h;refine⟨by omega,h1,h2,by omega,by omega,?_⟩;rw[if_pos (by omega),if_neg (by omega),if_neg (by omega)]
   ·subst h;refine⟨by omega,h1,h2,by omega,by omega,?_⟩;rw[if_pos (by omega),if_neg (by omega),if_neg (by omega)]
 ·cases h
def a3b(l:List Vl):List Vl:=l.filter fun v=>!isN v
def colB(u t:Int)(l:List Vl):List Int :=
 if l.any isN then u::1::(b3m (l.map isN)++encB u t (a3b l)) else u::0::encB u t (a3b l)
theorem a8a{l:List Vl}(ht:1≤t∧t≤4)(h:∀v,v∈l→a5f t v=true):a1i t (a3b l)=true:=by
 unfold a1i;simp only[Af,decide_eq_true_eq,AK];refine⟨ht,fun v hv=>?_⟩;simp only[a3b,Ck,isN,A8,decide_eq_false_iff_not] at hv;have:=h v hv.1;unfold a5f at this;simp only[Af,B6,decide_eq_true_eq] at this;unfold a0j;simp only[Af,decide_eq_true_eq];exact⟨by omega,this.1.1⟩
theorem b3c(l:List Vl):(a3b l).length≤l.length:=List.length_filter_le _ _
theorem b2p{l:List Vl}(h:∀v,v∈l→okV v):∀v,v∈a3b l→okV v:=fun v hv=>h v (Ck.1 hv).1
theorem g7i{v:Vl}(h:a5f t v=true)(hn:isN v=true):v=((0:Int),(0:Int),[],()):=by
 unfold isN at hn;unfold a5f mayV at h;simp only[Af,B6,decide_eq_true_eq] at h hn;obtain⟨a,b,c,u⟩:=v;dsimp only at h hn;subst hn;have h1:=h.1.1;simp at h1;simp[h1.1,h1.2]
def mixV:List Bool→List Vl→List Vl
 |[],_=>[]
 |true::bs,l=>((0:Int),(0:Int),[],())::mixV bs l
 |false::bs,l=>l.headD ((0:Int),(0:Int),[],())::mixV bs l.tail
theorem c0j:∀{l:List Vl},(∀v,v∈l→a5f t v=true)→mixV (l.map isN) (a3b l)=l
 |[],_=>rfl
 |v::l,h=>by
  have ih:=c0j (l:=l) fun x hx=>h x (Ar _ hx)
  cases hn:isN v with
  |true =>
   rw[AW,hn];have e:a3b (v::l)=a3b l:=by simp[a3b,hn]
   rw[e];unfold mixV;rw[ih,g7i (h v (by simp)) hn]
  |false =>
   rw[AW,hn];have e:a3b (v::l)=v::a3b l:=by simp[a3b,hn]
   rw[e];unfold mixV;rw[List.headD_cons,List.tail_cons,ih]
theorem f1y{l l':List Vl}(h:∀v,v∈l→a5f t v=true)(h':∀v,v∈l'→a5f t v=true)(e1:l.map isN=l'.map isN)(e2:a3b l=a3b l'):l=l':=by
 rw[←c0j h,←c0j h',e1,e2]
theorem b4v(l:List Vl):(a3b l).length+(l.map isN).countP (fun b=>b)=l.length:=by
 induction l with
 |nil=>rfl
 |cons v l ih =>
  cases hn:isN v with
  |true =>
   have e:a3b (v::l)=a3b l:=by simp[a3b,hn]
   have e2:CT (fun b=>b) (true::l.map isN)=CT (fun b=>b) (l.map isN)+1:=by rw[EE];rfl
   rw[e,AW,hn,e2,A6];omega
  |false =>
   have e:a3b (v::l)=v::a3b l:=by simp[a3b,hn]
   have e2:CT (fun b=>b) (false::l.map isN)=CT (fun b=>b) (l.map isN):=by rw[EE];rfl
   rw[e,AW,hn,e2,A6,A6];omega
theorem b3y{l:List Vl}(h:l.any isN=false):l.map isN=Ag l.length false:=by
 refine Bm (by simp) fun i h1 h2=>?_
 simp only[Bj,List.getElem_replicate];simp only[Bb] at h1;rw[List.any_eq_false] at h;simpa using h _ (Aj h1)
theorem f9k(u t:Int)(l:List Vl):∃r,colB u t l=u::r∧1≤r.length:=by
 unfold colB;split
 ·exact⟨_,rfl,by simp⟩
 ·exact⟨_,rfl,by simp⟩
theorem g5u{u:Int}{l:List Vl}(hu:1≤u∧u≤5)(ht:1≤t∧t≤4)(h:∀v,v∈l→a5f t v=true)(hv:∀v,v∈l→okV v):∀b,b∈colB u t l→0≤b∧b≤255:=by
 intro b hb;have h1:=g5s (e:=u) (a8a ht h) (b2p hv);unfold colB at hb;split at hb
 ·simp only[Az,Ao] at hb;rcases hb with rfl|rfl|hb|hb
  ·omega
  ·omega
  ·exact g0v _ b hb
  ·exact h1 b hb
 ·simp only[Az] at hb;rcases hb with rfl|rfl|hb
  ·omega
  ·omega
  ·exact h1 b hb
theorem g2q{u:Int}{l:List Vl}(ht:1≤t∧t≤4)(h:∀v,v∈l→a5f t v=true)(hv:∀v,v∈l→okV v)(hl:l.length≤1000):(colB u t l).length≤32000:=by
 have h1:=e0r (e:=u) (a8a ht h) (b2p hv) (by have:=b3c l;omega);unfold colB;split
 ·simp only[A6,Ap,b0x,Bb];omega
 ·simp only[A6];omega
theorem e7z{u u':Int}{l l':List Vl}{s:List Int}(hu:a6w u t=true)(ht:1≤t∧t≤4)(h:∀v,v∈l→a5f t v=true)(hv:∀v,v∈l→okV v)(h':∀v,v∈l'→a5f t v=true)(hv':∀v,v∈l'→okV v)
  (hlen:l.length=l'.length) (q:colB u t l++s=colB u' t l'):u=u'∧l=l'∧s=[]:=by
 have hr:=a8a ht h;have hr':=a8a ht h';unfold colB at q;cases ha:l.any isN with
 |true =>
  cases ha':l'.any isN with
  |true =>
   rw[ha,ha',if_pos rfl,if_pos rfl] at q;simp only[AT,AB,true_and,Al] at q;obtain⟨rfl,q⟩:=q;have q1:=G3 q (by rw[b0x,b0x];simp[hlen]);have e1:=f8z (by simpa using hlen) q1.1;have h3:=b4v l;have h4:=b4v l';rw[e1] at h3;obtain⟨e2,e3⟩:=c4p hu hr (b2p hv) hr' (b2p hv') (by omega) q1.2;exact⟨rfl,f1y h h' e1 e2,e3⟩
  |false =>
   rw[ha,ha',if_pos rfl,if_neg (by simp)] at q;simp at q
 |false =>
  cases ha':l'.any isN with
  |true =>
   rw[ha,ha',if_neg (by simp),if_pos rfl] at q;simp at q
  |false =>
   rw[ha,ha',if_neg (by simp),if_neg (by simp)] at q;simp only[AT,AB,true_and] at q;obtain⟨rfl,q⟩:=q;have e1:l.map isN=l'.map isN:=by rw[b3y ha,b3y ha',hlen]
   have h3:=b4v l;have h4:=b4v l';rw[e1] at h3;obtain⟨e2,e3⟩:=c4p hu hr (b2p hv) hr' (b2p hv') (by omega) q;exact⟨rfl,f1y h h' e1 e2,e3⟩
end Go.Rb

namespace Go.Rb
abbrev Zn:Type:=Int×Vl×Vl×Unit
theorem d9w:∀{b:List Int} {v n:Nat},a3i b=some (v,n)→1≤n∧n≤b.length
 |[],v,n,h=>by simp[a3i] at h
 |b::l,v,n,h=>by
  unfold a3i at h;split at h
  ·simp only[Ad,Ak] at h;simp;omega
  ·split at h
   ·rename_i v' n' he;have:=d9w he;split at h
    ·cases h
    ·simp only[Ad,Ak] at h;simp;omega
   ·cases h
def a0z(t:Int):Nat:=if t=1 then 2 else if t=2 then 8 else if t=3 then 1 else 0
def bigB:Nat→Int→List Int
 |0,_=>[]
 |w+1,x=>(x / 256 ^ w) % 256::bigB w x
theorem b0n:∀(w:Nat) (x:Int),(bigB w x).length=w
 |0,_=>rfl
 |w+1,x=>by simp[bigB,b0n w x]
theorem f5y:∀(w:Nat) (x:Int) (b:Int),b∈bigB w x→0≤b∧b≤255
 |0,_,b,h=>by simp[bigB] at h
 |w+1,x,b,h=>by
  rcases Az.1 h with rfl|h
  ·omega
  ·exact f5y w x b h
def numT(l:List Int):Int:=l.foldl (fun a c=>a*256+c) 0
theorem e3g(l:List Int)(c:Int):numT (l++[c])=numT l*256+c:=by simp[numT]
theorem e0s:∀(l:List Int) (a:Int),l.foldl (fun a c=>a*256+c) a=a*256 ^ l.length+numT l
 |[],a=>by simp[numT]
 |c::l,a=>by
  have h2:numT (c::l)=(0*256+c)*256 ^ l.length+numT l:=by rw[numT,BK,e0s l (0*256+c)]
  rw[BK,e0s l,h2,A6,Fw,Int.add_mul,Int.zero_mul,Int.zero_add,Jh (256 ^ l.length) 256,←FF,Int.add_assoc]
theorem e4k(c:Int)(l:List Int):numT (c::l)=c*256 ^ l.length+numT l:=by
 rw[numT,BK,e0s];simp
theorem f0e:∀(w:Nat) (x:Int),numT (bigB w x)=x % 256 ^ w
 |0,x=>by simp[bigB,numT,Int.emod_one]
 |w+1,x=>by
  rw[bigB,e4k,b0n,f0e w x,Fw];have hp:(0:Int)<256 ^ w:=EY (by omega);have h1:=Int.emod_emod_of_dvd x (Int.dvd_mul_right (256 ^ w) 256);have h2:=Int.mul_ediv_add_emod (x % (256 ^ w*256)) (256 ^ w);have h3:x % (256 ^ w*256) / 256 ^ w=x / 256 ^ w % 256:=by
   rw[Ji x (256 ^ w*256),FF,Int.sub_eq_add_neg,←Int.mul_neg,Int.add_mul_ediv_left _ _ (by omega),←Int.ediv_ediv_of_nonneg (by omega),Ji];omega
  rw[h1,h3,Jh] at h2;exact h2
theorem b8d:∀{l:List Int},(∀x,x∈l→0≤x∧x≤255)→0≤numT l∧numT l<256 ^ l.length
 |[],_=>by simp[numT]
 |c::l,h=>by
  obtain⟨h1,h2⟩:=b8d (l:=l) (fun x hx=>h x (Ar _ hx));have h3:=h c (by simp);rw[e4k,A6,Fw];have h4:=Int.mul_le_mul_of_nonneg_right h3.2 (show(0:Int)≤256 ^ l.length by exact Jj (EY (by omega)));have h5:=Int.mul_nonneg h3.1 (show(0:Int)≤256 ^ l.length by exact Jj (EY (by omega)));omega
def valB(v:Vl):List Int:=v.1::if v.1=4 then(v.2.2.1.length:Int)::v.2.2.1 else bigB (a0z v.1) v.2.1
def numV(t x:Int):Int:=if t=1 then D2.wrap x else if t=2 then Aa.wrap x else x
def c6t(b:List Int):Option (Vl×Nat) :=
 match b with
 |[]=>none
 |t::r =>
  if t=4 then
   match r with
   |[]=>none
   |m::s=>if s.length<m.toNat then none else if m≤20 then some (((4:Int),(0:Int),s.take m.toNat,()),2+m.toNat) else none
  else if r.length<a0z t then none
  else if mayV (t,numV t (numT (r.take (a0z t))),[],()) then some ((t,numV t (numT (r.take (a0z t))),[],()),1+a0z t) else none
theorem c2n{b:List Int}{v:Vl}{k:Nat}(h:c6t b=some (v,k)):1≤k∧k≤b.length:=by
 unfold c6t at h;cases b with
 |nil=>cases h
 |cons t r =>
  dsimp only at h;split at h
  ·cases r with
   |nil=>cases h
   |cons m q =>
    dsimp only at h;split at h
    ·cases h
    ·split at h
     ·simp only[Ad,Ak] at h;simp;omega
     ·cases h
  ·split at h
   ·cases h
   ·split at h
    ·simp only[Ad,Ak] at h;simp;omega
    ·cases h
theorem g3a{x:Int}(h:-32768≤x∧x≤32767):D2.wrap (x % 65536)=x:=by
 simp only[BB,BC,Bs];simp;omega
theorem f9p{x:Int}(h:-9223372036854775808≤x∧x≤9223372036854775807):Aa.wrap (x % 18446744073709551616)=x:=by
 rw[a3g];omega
theorem f8g(x:Int):-32768≤D2.wrap x∧D2.wrap x≤32767:=by
 simp only[BB,BC,Bs];simp;omega
theorem c7f{v:Vl}(h:mayV v=true):(v.1=0∧v.2.1=0∧v.2.2.1=[])∨(v.1=1∧-32768≤v.2.1∧v.2.1≤32767∧v.2.2.1=[])∨(v.1=2∧v.2.2.1=[])∨(v.1=3∧(v.2.1=0∨v.2.1=1)∧v.2.2.1=[])∨(v.1=4∧v.2.1=0∧v.2.2.1.length≤20):=by
 have h2:=(a1s (t:=v.1) (v:=v) (by simp[a0j,h])).2;omega
theorem e4j{v:Vl}(h:mayV v=true)(hv:okV v)(s:List Int):c6t (valB v++s)=some (v,(valB v).length):=by
 have hs:=c7f h;obtain⟨t,i,l,u⟩:=v;dsimp only at hs;obtain⟨_,h64,_,_⟩:=hv;dsimp only at h64;unfold valB c6t;dsimp only;by_cases ht:t=4
 ·subst ht;rw[if_pos rfl];obtain⟨rfl,hl⟩:i=0∧l.length≤20:=by omega
  simp only[AT,if_true];rw[if_neg (by simp),if_pos (by omega)];simp;omega
 ·rw[if_neg ht,AT];dsimp only;rw[if_neg ht,if_neg (by rw[Ap,b0n];omega),List.take_append_of_le_length (by rw[b0n];exact Av _),List.take_of_length_le (by rw[b0n];exact Av _),f0e];have hl:l=[]:=by
   rcases hs with h|h|h|h|h
   ·exact h.2.2
   ·exact h.2.2.2
   ·exact h.2
   ·exact h.2.2
   ·exact absurd h.1 ht
  subst hl;have hx:numV t (i % 256 ^ a0z t)=i:=by
   unfold numV a0z;rcases hs with⟨rfl,hs,_⟩|⟨rfl,h1,h2,_⟩|⟨rfl,_⟩|⟨rfl,hs,_⟩|⟨rfl,_⟩
   ·rw[if_neg (by decide),if_neg (by decide),if_neg (by decide),if_neg (by decide),if_neg (by decide)];omega
   ·rw[if_pos rfl,if_pos rfl];exact g3a ⟨h1,h2⟩
   ·rw[if_neg (by decide),if_pos rfl,if_neg (by decide),if_pos rfl];exact f9p h64
   ·rw[if_neg (by decide),if_neg (by decide),if_neg (by decide),if_neg (by decide),if_pos rfl];omega
   ·omega
  rw[hx,h];simp[b0n];omega
theorem f6k{v:Vl}(h:mayV v=true)(hv:okV v):∀x,x∈valB v→0≤x∧x≤255:=by
 intro x hx;have hs:=c7f h;unfold valB at hx;rcases Az.1 hx with rfl|hx
 ·omega
 ·split at hx
  ·rcases Az.1 hx with rfl|hx
   ·omega
   ·exact hv.2.2.2 x hx
  ·exact f5y _ _ _ hx
theorem d1g{v:Vl}(h:mayV v=true):1≤(valB v).length∧(valB v).length≤22:=by
 have hs:=c7f h;unfold valB;rw[A6];split
 ·rw[A6];omega
 ·rw[b0n];unfold a0z;split <;> (try split) <;> (try split) <;> omega
def b1p(z:Zn):List Int:=putN z.1.toNat++(valB z.2.1++valB z.2.2.1)
def c5s(b:List Int):Option (Zn×Nat) :=
 match a3i b with
 |none=>none
 |some (u,k)=>if 9223372036854775808≤u then none else
  match c6t (b.drop k) with
  |none=>none
  |some (v,j)=>match c6t (b.drop (k+j)) with
   |none=>none
   |some (v',j')=>some (((u:Int),v,v',()),k+j+j')
theorem f0z{b:List Int}{z:Zn}{k:Nat}(h:c5s b=some (z,k)):3≤k∧k≤b.length:=by
 unfold c5s at h;split at h
 ·cases h
 ·rename_i u k1 h1;have g1:=d9w h1;split at h
  ·cases h
  ·split at h
   ·cases h
   ·rename_i v j h3;have g2:=c2n h3;rw[AM] at g2;split at h
    ·cases h
    ·rename_i v' j' h4;have g3:=c2n h4;rw[AM] at g3;simp only[Ad,Ak] at h;omega
def mayZ(z:Zn):Prop:=0≤z.1∧z.1≤9223372036854775807∧mayV z.2.1=true∧okV z.2.1∧mayV z.2.2.1=true∧okV z.2.2.1
theorem f4y{z:Zn}(h:mayZ z)(s:List Int):c5s (b1p z++s)=some (z,(b1p z).length):=by
 obtain⟨h1,h2,h3,h4,h5,h6⟩:=h;obtain⟨n,v,v',u⟩:=z;dsimp only at h1 h2 h3 h4 h5 h6;unfold c5s b1p;dsimp only;rw[Al,a5b _ _ (by omega)];dsimp only;rw[if_neg (by omega),ET,Al,e4j h3 h4];dsimp only;rw[←List.drop_drop,ET,ET,e4j h5 h6];simp only[Ap,Ad,Ak,and_true];omega
theorem g1q{z:Zn}(h:mayZ z):∀x,x∈b1p z→0≤x∧x≤255:=by
 obtain⟨h1,h2,h3,h4,h5,h6⟩:=h;intro x hx;unfold b1p at hx;rcases Ao.1 hx with hx|hx
 ·exact c7z _ _ hx
 ·rcases Ao.1 hx with hx|hx
  ·exact f6k h3 h4 x hx
  ·exact f6k h5 h6 x hx
theorem c7g{z:Zn}(h:mayZ z):3≤(b1p z).length∧(b1p z).length≤54:=by
 obtain⟨h1,h2,h3,h4,h5,h6⟩:=h;have g1:=d1g h3;have g2:=d1g h5;have g3:=b6o z.1.toNat;have g4:=a3r (v:=z.1.toNat) (by omega);unfold b1p;rw[Ap,Ap];omega
end Go.Rb
