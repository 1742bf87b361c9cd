/- Plain laws, of no program: loops, bits, numbers as bytes. Own work. -/
import Derived.Test.YthkgkalebkbndaaGreatDoorRbE
set_option autoImplicit false
set_option linter.unusedVariables false
set_option linter.unusedSimpArgs false
open BitVec renaming allOnes->Fx,ofInt->AZ,toNat_and->EY,toNat_not->EZ,toNat_or->Fj,xor_allOnes->EG
open Go.IntKind renaming bits->Bi,i64->Aa,signed->AX,u64->Au,u8->A6,wrap->Bh
open Int renaming fdiv_eq_ediv_of_nonneg->Ey,toNat_natCast->Ah
open List renaming cons_append->Ef,drop_eq_getElem_cons->CN
open Nat renaming and_le_left->FK,min_eq_left->E1,mul_add->Ik,mul_comm->D7,or_lt_two_pow->Fv,strongRecOn->FL
namespace Go.Rb
variable {R:Type} {σ:Type}
theorem f5s{f:(σ→Option R)→σ→Option R}(st:Nat→σ)(k:Nat){r:Option R}(h:∀rec i,i<k→f rec (st i)=rec (st (i+1)))(he:∀rec,f rec (st k)=r):∀{n:Nat},k<n→a1b f n (st 0)=r:=by
 have key:∀(m n i:Nat),i+m=k→m<n→a1b f n (st i)=r:=by
  intro m
  induction m with
  |zero =>
   intro n i hi hn;obtain⟨n,rfl⟩:∃n',n=n'+1:=⟨n - 1,by omega⟩
   unfold a1b;obtain rfl:i=k:=by omega
   exact he _
  |succ m ih =>
   intro n i hi hn;obtain⟨n,rfl⟩:∃n',n=n'+1:=⟨n - 1,by omega⟩
   unfold a1b;rw[h _ i (by omega)];exact ih n (i+1) (by omega) (by omega)
 intro n hn;exact key k n 0 (by omega) hn
theorem a4b{f:(σ→Option R)→σ→Option R}(st:Nat→σ)(k:Nat){r:Option R}{s0:σ}(h0:st 0=s0)(h:∀rec i,i<k→f rec (st i)=rec (st (i+1)))(he:∀rec,f rec (st k)=r){n:Nat}(hn:k<n):a1b f n s0=r:=by
 subst h0;exact f5s st k h he hn
theorem e1v{f:(σ→Option R)→σ→Option R}(I:Nat→σ→Prop)(res:σ→Option R)(h:∀k s rec,I k s→(∀j s',j<k→I j s'→rec s'=res s')→f rec s=res s) :
  ∀(n k:Nat) (s:σ),I k s→k<n→a1b f n s=res s
 |0,k,s,_,hk=>absurd hk (Nat.not_lt_zero _)
 |n+1,k,s,hi,hk=>h k s (a1b f n) hi fun j s' hj hs'=>e1v I res h n j s' hs' (by omega)
theorem f6y{i:Int}{n:Nat}{x:Option R}(h0:0≤i)(h1:i<n):atI i n x=x:=by
 unfold atI;rw[if_pos ⟨h0,h1⟩]
theorem a3b{i n:Nat}{x:Option R}(h1:i<n):atI (i:Int) n x=x:=f6y (by omega) (by omega)
theorem a8y{α:Type}{l:List α}{i:Nat}{d:α}(hi:i<l.length):l.getD i d=l[i]:=by
 rw[List.getD_eq_getElem?_getD,List.getElem?_eq_getElem hi];rfl
theorem b2g{α β:Type}(f:α→List β){l:List α}{i:Nat}(hi:i<l.length):(l.take (i+1)).flatMap f=(l.take i).flatMap f++f l[i]:=by
 rw[List.take_succ_eq_append_getElem hi,List.flatMap_append,List.flatMap_cons,List.flatMap_nil,List.append_nil]
theorem f6j{x:Nat}(h:x<256):A6.wrap (x:Int)=(x:Int):=f0b (by omega) (by omega)
theorem c3b{x:Nat}(h:x<18446744073709551616):Au.wrap (x:Int)=(x:Int):=f5o (by omega) (by omega)
theorem d4b{x:Nat}(h:x<9223372036854775808):Aa.wrap (x:Int)=(x:Int):=a0i (by omega) (by omega)
theorem c7n(x:Int):A6.wrap x=x % 256:=by
 simp only[Bh,Bi,AX];simp
theorem c3a(x:Int):Au.wrap x=x % 18446744073709551616:=by
 simp only[Bh,Bi,AX];simp
theorem a6q(w x:Nat)(h:x<2 ^ w):(AZ w (x:Int)).toNat=x:=by
 simp[BitVec.toNat_ofInt]
 exact_mod_cast Nat.mod_eq_of_lt h
theorem f5t{x y:Nat}(hx:x<256)(hy:y<256):bits .or .u8 (x:Int) (y:Int)=((x ||| y:Nat):Int):=by
 have e1:=a6q 8 x (by omega);have e2:=a6q 8 y (by omega);have h:x ||| y<2 ^ 8:=Fv (by omega) (by omega);show A6.wrap (((AZ 8 (x:Int)) ||| (AZ 8 (y:Int))).toNat:Int)=_;rw[Fj,e1,e2];exact f6j (by omega)
theorem d6c{x y:Nat}(hx:x<256)(hy:y<256):bits .and .u8 (x:Int) (y:Int)=((x &&& y:Nat):Int):=by
 have e1:=a6q 8 x (by omega);have e2:=a6q 8 y (by omega);have h:x &&& y≤x:=FK;show A6.wrap (((AZ 8 (x:Int)) &&& (AZ 8 (y:Int))).toNat:Int)=_;rw[EY,e1,e2];exact f6j (by omega)
theorem d7v{x y:Nat}(hx:x<18446744073709551616)(hy:y<18446744073709551616):bits .or .u64 (x:Int) (y:Int)=((x ||| y:Nat):Int):=by
 have e1:=a6q 64 x (by omega);have e2:=a6q 64 y (by omega);have h:x ||| y<2 ^ 64:=Fv (by omega) (by omega);show Au.wrap (((AZ 64 (x:Int)) ||| (AZ 64 (y:Int))).toNat:Int)=_;rw[Fj,e1,e2];exact c3b (by omega)
theorem e7a{x y:Nat}(hx:x<18446744073709551616)(hy:y<18446744073709551616):bits .and .u64 (x:Int) (y:Int)=((x &&& y:Nat):Int):=by
 have e1:=a6q 64 x (by omega);have e2:=a6q 64 y (by omega);have h:x &&& y≤x:=FK;show Au.wrap (((AZ 64 (x:Int)) &&& (AZ 64 (y:Int))).toNat:Int)=_;rw[EY,e1,e2];exact c3b (by omega)
theorem e7e{x y:Nat}(hx:x<18446744073709551616)(hy:y<18446744073709551616):bits .xor .u64 (x:Int) (y:Int)=((x ^^^ y:Nat):Int):=by
 have e1:=a6q 64 x (by omega);have e2:=a6q 64 y (by omega);have h:x ^^^ y<2 ^ 64:=Nat.xor_lt_two_pow (by omega) (by omega);show Au.wrap (((AZ 64 (x:Int)) ^^^ (AZ 64 (y:Int))).toNat:Int)=_;rw[BitVec.toNat_xor,e1,e2];exact c3b (by omega)
theorem e2p(x k:Nat):((x:Int)).fdiv (k:Int)=((x / k:Nat):Int):=by
 rw[Ey _ (by omega)];exact(Int.natCast_ediv x k).symm
theorem f8w(v k:Nat)(hk:k≤64):((v:Int)).fdiv (2 ^ min ((k:Int)).toNat Au.bits)=((v / 2 ^ k:Nat):Int):=by
 have:(2 ^ min ((k:Int)).toNat Au.bits:Int)=((2 ^ k:Nat):Int):=by
  rw[Ah,show Au.bits=64 from rfl,E1 hk]
  push_cast;rfl
 rw[this,e2p]
theorem f7o(v k w:Nat)(hk:k≤w):(v:Int)*2 ^ min ((k:Int)).toNat w=((v*2 ^ k:Nat):Int):=by
 rw[Ah,E1 hk]
 push_cast;rfl
set_option maxRecDepth 100000 in
theorem g4n{x:Nat}(h:x<256):x ||| 128=x % 128+128:=(by decide:∀x:Fin 256,x.1 ||| 128=x.1 % 128+128) ⟨x,h⟩
set_option maxRecDepth 100000 in
theorem g2m{x:Nat}(h:x<256):x &&& 128=if x<128 then 0 else 128:=(by decide:∀x:Fin 256,x.1 &&& 128=if x.1<128 then 0 else 128) ⟨x,h⟩
set_option maxRecDepth 100000 in
theorem g2o{x:Nat}(h:x<256):x &&& 127=x % 128:=(by decide:∀x:Fin 256,x.1 &&& 127=x.1 % 128) ⟨x,h⟩
def putN(v:Nat):List Int :=
 if v<128 then[(v:Int)] else((v % 128+128:Nat):Int)::putN (v / 128)
termination_by v
decreasing_by omega
theorem b3b{v:Nat}(h:v<128):putN v=[(v:Int)]:=by
 rw[putN];simp[h]
theorem c2y{v:Nat}(h:128≤v):putN v=((v % 128+128:Nat):Int)::putN (v / 128):=by
 conv=>lhs;rw[putN]
 rw[if_neg (by omega)]
theorem f9v(v:Nat):putN v≠[]:=by
 rw[putN];split <;> simp
theorem f5q(v:Nat):1≤(putN v).length:=by
 have:=f9v v;cases h:putN v with
 |nil=>exact absurd h this
 |cons=>simp
theorem e9o:∀(k v:Nat),v<128 ^ (k+1)→(putN v).length≤k+1
 |0,v,h=>by rw[b3b (by omega)];simp
 |k+1,v,h=>by
  by_cases hv:v<128
  ·rw[b3b hv];simp
  ·rw[c2y (by omega)];have:=e9o k (v / 128) (by rw[Nat.pow_succ] at h;omega);simp;omega
theorem e8y{v:Nat}(h:v<18446744073709551616):(putN v).length≤10:=e9o 9 v (by omega)
theorem f7n:∀(v:Nat) (b:Int),b∈putN v→0≤b∧b≤255:=by
 intro v
 induction v using FL with
 |ind v ih =>
  intro b hb;by_cases h:v<128
  ·rw[b3b h] at hb;simp at hb;subst hb;omega
  ·rw[c2y (by omega)] at hb;rcases List.mem_cons.1 hb with rfl|hb
   ·omega
   ·exact ih (v / 128) (by omega) b hb
def b3n:List Int→Option (Nat×Nat)
 |[]=>none
 |b::l =>
  if b<128 then some (b.toNat,1)
  else match b3n l with
   |some (v,n)=>if v=0∨18446744073709551616≤b.toNat - 128+128*v then none else some (b.toNat - 128+128*v,n+1)
   |none=>none
theorem e8u:∀(v:Nat) (s:List Int),v<18446744073709551616→b3n (putN v++s)=some (v,(putN v).length):=by
 intro v
 induction v using FL with
 |ind v ih =>
  intro s hv;by_cases h:v<128
  ·rw[b3b h];simp only[Ef,List.nil_append,b3n];rw[if_pos (by omega)];simp
  ·rw[c2y (by omega)];simp only[Ef,b3n];rw[if_neg (by omega),ih (v / 128) (by omega) s (by omega)];have e:((v % 128+128:Nat):Int).toNat - 128+128*(v / 128)=v:=by omega
   simp only[e];rw[if_neg (by omega)];simp
theorem c4c:∀{b:List Int} {v n:Nat},(∀x,x∈b→0≤x∧x≤255)→b3n b=some (v,n)→v<18446744073709551616∧n≤b.length∧b.take n=putN v
 |[],v,n,_,h=>by simp[b3n] at h
 |b::l,v,n,hb,h=>by
  have h0:=hb b (by simp);unfold b3n at h;split at h
  ·simp at h;obtain⟨rfl,rfl⟩:=h;refine⟨by omega,by simp,?_⟩;rw[b3b (by omega)];simp;omega
  ·split at h
   ·rename_i v' n' he;split at h
    ·cases h
    ·rename_i hne;simp at h;obtain⟨rfl,rfl⟩:=h;obtain⟨h1,h2,h3⟩:=c4c (fun x hx=>hb x (List.mem_cons_of_mem _ hx)) he;refine⟨by omega,by simp;omega,?_⟩;rw[c2y (by omega),List.take_succ_cons,h3];have e1:(b.toNat - 128+128*v') % 128=b.toNat - 128:=by omega
     have e2:(b.toNat - 128+128*v') / 128=v':=by omega
     rw[e1,e2];congr 1;omega
   ·cases h
theorem d6p{x:Nat}(h:x<18446744073709551616):bits .xor .u64 (x:Int) 0=(x:Int):=by
 have:=e7e h (show 0<18446744073709551616 by omega);simpa using this
theorem d8b{x:Nat}(h:x<18446744073709551616):bits .xor .u64 (x:Int) 18446744073709551615=((18446744073709551615 - x:Nat):Int):=by
 show Au.wrap (((AZ 64 (x:Int)) ^^^ (AZ 64 (18446744073709551615:Int))).toNat:Int)=_;rw[show AZ 64 (18446744073709551615:Int)=Fx 64 by decide,EG,EZ,a6q 64 x (by omega)];exact c3b (by omega)
theorem d6x{x:Nat}(h:x<9223372036854775808):bits .xor .i64 (x:Int) 0=(x:Int):=by
 show Aa.wrap (((AZ 64 (x:Int)) ^^^ (AZ 64 (0:Int))).toNat:Int)=_;rw[show AZ 64 (0:Int)=0#64 by decide,BitVec.xor_zero,a6q 64 x (by omega)];exact d4b h
theorem d7t{x:Nat}(h:x<9223372036854775808):bits .xor .i64 (x:Int) (-1)=-(x:Int) - 1:=by
 show Aa.wrap (((AZ 64 (x:Int)) ^^^ (AZ 64 (-1:Int))).toNat:Int)=_;rw[show AZ 64 (-1:Int)=Fx 64 by decide,EG,EZ,a6q 64 x (by omega)];simp only[Bh,Bi,AX,if_true];simp;split <;> omega
def zig(v:Int):Nat:=if 0≤v then 2*v.toNat else 2*(-(v+1)).toNat+1
def zag(u:Nat):Int:=if u % 2=0 then(u / 2:Nat) else -((u / 2:Nat):Int) - 1
theorem f2y{v:Int}(h1:-9223372036854775808≤v)(h2:v≤9223372036854775807) :
  bits .xor .u64 (Au.wrap ((Au.wrap v)*2 ^ min (1:Int).toNat Au.bits)) (Au.wrap (v.fdiv (2 ^ min (63:Int).toNat Aa.bits)))=((zig v:Nat):Int):=by
 have e1:(2 ^ min (1:Int).toNat Au.bits:Int)=2:=by decide
 have e2:(2 ^ min (63:Int).toNat Aa.bits:Int)=9223372036854775808:=by decide
 rw[e1,e2,c3a,c3a,c3a,Ey _ (by omega)];unfold zig;by_cases h:0≤v
 ·rw[if_pos h,show v / 9223372036854775808 % 18446744073709551616=0 by omega,show v % 18446744073709551616*2 % 18446744073709551616=((2*v.toNat:Nat):Int) by omega];exact d6p (by omega)
 ·rw[if_neg h,show v / 9223372036854775808 % 18446744073709551616=18446744073709551615 by omega,show v % 18446744073709551616*2 % 18446744073709551616=((18446744073709551616 - 2*(-v).toNat:Nat):Int) by omega];rw[d8b (by omega)];omega
theorem f3g{u:Nat}(h:u<18446744073709551616) :
  bits .xor .i64 (Aa.wrap ((u:Int).fdiv (2 ^ min (1:Int).toNat Au.bits))) (Aa.wrap (0 - (Aa.wrap (bits .and .u64 (u:Int) (1:Int)))))=zag u:=by
 have e1:(2 ^ min (1:Int).toNat Au.bits:Int)=((2:Nat):Int):=by decide
 have e3:bits .and .u64 (u:Int) (1:Int)=((u % 2:Nat):Int):=by
  have:=e7a h (show 1<18446744073709551616 by omega);rw[Nat.and_one_is_mod] at this;exact this
 rw[e1,e2p,d4b (by omega),e3,d4b (x:=u % 2) (by omega)];unfold zag;by_cases h0:u % 2=0
 ·rw[if_pos h0,h0,show(0:Int) - ((0:Nat):Int)=((0:Nat):Int) by omega,d4b (by omega)];exact d6x (by omega)
 ·rw[if_neg h0,show u % 2=1 by omega,show(0:Int) - ((1:Nat):Int)=-1 by omega,a0i (by omega) (by omega)];exact d7t (by omega)
theorem f7p(v:Int):zag (zig v)=v:=by
 unfold zag zig;split <;> split <;> omega
theorem e1w{v:Int}(h1:-9223372036854775808≤v)(h2:v≤9223372036854775807):zig v<18446744073709551616:=by
 unfold zig;split <;> omega
theorem g1w{u:Nat}(h:u<18446744073709551616):-9223372036854775808≤zag u∧zag u≤9223372036854775807:=by
 unfold zag;split <;> omega
end Go.Rb

namespace Go.Rb
variable {bit bit':Nat→Nat}
theorem g0m{a b k:Nat}(h:a<2 ^ k):a ||| b*2 ^ k=a+b*2 ^ k:=by
 rw[D7 b,Nat.or_comm,Nat.add_comm];exact(Nat.two_pow_add_eq_or_of_lt h b).symm
def d7z(i V:Nat):Option (Nat×Nat)→Option (Nat×Nat)
 |some (v,k)=>if(i=0∨v≠0)∧V+2 ^ (7*i)*v<18446744073709551616 then some (V+2 ^ (7*i)*v,i+k) else none
 |none=>none
theorem b3d(i V v k:Nat):d7z i V (some (v,k))=if(i=0∨v≠0)∧V+2 ^ (7*i)*v<18446744073709551616 then some (V+2 ^ (7*i)*v,i+k) else none:=rfl
theorem e7g(i V:Nat):d7z i V none=none:=rfl
theorem d2k(b:Int)(l:List Int):b3n (b::l)=if b<128 then some (b.toNat,1) else match b3n l with
  |some (v,n)=>if v=0∨18446744073709551616≤b.toNat - 128+128*v then none else some (b.toNat - 128+128*v,n+1)
  |none=>none:=rfl
theorem pow7(i:Nat):2 ^ (7*(i+1))=128*2 ^ (7*i):=by
 rw[Ik,Nat.pow_add];omega
theorem e5x{b:List Int}(hb:∀x,x∈b→0≤x∧x≤255):d7z 0 0 (b3n b)=b3n b:=by
 cases h:b3n b with
 |none=>rfl
 |some r =>
  obtain⟨v,k⟩:=r;have:=(c4c hb h).1;rw[b3d,if_pos (by simp;omega)];simp
theorem e6k{b:List Int}{i V:Nat}(hi:i<b.length)(hc:128≤b[i]):d7z i V (b3n (b.drop i))=d7z (i+1) (V+(b[i].toNat - 128)*2 ^ (7*i)) (b3n (b.drop (i+1))):=by
 rw[CN hi,d2k,if_neg (by omega)];cases b3n (b.drop (i+1)) with
 |none=>rfl
 |some r =>
  obtain⟨v,k⟩:=r;dsimp only;have e:V+2 ^ (7*i)*(b[i].toNat - 128+128*v)=V+(b[i].toNat - 128)*2 ^ (7*i)+2 ^ (7*(i+1))*v:=by
   rw[pow7,Ik,D7 (2 ^ (7*i)) (b[i].toNat - 128),Nat.add_assoc];congr 2;rw[←Nat.mul_assoc,D7 (2 ^ (7*i)) 128]
  have hle:b[i].toNat - 128+128*v≤V+2 ^ (7*i)*(b[i].toNat - 128+128*v):=by
   have h1:1≤2 ^ (7*i):=Nat.pow_pos (by omega);have h2:=Nat.mul_le_mul_right (b[i].toNat - 128+128*v) h1;omega
  by_cases h0:v=0∨18446744073709551616≤b[i].toNat - 128+128*v
  ·rw[if_pos h0,e7g,b3d,if_neg];rintro⟨q1,q2⟩;rw[←e] at q2;omega
  ·rw[if_neg h0,b3d,b3d,←e];by_cases h1:V+2 ^ (7*i)*(b[i].toNat - 128+128*v)<18446744073709551616
   ·rw[if_pos ⟨by omega,h1⟩,if_pos ⟨by omega,h1⟩];congr 2;omega
   ·rw[if_neg (fun q=>h1 q.2),if_neg (fun q=>h1 q.2)]
theorem e6r{b:List Int}{i V:Nat}(hi:i<b.length)(hc:b[i]<128)(h0:0≤b[i]):d7z i V (b3n (b.drop i))=if(i=0∨b[i]≠0)∧V+b[i].toNat*2 ^ (7*i)<18446744073709551616 then some (V+b[i].toNat*2 ^ (7*i),i+1) else none:=by
 rw[CN hi,d2k,if_pos (by omega),b3d];rw[D7 (2 ^ (7*i))];have:b[i].toNat≠0↔b[i]≠0:=by omega
 simp only[this]
theorem c8c{V:Nat}{r:Option (Nat×Nat)}:d7z 10 V r=none:=by
 cases r with
 |none=>rfl
 |some r =>
  obtain⟨v,k⟩:=r;rw[b3d,if_neg];rintro⟨h1,h2⟩;have:2 ^ (7*10)*1≤2 ^ (7*10)*v:=Nat.mul_le_mul_left _ (by omega);omega
end Go.Rb

namespace Go.Rb
set_option linter.unusedSectionVars false
variable {α:Type} [DecidableEq α]
structure LinO (lt:α→α→Bool) (S:α→Prop):Prop where
 irrefl:∀x,S x→lt x x=false
 trans:∀x y z,S x→S y→S z→lt x y=true→lt y z=true→lt x z=true
 total:∀x y,S x→S y→lt x y=true∨x=y∨lt y x=true
variable {lt:α→α→Bool} {S:α→Prop}
def insS(lt:α→α→Bool)(v:α):List α→List α
 |[]=>[v]
 |x::l=>if lt x v=true then x::insS lt v l else if lt v x=true then v::x::l else x::l
end Go.Rb
