/- Plain laws, of no program: loops, bits, numbers as bytes. Own work. -/
import Derived.Test.YthkgkalebkbndaaGreatDoorRbE
import Derived.Test.YthkgkalebkbndaaGreatDoorRbI
set_option autoImplicit false
set_option linter.unusedVariables false
set_option linter.unusedSimpArgs false
namespace Go.Rb
variable {R:Type} {σ:Type}
theorem f6d{f:(σ→Option R)→σ→Option R}(st:Nat→σ)(k:Nat){r:Option R}(h:∀rec i,i<k→f rec (st i)=rec (st (i+1)))(he:∀rec,f rec (st k)=r):∀{n:Nat},k<n→a0x f n (st 0)=r:=by
 have key:∀(m n i:Nat),i+m=k→m<n→a0x f n (st i)=r:=by
  intro m
  induction m with
  |zero =>
   intro n i hi hn
   obtain⟨n,rfl⟩:∃n',n=n'+1:=⟨n - 1,by omega⟩
   unfold a0x
   obtain rfl:i=k:=by omega
   exact he _
  |succ m ih =>
   intro n i hi hn
   obtain⟨n,rfl⟩:∃n',n=n'+1:=⟨n - 1,by omega⟩
   unfold a0x
   rw[h _ i (by omega)]
   exact ih n (i+1) (by omega) (by omega)
 intro n hn
 exact key k n 0 (by omega) hn
theorem a1n{f:(σ→Option R)→σ→Option R}(st:Nat→σ)(k:Nat){r:Option R}{s0:σ}(h0:st 0=s0)(h:∀rec i,i<k→f rec (st i)=rec (st (i+1)))(he:∀rec,f rec (st k)=r){n:Nat}(hn:k<n):a0x f n s0=r:=by
 subst h0;exact f6d st k h he hn
theorem b9t{f:(σ→Option R)→σ→Option R}(I:Nat→σ→Prop)(res:σ→Option R)(h:∀k s rec,I k s→(∀j s',j<k→I j s'→rec s'=res s')→f rec s=res s) :
  ∀(n k:Nat) (s:σ),I k s→k<n→a0x f n s=res s
 |0,k,s,_,hk=>absurd hk (Nat.not_lt_zero _)
 |n+1,k,s,hi,hk=>h k s (a0x f n) hi fun j s' hj hs'=>b9t I res h n j s' hs' (by omega)
theorem b9g{α:Type}{body:(Int→Option R)→Int→Option R}(l:List α)(p:α→Bool)(no fin:Option R){n:Nat}(hn:l.length<n)
  (hb:∀rec i (hi:i<l.length),body rec (i:Int)=if p l[i]=true then rec ((i+1:Nat):Int) else no) (he:∀rec,body rec (l.length:Int)=fin):a0x body n (0:Int)=if l.all p=true then fin else no:=by
 have key:∀(k n:Nat) (i:Nat),i+k=l.length→k<n→a0x body n (i:Int)=if(l.drop i).all p=true then fin else no:=by
  intro k
  induction k with
  |zero =>
   intro n i hi hn
   obtain⟨n,rfl⟩:∃n',n=n'+1:=⟨n - 1,by omega⟩
   obtain rfl:i=l.length:=by omega
   unfold a0x
   rw[he];simp
  |succ k ih =>
   intro n i hi hn
   obtain⟨n,rfl⟩:∃n',n=n'+1:=⟨n - 1,by omega⟩
   have hil:i<l.length:=by omega
   unfold a0x
   rw[hb _ i hil,List.drop_eq_getElem_cons hil,List.all_cons]
   cases hp:p l[i] with
   |false=>simp
   |true=>rw[if_pos rfl,ih n (i+1) (by omega) (by omega)];simp
 have:=key l.length n 0 (by omega) hn
 simpa using this
theorem c0g{f:σ→Option R}{g:(σ→Option R)→Option R}{r:Option R}(I:σ→Option R→Prop)(h1:∀s q,I s q→f s=q)(h2:∀J,(∀s q,I s q→J s=q)→g J=r):b3q f g=r:=h2 f h1
theorem a2b{i:Int}{n:Nat}{x:Option R}(h0:0≤i)(h1:i<n):atI i n x=x:=by
 unfold atI;rw[if_pos ⟨h0,h1⟩]
theorem a0c{i n:Nat}{x:Option R}(h1:i<n):atI (i:Int) n x=x:=a2b (by omega) (by omega)
theorem a0h{α:Type}{l:List α}{i:Nat}{d:α}(hi:i<l.length):l.getD i d=l[i]:=by
 rw[List.getD_eq_getElem?_getD,List.getElem?_eq_getElem hi];rfl
theorem c5t{α β:Type}(f:α→List β){l:List α}{i:Nat}(hi:i<l.length):(l.take (i+1)).flatMap f=(l.take i).flatMap f++f l[i]:=by
 rw[List.take_succ_eq_append_getElem hi,List.flatMap_append,List.flatMap_cons,List.flatMap_nil,List.append_nil]
theorem map_take{α β:Type}(f:α→β){l:List α}{i:Nat}(hi:i<l.length):(l.take (i+1)).map f=(l.take i).map f++[f l[i]]:=by
 rw[List.take_succ_eq_append_getElem hi,List.map_append,List.map_cons,List.map_nil]
theorem c6o{x:Nat}(h:x<256):IntKind.u8.wrap (x:Int)=(x:Int):=a8k (by omega) (by omega)
theorem a7a{x:Nat}(h:x<18446744073709551616):IntKind.u64.wrap (x:Int)=(x:Int):=d5i (by omega) (by omega)
theorem a2a{x:Nat}(h:x<9223372036854775808):IntKind.i64.wrap (x:Int)=(x:Int):=a0j (by omega) (by omega)
theorem c2s(x:Int):IntKind.u8.wrap x=x % 256:=by
 simp only[IntKind.wrap,IntKind.bits,IntKind.signed];simp
theorem a3c(x:Int):IntKind.u64.wrap x=x % 18446744073709551616:=by
 simp only[IntKind.wrap,IntKind.bits,IntKind.signed];simp
theorem a6b(w x:Nat)(h:x<2 ^ w):(BitVec.ofInt w (x:Int)).toNat=x:=by
 simp[BitVec.toNat_ofInt]
 exact_mod_cast Nat.mod_eq_of_lt h
theorem d5b{x y:Nat}(hx:x<256)(hy:y<256):bits .or .u8 (x:Int) (y:Int)=((x ||| y:Nat):Int):=by
 have e1:=a6b 8 x (by omega)
 have e2:=a6b 8 y (by omega)
 have h:x ||| y<2 ^ 8:=Nat.or_lt_two_pow (by omega) (by omega)
 show IntKind.u8.wrap (((BitVec.ofInt 8 (x:Int)) ||| (BitVec.ofInt 8 (y:Int))).toNat:Int)=_
 rw[BitVec.toNat_or,e1,e2]
 exact c6o (by omega)
theorem c2b{x y:Nat}(hx:x<256)(hy:y<256):bits .and .u8 (x:Int) (y:Int)=((x &&& y:Nat):Int):=by
 have e1:=a6b 8 x (by omega)
 have e2:=a6b 8 y (by omega)
 have h:x &&& y≤x:=Nat.and_le_left
 show IntKind.u8.wrap (((BitVec.ofInt 8 (x:Int)) &&& (BitVec.ofInt 8 (y:Int))).toNat:Int)=_
 rw[BitVec.toNat_and,e1,e2]
 exact c6o (by omega)
theorem d0f{x y:Nat}(hx:x<18446744073709551616)(hy:y<18446744073709551616):bits .or .u64 (x:Int) (y:Int)=((x ||| y:Nat):Int):=by
 have e1:=a6b 64 x (by omega)
 have e2:=a6b 64 y (by omega)
 have h:x ||| y<2 ^ 64:=Nat.or_lt_two_pow (by omega) (by omega)
 show IntKind.u64.wrap (((BitVec.ofInt 64 (x:Int)) ||| (BitVec.ofInt 64 (y:Int))).toNat:Int)=_
 rw[BitVec.toNat_or,e1,e2]
 exact a7a (by omega)
theorem d3n{x y:Nat}(hx:x<18446744073709551616)(hy:y<18446744073709551616):bits .and .u64 (x:Int) (y:Int)=((x &&& y:Nat):Int):=by
 have e1:=a6b 64 x (by omega)
 have e2:=a6b 64 y (by omega)
 have h:x &&& y≤x:=Nat.and_le_left
 show IntKind.u64.wrap (((BitVec.ofInt 64 (x:Int)) &&& (BitVec.ofInt 64 (y:Int))).toNat:Int)=_
 rw[BitVec.toNat_and,e1,e2]
 exact a7a (by omega)
theorem e9b{x y:Nat}(hx:x<18446744073709551616)(hy:y<18446744073709551616):bits .xor .u64 (x:Int) (y:Int)=((x ^^^ y:Nat):Int):=by
 have e1:=a6b 64 x (by omega)
 have e2:=a6b 64 y (by omega)
 have h:x ^^^ y<2 ^ 64:=Nat.xor_lt_two_pow (by omega) (by omega)
 show IntKind.u64.wrap (((BitVec.ofInt 64 (x:Int)) ^^^ (BitVec.ofInt 64 (y:Int))).toNat:Int)=_
 rw[BitVec.toNat_xor,e1,e2]
 exact a7a (by omega)
theorem c7n(x k:Nat):((x:Int)).fdiv (k:Int)=((x / k:Nat):Int):=by
 rw[Int.fdiv_eq_ediv_of_nonneg _ (by omega)]
 exact(Int.natCast_ediv x k).symm
theorem b2b(x k:Nat):((x:Int)).tdiv (k:Int)=((x / k:Nat):Int):=by
 rw[Int.tdiv_eq_ediv_of_nonneg (by omega)]
 exact(Int.natCast_ediv x k).symm
theorem c1y(x k:Nat):((x:Int)).tmod (k:Int)=((x % k:Nat):Int):=by
 rw[Int.tmod_eq_emod_of_nonneg (by omega)]
 exact(Int.natCast_emod x k).symm
theorem c5g(v k:Nat)(hk:k≤64):((v:Int)).fdiv (2 ^ min ((k:Int)).toNat IntKind.u64.bits)=((v / 2 ^ k:Nat):Int):=by
 have:(2 ^ min ((k:Int)).toNat IntKind.u64.bits:Int)=((2 ^ k:Nat):Int):=by
  rw[Int.toNat_natCast,show IntKind.u64.bits=64 from rfl,Nat.min_eq_left hk]
  push_cast;rfl
 rw[this,c7n]
theorem f8x(v k:Nat)(hk:k≤8):((v:Int)).fdiv (2 ^ min ((k:Int)).toNat IntKind.u8.bits)=((v / 2 ^ k:Nat):Int):=by
 have:(2 ^ min ((k:Int)).toNat IntKind.u8.bits:Int)=((2 ^ k:Nat):Int):=by
  rw[Int.toNat_natCast,show IntKind.u8.bits=8 from rfl,Nat.min_eq_left hk]
  push_cast;rfl
 rw[this,c7n]
theorem d5u(v k w:Nat)(hk:k≤w):(v:Int)*2 ^ min ((k:Int)).toNat w=((v*2 ^ k:Nat):Int):=by
 rw[Int.toNat_natCast,Nat.min_eq_left hk]
 push_cast;rfl
set_option maxRecDepth 100000 in
theorem g6w{x:Nat}(h:x<256):x ||| 128=x % 128+128:=(by decide:∀x:Fin 256,x.1 ||| 128=x.1 % 128+128) ⟨x,h⟩
set_option maxRecDepth 100000 in
theorem g5h{x:Nat}(h:x<256):x &&& 128=if x<128 then 0 else 128:=(by decide:∀x:Fin 256,x.1 &&& 128=if x.1<128 then 0 else 128) ⟨x,h⟩
set_option maxRecDepth 100000 in
theorem g4r{x:Nat}(h:x<256):x &&& 127=x % 128:=(by decide:∀x:Fin 256,x.1 &&& 127=x.1 % 128) ⟨x,h⟩
def putN(v:Nat):List Int :=
 if v<128 then[(v:Int)] else((v % 128+128:Nat):Int)::putN (v / 128)
termination_by v
decreasing_by omega
theorem a6z{v:Nat}(h:v<128):putN v=[(v:Int)]:=by
 rw[putN];simp[h]
theorem b2d{v:Nat}(h:128≤v):putN v=((v % 128+128:Nat):Int)::putN (v / 128):=by
 conv=>lhs;rw[putN]
 rw[if_neg (by omega)]
theorem g3b(v:Nat):putN v≠[]:=by
 rw[putN];split <;> simp
theorem c3h(v:Nat):1≤(putN v).length:=by
 have:=g3b v
 cases h:putN v with
 |nil=>exact absurd h this
 |cons=>simp
theorem f3v:∀(k v:Nat),v<128 ^ (k+1)→(putN v).length≤k+1
 |0,v,h=>by rw[a6z (by omega)];simp
 |k+1,v,h=>by
  by_cases hv:v<128
  ·rw[a6z hv];simp
  ·rw[b2d (by omega)]
   have:=f3v k (v / 128) (by rw[Nat.pow_succ] at h;omega)
   simp;omega
theorem a5z{v:Nat}(h:v<18446744073709551616):(putN v).length≤10:=f3v 9 v (by omega)
theorem c3z:∀(v:Nat) (b:Int),b∈putN v→0≤b∧b≤255:=by
 intro v
 induction v using Nat.strongRecOn with
 |ind v ih =>
  intro b hb
  by_cases h:v<128
  ·rw[a6z h] at hb
   simp at hb;subst hb;omega
  ·rw[b2d (by omega)] at hb
   rcases List.mem_cons.1 hb with rfl|hb
   ·omega
   ·exact ih (v / 128) (by omega) b hb
theorem b2z:∀(v v':Nat) (s s':List Int),putN v++s=putN v'++s'→v=v'∧s=s':=by
 intro v
 induction v using Nat.strongRecOn with
 |ind v ih =>
  intro v' s s' h
  by_cases h1:v<128
  ·by_cases h2:v'<128
   ·rw[a6z h1,a6z h2] at h
    simp at h
    exact⟨by omega,h.2⟩
   ·rw[a6z h1,b2d (by omega)] at h
    simp at h
    omega
  ·by_cases h2:v'<128
   ·rw[a6z h2,b2d (by omega)] at h
    simp at h
    omega
   ·rw[b2d (by omega),b2d (v:=v') (by omega)] at h
    simp only[List.cons_append,List.cons.injEq] at h
    obtain⟨h3,h4⟩:=ih (v / 128) (by omega) (v' / 128) s s' h.2
    exact⟨by omega,h4⟩
def a5a:List Int→Option (Nat×Nat)
 |[]=>none
 |b::l =>
  if b<128 then some (b.toNat,1)
  else match a5a l with
   |some (v,n)=>if v=0∨18446744073709551616≤b.toNat - 128+128*v then none else some (b.toNat - 128+128*v,n+1)
   |none=>none
theorem a9n:∀(v:Nat) (s:List Int),v<18446744073709551616→a5a (putN v++s)=some (v,(putN v).length):=by
 intro v
 induction v using Nat.strongRecOn with
 |ind v ih =>
  intro s hv
  by_cases h:v<128
  ·rw[a6z h]
   simp only[List.cons_append,List.nil_append,a5a]
   rw[if_pos (by omega)]
   simp
  ·rw[b2d (by omega)]
   simp only[List.cons_append,a5a]
   rw[if_neg (by omega),ih (v / 128) (by omega) s (by omega)]
   have e:((v % 128+128:Nat):Int).toNat - 128+128*(v / 128)=v:=by omega
   simp only[e]
   rw[if_neg (by omega)]
   simp
theorem a4q:∀{b:List Int} {v n:Nat},(∀x,x∈b→0≤x∧x≤255)→a5a b=some (v,n)→v<18446744073709551616∧n≤b.length∧b.take n=putN v
 |[],v,n,_,h=>by simp[a5a] at h
 |b::l,v,n,hb,h=>by
  have h0:=hb b (by simp)
  unfold a5a at h
  split at h
  ·simp at h
   obtain⟨rfl,rfl⟩:=h
   refine⟨by omega,by simp,?_⟩
   rw[a6z (by omega)]
   simp;omega
  ·split at h
   ·rename_i v' n' he
    split at h
    ·cases h
    ·rename_i hne
     simp at h
     obtain⟨rfl,rfl⟩:=h
     obtain⟨h1,h2,h3⟩:=a4q (fun x hx=>hb x (List.mem_cons_of_mem _ hx)) he
     refine⟨by omega,by simp;omega,?_⟩
     rw[b2d (by omega),List.take_succ_cons,h3]
     have e1:(b.toNat - 128+128*v') % 128=b.toNat - 128:=by omega
     have e2:(b.toNat - 128+128*v') / 128=v':=by omega
     rw[e1,e2]
     congr 1
     omega
   ·cases h
theorem c1q{b:List Int}{v n:Nat}(hb:∀x,x∈b→0≤x∧x≤255)(h:a5a b=some (v,n)):n=(putN v).length∧b=putN v++b.drop n:=by
 obtain⟨h1,h2,h3⟩:=a4q hb h
 refine⟨?_,?_⟩
 ·rw[←h3];simp[h2]
 ·rw[←h3];simp
theorem d8w{x:Nat}(h:x<18446744073709551616):bits .xor .u64 (x:Int) 0=(x:Int):=by
 have:=e9b h (show 0<18446744073709551616 by omega)
 simpa using this
theorem e1f{x:Nat}(h:x<18446744073709551616):bits .xor .u64 (x:Int) 18446744073709551615=((18446744073709551615 - x:Nat):Int):=by
 show IntKind.u64.wrap (((BitVec.ofInt 64 (x:Int)) ^^^ (BitVec.ofInt 64 (18446744073709551615:Int))).toNat:Int)=_
 rw[show BitVec.ofInt 64 (18446744073709551615:Int)=BitVec.allOnes 64 by decide,BitVec.xor_allOnes,BitVec.toNat_not,a6b 64 x (by omega)]
 exact a7a (by omega)
theorem e0m{x:Nat}(h:x<9223372036854775808):bits .xor .i64 (x:Int) 0=(x:Int):=by
 show IntKind.i64.wrap (((BitVec.ofInt 64 (x:Int)) ^^^ (BitVec.ofInt 64 (0:Int))).toNat:Int)=_
 rw[show BitVec.ofInt 64 (0:Int)=0#64 by decide,BitVec.xor_zero,a6b 64 x (by omega)]
 exact a2a h
theorem e1d{x:Nat}(h:x<9223372036854775808):bits .xor .i64 (x:Int) (-1)=-(x:Int) - 1:=by
 show IntKind.i64.wrap (((BitVec.ofInt 64 (x:Int)) ^^^ (BitVec.ofInt 64 (-1:Int))).toNat:Int)=_
 rw[show BitVec.ofInt 64 (-1:Int)=BitVec.allOnes 64 by decide,BitVec.xor_allOnes,BitVec.toNat_not,a6b 64 x (by omega)]
 simp only[IntKind.wrap,IntKind.bits,IntKind.signed,if_true]
 simp
 split <;> omega
def zig(v:Int):Nat:=if 0≤v then 2*v.toNat else 2*(-(v+1)).toNat+1
def zag(u:Nat):Int:=if u % 2=0 then(u / 2:Nat) else -((u / 2:Nat):Int) - 1
theorem f6e{v:Int}(h1:-9223372036854775808≤v)(h2:v≤9223372036854775807) :
  bits .xor .u64 (IntKind.u64.wrap ((IntKind.u64.wrap v)*2 ^ min (1:Int).toNat IntKind.u64.bits)) (IntKind.u64.wrap (v.fdiv (2 ^ min (63:Int).toNat IntKind.i64.bits)))=((zig v:Nat):Int):=by
 have e1:(2 ^ min (1:Int).toNat IntKind.u64.bits:Int)=2:=by decide
 have e2:(2 ^ min (63:Int).toNat IntKind.i64.bits:Int)=9223372036854775808:=by decide
 rw[e1,e2,a3c,a3c,a3c,Int.fdiv_eq_ediv_of_nonneg _ (by omega)]
 unfold zig
 by_cases h:0≤v
 ·rw[if_pos h,show v / 9223372036854775808 % 18446744073709551616=0 by omega,show v % 18446744073709551616*2 % 18446744073709551616=((2*v.toNat:Nat):Int) by omega]
  exact d8w (by omega)
 ·rw[if_neg h,show v / 9223372036854775808 % 18446744073709551616=18446744073709551615 by omega,show v % 18446744073709551616*2 % 18446744073709551616=((18446744073709551616 - 2*(-v).toNat:Nat):Int) by omega]
  rw[e1f (by omega)]
  omega
theorem f7u{u:Nat}(h:u<18446744073709551616) :
  bits .xor .i64 (IntKind.i64.wrap ((u:Int).fdiv (2 ^ min (1:Int).toNat IntKind.u64.bits))) (IntKind.i64.wrap (0 - (IntKind.i64.wrap (bits .and .u64 (u:Int) (1:Int)))))=zag u:=by
 have e1:(2 ^ min (1:Int).toNat IntKind.u64.bits:Int)=((2:Nat):Int):=by decide
 have e3:bits .and .u64 (u:Int) (1:Int)=((u % 2:Nat):Int):=by
  have:=d3n h (show 1<18446744073709551616 by omega)
  rw[Nat.and_one_is_mod] at this
  exact this
 rw[e1,c7n,a2a (by omega),e3,a2a (x:=u % 2) (by omega)]
 unfold zag
 by_cases h0:u % 2=0
 ·rw[if_pos h0,h0,show(0:Int) - ((0:Nat):Int)=((0:Nat):Int) by omega,a2a (by omega)]
  exact e0m (by omega)
 ·rw[if_neg h0,show u % 2=1 by omega,show(0:Int) - ((1:Nat):Int)=-1 by omega,a0j (by omega) (by omega)]
  exact e1d (by omega)
theorem c1o(v:Int):zag (zig v)=v:=by
 unfold zag zig
 split <;> split <;> omega
theorem b7a{v:Int}(h1:-9223372036854775808≤v)(h2:v≤9223372036854775807):zig v<18446744073709551616:=by
 unfold zig;split <;> omega
theorem f3e{u:Nat}(h:u<18446744073709551616):-9223372036854775808≤zag u∧zag u≤9223372036854775807:=by
 unfold zag;split <;> omega
end Go.Rb

namespace Go.Rb
def a8t(bit:Nat→Nat)(s:Nat):Nat→Nat
 |0=>0
 |c+1=>a8t bit s c+bit (s+c)*2 ^ c
variable {bit bit':Nat→Nat}
theorem c0a(hb:∀p,bit p≤1)(s:Nat):∀c,a8t bit s c<2 ^ c
 |0=>by simp[a8t]
 |c+1=>by
  have h1:=c0a hb s c
  have h2:bit (s+c)*2 ^ c≤1*2 ^ c:=Nat.mul_le_mul_right _ (hb _)
  rw[a8t,Nat.pow_succ];omega
theorem e2d{s c:Nat}(h:∀p,s≤p→p<s+c→bit p=bit' p):a8t bit s c=a8t bit' s c:=by
 induction c with
 |zero=>rfl
 |succ c ih=>rw[a8t,a8t,ih fun p h1 h2=>h p h1 (by omega),h (s+c) (by omega) (by omega)]
theorem c9m(bit:Nat→Nat)(s:Nat):∀c,a8t bit s (c+1)=bit s+2*a8t bit (s+1) c
 |0=>by simp[a8t]
 |c+1=>by
  rw[a8t,c9m bit s c,a8t,show s+(c+1)=s+1+c by omega,Nat.pow_succ]
  generalize bit (s+1+c)=x
  generalize a8t bit (s+1) c=y
  rw[Nat.mul_add,←Nat.mul_assoc,Nat.mul_comm (x*2 ^ c) 2,←Nat.mul_assoc];omega
theorem d9m(hb:∀p,bit p≤1):∀(c s t:Nat),a8t bit s c / 2 ^ t % 2=if t<c then bit (s+t) else 0
 |0,s,t=>by simp[a8t]
 |c+1,s,0=>by
  have:=hb s
  rw[c9m]
  simp;omega
 |c+1,s,t+1=>by
  have:=hb s
  have ih:=d9m hb c (s+1) t
  rw[c9m,Nat.pow_succ,Nat.mul_comm (2 ^ t) 2,←Nat.div_div_eq_div_mul,show(bit s+2*a8t bit (s+1) c) / 2=a8t bit (s+1) c by omega,ih]
  by_cases h:t<c
  ·rw[if_pos h,if_pos (by omega),show s+1+t=s+(t+1) by omega]
  ·rw[if_neg h,if_neg (by omega)]
theorem e6k(v s:Nat):∀w,a8t (fun p=>v / 2 ^ (p - s) % 2) s w=v % 2 ^ w
 |0=>by simp[a8t,Nat.mod_one]
 |w+1=>by
  rw[a8t,e6k v s w,show s+w - s=w by omega,Nat.pow_succ,Nat.mod_mul]
  rw[Nat.mul_comm]
def b3i(bit:Nat→Nat)(p j:Nat):Nat:=a8t bit (8*j) (min 8 (p - 8*j))
theorem c8b(hb:∀p,bit p≤1)(p j:Nat):b3i bit p j<256:=by
 have h1:=c0a hb (8*j) (min 8 (p - 8*j))
 have h2:2 ^ (min 8 (p - 8*j))≤2 ^ 8:=Nat.pow_le_pow_right (by omega) (Nat.min_le_left _ _)
 unfold b3i;omega
theorem d8p{p j:Nat}(h:p / 8≠j):b3i bit (p+1) j=b3i bit p j:=by
 unfold b3i
 congr 1
 omega
theorem e4a{p:Nat}:b3i bit (p+1) (p / 8)=b3i bit p (p / 8)+bit p*2 ^ (p % 8):=by
 unfold b3i
 rw[show min 8 (p+1 - 8*(p / 8))=p % 8+1 by omega,show min 8 (p - 8*(p / 8))=p % 8 by omega,a8t]
 rw[show 8*(p / 8)+p % 8=p by omega]
theorem c5q(hb:∀p,bit p≤1)(p:Nat):b3i bit p (p / 8)<2 ^ (p % 8):=by
 unfold b3i
 rw[show min 8 (p - 8*(p / 8))=p % 8 by omega]
 exact c0a hb _ _
theorem e5j{a b k:Nat}(h:a<2 ^ k):a ||| b*2 ^ k=a+b*2 ^ k:=by
 rw[Nat.mul_comm b,Nat.or_comm,Nat.add_comm]
 exact(Nat.two_pow_add_eq_or_of_lt h b).symm
def a7b(bit:Nat→Nat)(m p:Nat):List Int:=(List.range m).map fun j=>((b3i bit p j:Nat):Int)
theorem b0r(m p:Nat):(a7b bit m p).length=m:=by simp[a7b]
theorem b5q{m p j:Nat}(h:j<m):(a7b bit m p).getD j 0=((b3i bit p j:Nat):Int):=by
 rw[a0h (by simpa[a7b] using h)]
 simp[a7b]
theorem c5z(m:Nat):a7b bit m 0=List.replicate m 0:=by
 unfold a7b
 apply List.ext_getElem
 ·simp
 ·intro i h1 h2
  simp[b3i,a8t]
theorem c5y{m p:Nat}(h:p / 8<m):(a7b bit m p).set (p / 8) (((b3i bit p (p / 8)+bit p*2 ^ (p % 8):Nat):Int))=a7b bit m (p+1):=by
 apply List.ext_getElem
 ·simp[a7b]
 ·intro i h1 h2
  rw[List.getElem_set]
  simp only[a7b,List.getElem_map,List.getElem_range]
  by_cases hi:p / 8=i
  ·subst hi
   rw[if_pos rfl,e4a]
  ·rw[if_neg hi,d8p hi]
theorem c0h(hb:∀p,bit p≤1){m p:Nat}:∀x,x∈a7b bit m p→0≤x∧x≤255:=by
 intro x hx
 simp only[a7b,List.mem_map] at hx
 obtain⟨j,_,rfl⟩:=hx
 have:=c8b hb p j
 omega
def bitB(b:List Int)(p:Nat):Nat:=(b.getD (p / 8) 0).toNat / 2 ^ (p % 8) % 2
theorem e3y(b:List Int)(p:Nat):bitB b p≤1:=by unfold bitB;omega
theorem c6k(hb:∀p,bit p≤1){m P p:Nat}(h:p<P)(hm:p / 8<m):bitB (a7b bit m P) p=bit p:=by
 unfold bitB
 rw[b5q hm,Int.toNat_natCast]
 unfold b3i
 rw[d9m hb,if_pos (by omega),show 8*(p / 8)+p % 8=p by omega]
def bitL(l:List Int)(w p:Nat):Nat:=(l.getD (p / w) 0).toNat / 2 ^ (p % w) % 2
theorem b7r(l:List Int)(w p:Nat):bitL l w p≤1:=by unfold bitL;omega
def b1k(l:List Int)(w:Nat):List Int:=a7b (bitL l w) ((l.length*w+7) / 8) (l.length*w)
theorem a6s(l:List Int)(w:Nat):(b1k l w).length=(l.length*w+7) / 8:=b0r _ _
def c0m(b:List Int)(n w:Nat):List Int:=(List.range n).map fun i=>((a8t (bitB b) (i*w) w:Nat):Int)
theorem c2g(b:List Int)(n w:Nat):(c0m b n w).length=n:=by simp[c0m]
theorem mul_add_div{i w t:Nat}(h:t<w):(i*w+t) / w=i:=by
 rw[Nat.mul_comm,Nat.mul_add_div (by omega),Nat.div_eq_of_lt h];rfl
theorem mul_add_mod{i w t:Nat}(h:t<w):(i*w+t) % w=t:=by
 rw[Nat.mul_comm,Nat.mul_add_mod,Nat.mod_eq_of_lt h]
theorem b6g{l:List Int}{w:Nat}(hl:∀x,x∈l→0≤x∧x.toNat<2 ^ w):c0m (b1k l w) l.length w=l:=by
 apply List.ext_getElem
 ·simp[c0m]
 ·intro i h1 h2
  simp only[c0m,List.getElem_map,List.getElem_range]
  have hx:=hl _ (List.getElem_mem h2)
  have key:a8t (bitB (b1k l w)) (i*w) w=a8t (fun p=>l[i].toNat / 2 ^ (p - i*w) % 2) (i*w) w:=by
   refine e2d fun p q1 q2=>?_
   obtain⟨t,rfl⟩:∃t,p=i*w+t:=⟨p - i*w,by omega⟩
   have ht:t<w:=by omega
   have hle:i*w+w≤l.length*w:=by
    have:=Nat.mul_le_mul_right w (show i+1≤l.length from h2)
    rwa [Nat.add_mul,Nat.one_mul] at this
   unfold b1k
   rw[c6k (b7r l w) (by omega) (by omega)]
   unfold bitL
   rw[mul_add_div ht,mul_add_mod ht,a0h h2,show i*w+t - i*w=t by omega]
  rw[key,e6k,Nat.mod_eq_of_lt hx.2]
  omega
theorem c9u{l l':List Int}{w:Nat}(hlen:l.length=l'.length)(hl:∀x,x∈l→0≤x∧x.toNat<2 ^ w)(hl':∀x,x∈l'→0≤x∧x.toNat<2 ^ w)(h:b1k l w=b1k l' w):l=l':=by
 rw[←b6g hl,←b6g hl',h,hlen]
def e1a(i V:Nat):Option (Nat×Nat)→Option (Nat×Nat)
 |some (v,k)=>if(i=0∨v≠0)∧V+2 ^ (7*i)*v<18446744073709551616 then some (V+2 ^ (7*i)*v,i+k) else none
 |none=>none
theorem b2e(i V v k:Nat):e1a i V (some (v,k))=if(i=0∨v≠0)∧V+2 ^ (7*i)*v<18446744073709551616 then some (V+2 ^ (7*i)*v,i+k) else none:=rfl
theorem e8z(i V:Nat):e1a i V none=none:=rfl
theorem d2q(b:Int)(l:List Int):a5a (b::l)=if b<128 then some (b.toNat,1) else match a5a l with
  |some (v,n)=>if v=0∨18446744073709551616≤b.toNat - 128+128*v then none else some (b.toNat - 128+128*v,n+1)
  |none=>none:=rfl
theorem pow7(i:Nat):2 ^ (7*(i+1))=128*2 ^ (7*i):=by
 rw[Nat.mul_add,Nat.pow_add];omega
theorem e9i{b:List Int}(hb:∀x,x∈b→0≤x∧x≤255):e1a 0 0 (a5a b)=a5a b:=by
 cases h:a5a b with
 |none=>rfl
 |some r =>
  obtain⟨v,k⟩:=r
  have:=(a4q hb h).1
  rw[b2e,if_pos (by simp;omega)]
  simp
theorem f0g{b:List Int}{i V:Nat}(hi:i<b.length)(hc:128≤b[i]):e1a i V (a5a (b.drop i))=e1a (i+1) (V+(b[i].toNat - 128)*2 ^ (7*i)) (a5a (b.drop (i+1))):=by
 rw[List.drop_eq_getElem_cons hi,d2q,if_neg (by omega)]
 cases a5a (b.drop (i+1)) with
 |none=>rfl
 |some r =>
  obtain⟨v,k⟩:=r
  dsimp only
  have e:V+2 ^ (7*i)*(b[i].toNat - 128+128*v)=V+(b[i].toNat - 128)*2 ^ (7*i)+2 ^ (7*(i+1))*v:=by
   rw[pow7,Nat.mul_add,Nat.mul_comm (2 ^ (7*i)) (b[i].toNat - 128),Nat.add_assoc]
   congr 2
   rw[←Nat.mul_assoc,Nat.mul_comm (2 ^ (7*i)) 128]
  have hle:b[i].toNat - 128+128*v≤V+2 ^ (7*i)*(b[i].toNat - 128+128*v):=by
   have h1:1≤2 ^ (7*i):=Nat.pow_pos (by omega)
   have h2:=Nat.mul_le_mul_right (b[i].toNat - 128+128*v) h1
   omega
  by_cases h0:v=0∨18446744073709551616≤b[i].toNat - 128+128*v
  ·rw[if_pos h0,e8z,b2e,if_neg]
   rintro⟨q1,q2⟩
   rw[←e] at q2
   omega
  ·rw[if_neg h0,b2e,b2e,←e]
   by_cases h1:V+2 ^ (7*i)*(b[i].toNat - 128+128*v)<18446744073709551616
   ·rw[if_pos ⟨by omega,h1⟩,if_pos ⟨by omega,h1⟩]
    congr 2;omega
   ·rw[if_neg (fun q=>h1 q.2),if_neg (fun q=>h1 q.2)]
theorem f0e{b:List Int}{i V:Nat}(hi:i<b.length)(hc:b[i]<128)(h0:0≤b[i]):e1a i V (a5a (b.drop i))=if(i=0∨b[i]≠0)∧V+b[i].toNat*2 ^ (7*i)<18446744073709551616 then some (V+b[i].toNat*2 ^ (7*i),i+1) else none:=by
 rw[List.drop_eq_getElem_cons hi,d2q,if_pos (by omega),b2e]
 rw[Nat.mul_comm (2 ^ (7*i))]
 have:b[i].toNat≠0↔b[i]≠0:=by omega
 simp only[this]
theorem c9d{V:Nat}{r:Option (Nat×Nat)}:e1a 10 V r=none:=by
 cases r with
 |none=>rfl
 |some r =>
  obtain⟨v,k⟩:=r
  rw[b2e,if_neg]
  rintro⟨h1,h2⟩
  have:2 ^ (7*10)*1≤2 ^ (7*10)*v:=Nat.mul_le_mul_left _ (by omega)
  omega
def blen(v:Nat):Nat:=if v=0 then 0 else blen (v / 2)+1
termination_by v
decreasing_by omega
theorem d7u:blen 0=0:=by rw[blen];simp
theorem d3z{v:Nat}(h:0<v):blen v=blen (v / 2)+1:=by
 conv=>lhs;rw[blen]
 rw[if_neg (by omega)]
theorem b0s:∀(w v:Nat),blen v≤w↔v<2 ^ w
 |0,v=>by
  by_cases h:v=0
  ·subst h;simp[d7u]
  ·rw[d3z (by omega)];simp;omega
 |w+1,v=>by
  by_cases h:v=0
  ·subst h;simp[d7u,Nat.pow_pos]
  ·rw[d3z (by omega)]
   have:=b0s w (v / 2)
   rw[Nat.pow_succ];omega
theorem c0i:∀(k v:Nat),2 ^ k≤v→blen v=blen (v / 2 ^ k)+k
 |0,v,_=>by simp
 |k+1,v,h=>by
  rw[Nat.pow_succ] at h
  have hp:=Nat.pow_pos (n:=k) (show 0<2 by omega)
  rw[d3z (by omega),c0i k (v / 2) (by omega),Nat.div_div_eq_div_mul,Nat.pow_succ,Nat.mul_comm 2]
  omega
def a5j(l:List Int):Nat:=l.foldl (fun w x=>max w (blen x.toNat)) 0
theorem c3p{l:List Int}{w:Nat}:a5j l≤w↔∀x,x∈l→x.toNat<2 ^ w:=by
 have key:∀(l:List Int) (a:Nat),l.foldl (fun w x=>max w (blen x.toNat)) a≤w↔a≤w∧∀x,x∈l→x.toNat<2 ^ w:=by
  intro l
  induction l with
  |nil=>intro a;simp
  |cons y l ih =>
   intro a
   rw[List.foldl_cons,ih,Nat.max_le,b0s]
   simp[and_assoc]
 have:=key l 0
 unfold a5j
 rw[this];simp
end Go.Rb

namespace Go.Rb
set_option linter.unusedSectionVars false
variable {α:Type} [DecidableEq α]
structure LinO (lt:α→α→Bool) (S:α→Prop):Prop where
 irrefl:∀x,S x→lt x x=false
 trans:∀x y z,S x→S y→S z→lt x y=true→lt y z=true→lt x z=true
 total:∀x y,S x→S y→lt x y=true∨x=y∨lt y x=true
variable {lt:α→α→Bool} {S:α→Prop}
theorem LinO.asymm(h:LinO lt S){x y:α}(hx:S x)(hy:S y)(h1:lt x y=true):lt y x=false:=by
 cases h2:lt y x with
 |false=>rfl
 |true=>have:=h.trans x y x hx hy hx h1 h2;rw[h.irrefl x hx] at this;cases this
def b1u(lt:α→α→Bool)(l:List α):Prop:=l.Pairwise fun x y=>lt x y=true
def insS(lt:α→α→Bool)(v:α):List α→List α
 |[]=>[v]
 |x::l=>if lt x v=true then x::insS lt v l else if lt v x=true then v::x::l else x::l
def e2u(lt:α→α→Bool)(l:List α):List α:=l.foldl (fun d v=>insS lt v d) []
theorem c7h(h:LinO lt S){v:α}(hv:S v):∀{l:List α},(∀x,x∈l→S x)→∀x,x∈insS lt v l↔x=v∨x∈l
 |[],_,x=>by simp[insS]
 |y::l,hl,x=>by
  have hy:=hl y (by simp)
  unfold insS
  split
  ·rw[List.mem_cons,c7h h hv (fun x hx=>hl x (List.mem_cons_of_mem _ hx)),List.mem_cons]
   exact or_left_comm
  ·split
   ·simp
   ·rename_i h1 h2
    rcases h.total y v hy hv with h3|h3|h3
    ·exact absurd h3 h1
    ·subst h3;simp
    ·exact absurd h3 h2
theorem c9b(h:LinO lt S){v:α}(hv:S v):∀{l:List α},(∀x,x∈l→S x)→b1u lt l→b1u lt (insS lt v l)
 |[],_,_=>by simp[insS,b1u]
 |y::l,hl,hr=>by
  have hy:=hl y (by simp)
  have hl':=fun x hx=>hl x (List.mem_cons_of_mem _ hx)
  obtain⟨h1,h2⟩:=List.pairwise_cons.1 hr
  unfold insS
  split
  ·rename_i h3
   refine List.pairwise_cons.2 ⟨fun x hx=>?_,c9b h hv hl' h2⟩
   rcases(c7h h hv hl' x).1 hx with rfl|hx
   ·exact h3
   ·exact h1 x hx
  ·split
   ·rename_i h3 h4
    refine List.pairwise_cons.2 ⟨fun x hx=>?_,hr⟩
    rcases List.mem_cons.1 hx with rfl|hx
    ·exact h4
    ·exact h.trans v y x hv hy (hl' x hx) h4 (h1 x hx)
   ·exact hr
theorem d5w(h:LinO lt S):∀(l d:List α),(∀x,x∈l→S x)→(∀x,x∈d→S x)→b1u lt d→(∀x,x∈l.foldl (fun d v=>insS lt v d) d↔x∈l∨x∈d)∧b1u lt (l.foldl (fun d v=>insS lt v d) d)
 |[],d,_,_,hr=>⟨by simp,hr⟩
 |v::l,d,hl,hd,hr=>by
  have hv:=hl v (by simp)
  have hd':∀x,x∈insS lt v d→S x:=fun x hx=>by
   rcases(c7h h hv hd x).1 hx with rfl|hx
   ·exact hv
   ·exact hd x hx
  obtain⟨h1,h2⟩:=d5w h l (insS lt v d) (fun x hx=>hl x (List.mem_cons_of_mem _ hx)) hd' (c9b h hv hd hr)
  refine⟨fun x=>?_,h2⟩
  rw[List.foldl_cons,h1 x,c7h h hv hd,List.mem_cons]
  constructor
  ·rintro(h|h|h)
   ·exact .inl (.inr h)
   ·exact .inl (.inl h)
   ·exact .inr h
  ·rintro((h|h)|h)
   ·exact .inr (.inl h)
   ·exact .inl h
   ·exact .inr (.inr h)
theorem b6o(h:LinO lt S){l:List α}(hl:∀x,x∈l→S x)(x:α):x∈e2u lt l↔x∈l:=by
 have:=(d5w h l [] hl (by simp) (by simp[b1u])).1 x
 unfold e2u
 simpa using this
theorem d0g(h:LinO lt S){l:List α}(hl:∀x,x∈l→S x):b1u lt (e2u lt l):=(d5w h l [] hl (by simp) (by simp[b1u])).2
theorem c8c(h:LinO lt S):∀{l l':List α},(∀x,x∈l→S x)→b1u lt l→b1u lt l'→(∀x,x∈l↔x∈l')→l=l'
 |[],[],_,_,_,_=>rfl
 |[],y::l',_,_,_,hm=>absurd ((hm y).2 (by simp)) (by simp)
 |x::l,[],_,_,_,hm=>absurd ((hm x).1 (by simp)) (by simp)
 |x::l,y::l',hl,hr,hr',hm=>by
  obtain⟨a1,a2⟩:=List.pairwise_cons.1 hr
  obtain⟨b1,b2⟩:=List.pairwise_cons.1 hr'
  have hx:=hl x (by simp)
  have hy:=hl y ((hm y).2 (by simp))
  have hxy:x=y:=by
   rcases List.mem_cons.1 ((hm x).1 (by simp)) with h1|h1
   ·exact h1
   ·rcases List.mem_cons.1 ((hm y).2 (by simp)) with h2|h2
    ·exact h2.symm
    ·have:=h.asymm hx hy (a1 y h2)
     rw[b1 x h1] at this;cases this
  subst hxy
  congr 1
  refine c8c h (fun z hz=>hl z (List.mem_cons_of_mem _ hz)) a2 b2 fun z=>⟨fun hz=>?_,fun hz=>?_⟩
  ·rcases List.mem_cons.1 ((hm z).1 (List.mem_cons_of_mem _ hz)) with rfl|h2
   ·have:=a1 z hz;rw[h.irrefl z hx] at this;cases this
   ·exact h2
  ·rcases List.mem_cons.1 ((hm z).2 (List.mem_cons_of_mem _ hz)) with rfl|h2
   ·have:=b1 z hz;rw[h.irrefl z hx] at this;cases this
   ·exact h2
def posS(d:List α)(v:α):Nat:=d.idxOf v
theorem c4x{d:List α}{v:α}(hv:v∈d):posS d v<d.length:=List.idxOf_lt_length_of_mem hv
theorem d4q{d:List α}{v:α}(hv:v∈d):d[posS d v]'(c4x hv)=v:=by
 simp[posS]
theorem f1j(h:LinO lt S){d:List α}(hl:∀x,x∈d→S x)(hr:b1u lt d){v:α}(hv:v∈d){i:Nat}(hi:i<d.length):lt d[i] v=true↔i<posS d v:=by
 have hp:=c4x hv
 have hg:=d4q hv
 rcases Nat.lt_trichotomy i (posS d v) with h1|h1|h1
 ·have:=(List.pairwise_iff_getElem.1 hr) i _ hi hp h1
  rw[hg] at this
  simp[this,h1]
 ·subst h1
  rw[hg,h.irrefl v (hl v hv)]
  simp
 ·have:=(List.pairwise_iff_getElem.1 hr) _ i hp hi h1
  rw[hg] at this
  have h2:=h.asymm (hl v hv) (hl _ (List.getElem_mem hi)) this
  rw[h2]
  simp;omega
end Go.Rb

namespace Go.Rb
open Go.Sort Go.Proofs
abbrev Vl:Type:=Int×Int×List Int×Unit
def okV(v:Vl):Prop:=(-9223372036854775808≤v.1∧v.1≤9223372036854775807)∧(-9223372036854775808≤v.2.1∧v.2.1≤9223372036854775807)∧v.2.2.1.length≤140737488355328∧∀c,c∈v.2.2.1→0≤c∧c≤255
def mayV(v:Vl):Bool :=
 (decide (v.1=0)&&decide (v.2.1=0)&&decide (v.2.2.1=[]))||(decide (v.1=1)&&decide (-32768≤v.2.1)&&decide (v.2.1≤32767)&&decide (v.2.2.1=[])) ||
 (decide (v.1=2)&&decide (v.2.2.1=[]))||(decide (v.1=3)&&(decide (v.2.1=0)||decide (v.2.1=1))&&decide (v.2.2.1=[]))||(decide (v.1=4)&&decide (v.2.1=0)&&decide (v.2.2.1.length≤20))
def a0w(t:Int)(v:Vl):Bool:=decide (v.1=t)&&mayV v
def a1z(t:Int)(l:List Vl):Bool:=decide (1≤t)&&decide (t≤4)&&l.all (a0w t)
def oneV(v:Vl):List Int:=if v.1=3 then[v.2.1] else if v.1=4 then(v.2.2.1.length:Int)::v.2.2.1 else putN (zig v.2.1)
theorem a2n{t:Int}{v:Vl}(h:a0w t v=true):v.1=t∧((t=0∧v.2.1=0∧v.2.2.1=[])∨(t=1∧-32768≤v.2.1∧v.2.1≤32767∧v.2.2.1=[])∨(t=2∧v.2.2.1=[])∨(t=3∧(v.2.1=0∨v.2.1=1)∧v.2.2.1=[])∨(t=4∧v.2.1=0∧v.2.2.1.length≤20)):=by
 unfold a0w mayV at h
 simp only[Bool.and_eq_true,Bool.or_eq_true,decide_eq_true_eq] at h
 obtain⟨rfl,h⟩:=h
 refine⟨rfl,?_⟩
 rcases h with(((h|h)|h)|h)|h
 ·exact .inl ⟨h.1.1,h.1.2,h.2⟩
 ·exact .inr (.inl ⟨h.1.1.1,h.1.1.2,h.1.2,h.2⟩)
 ·exact .inr (.inr (.inl h))
 ·exact .inr (.inr (.inr (.inl ⟨h.1.1,h.1.2,h.2⟩)))
 ·exact .inr (.inr (.inr (.inr ⟨h.1.1,h.1.2,h.2⟩)))
theorem d5q{t:Int}{v:Vl}(h:a0w t v=true)(hv:okV v):1≤(oneV v).length∧(oneV v).length≤21:=by
 obtain⟨h1,h2⟩:=a2n h
 unfold oneV
 split
 ·simp
 ·split
  ·rename_i h4
   have:v.2.2.1.length≤20:=by omega
   simp;omega
  ·have a:=c3h (zig v.2.1)
   have b:=a5z (b7a hv.2.1.1 hv.2.1.2)
   omega
theorem f2z{t:Int}{v:Vl}(h:a0w t v=true)(hv:okV v):∀b,b∈oneV v→0≤b∧b≤255:=by
 obtain⟨h1,h2⟩:=a2n h
 intro b hb
 unfold oneV at hb
 split at hb
 ·simp at hb;subst hb
  rcases h2 with h2|h2|h2|h2|h2 <;> omega
 ·split at hb
  ·rcases List.mem_cons.1 hb with rfl|hb
   ·omega
   ·exact hv.2.2.2 b hb
  ·exact c3z _ b hb
theorem c9z{t:Int}{v v':Vl}(h:a0w t v=true)(h':a0w t v'=true){s s':List Int}(e:oneV v++s=oneV v'++s'):v=v'∧s=s':=by
 obtain⟨h1,h2⟩:=a2n h
 obtain⟨h3,h4⟩:=a2n h'
 obtain⟨a,b,c,u⟩:=v
 obtain⟨a',b',c',u'⟩:=v'
 dsimp only at *
 subst h1
 unfold oneV at e
 dsimp only at e
 rw[h3] at e
 have key:(b=b'∧c=c')∧s=s'→(a,b,c,u)=(a',b',c',u')∧s=s':=by
  rintro⟨⟨rfl,rfl⟩,rfl⟩
  exact⟨by rw[h3],rfl⟩
 apply key
 split at e
 ·simp at e
  have:c=c':=by
   rcases h2 with h2|h2|h2|h2|h2 <;> rcases h4 with h4|h4|h4|h4|h4 <;> first|omega|(rw[h2.2.2,h4.2.2])
  exact⟨⟨e.1,this⟩,e.2⟩
 ·split at e
  ·simp only[List.cons_append,List.cons.injEq] at e
   have hl:c.length=c'.length:=by omega
   have:=List.append_inj e.2 hl
   have hb:b=b':=by omega
   exact⟨⟨hb,this.1⟩,this.2⟩
  ·obtain⟨e1,e2⟩:=b2z _ _ _ _ e
   have:b=b':=by rw[←c1o b,e1,c1o]
   have hc:c=c':=by
    rcases h2 with h2|h2|h2|h2|h2 <;> rcases h4 with h4|h4|h4|h4|h4 <;> first|omega|(rw[h2.2.2.2,h4.2.2.2])|(rw[h2.2.2,h4.2.2])|(rw[h2.2,h4.2])
   exact⟨⟨this,hc⟩,e2⟩
def ltV(t:Int)(x y:Vl):Bool:=if t=4 then a2f x.2.2.1 y.2.2.1 else decide (x.2.1<y.2.1)
theorem c7g{t:Int}{v v':Vl}(h:a0w t v=true)(h':a0w t v'=true)(e:if t=4 then v.2.2.1=v'.2.2.1 else v.2.1=v'.2.1):v=v':=by
 obtain⟨h1,h2⟩:=a2n h
 obtain⟨h3,h4⟩:=a2n h'
 obtain⟨a,b,c,u⟩:=v
 obtain⟨a',b',c',u'⟩:=v'
 dsimp only at *
 subst h1 h3
 by_cases h5:a'=4
 ·rw[if_pos h5] at e
  have hb:b=b':=by omega
  rw[e,hb]
 ·rw[if_neg h5] at e
  have hc:c=c':=by
   rcases h2 with h2|h2|h2|h2|h2 <;> rcases h4 with h4|h4|h4|h4|h4 <;> first|omega|(rw[h2.2.2.2,h4.2.2.2])|(rw[h2.2.2,h4.2.2])|(rw[h2.2,h4.2])
  rw[e,hc]
theorem b1s(t:Int):LinO (ltV t) (fun v=>a0w t v=true) where
 irrefl x _:=by
  unfold ltV
  split
  ·rw[a7p,c3a];simp
  ·simp
 trans x y z _ _ _ h1 h2:=by
  unfold ltV at *
  split at h1
  ·rename_i h4
   rw[if_pos h4] at h2 ⊢
   rw[a7p] at *
   simp only[decide_eq_true_eq] at *
   rcases Int.lt_or_le (cmpI x.2.2.1 z.2.2.1) 0 with h|h
   ·exact h
   ·have a:=b5f x.2.2.1 z.2.2.1
    have b:=c5d y.2.2.1 z.2.2.1 x.2.2.1 (by omega) (by omega)
    have c:=b5f x.2.2.1 y.2.2.1
    omega
  ·rename_i h4
   rw[if_neg h4] at h2 ⊢
   simp only[decide_eq_true_eq] at *
   omega
 total x y hx hy:=by
  unfold ltV
  by_cases h4:t=4
  ·simp only[if_pos h4]
   rw[a7p,a7p,b5f x.2.2.1 y.2.2.1]
   simp only[decide_eq_true_eq]
   rcases Int.lt_trichotomy (cmpI x.2.2.1 y.2.2.1) 0 with h|h|h
   ·exact .inl h
   ·exact .inr (.inl (c7g hx hy (by rw[if_pos h4];exact d4r _ _ h)))
   ·exact .inr (.inr (by omega))
  ·simp only[if_neg h4,decide_eq_true_eq]
   rcases Int.lt_trichotomy x.2.1 y.2.1 with h|h|h
   ·exact .inl h
   ·exact .inr (.inl (c7g hx hy (by rw[if_neg h4];exact h)))
   ·exact .inr (.inr h)
def cmpR(t:Int)(x y:Vl):Int:=if t=4 then cmpI x.2.2.1 y.2.2.1 else cmpZ x.2.1 y.2.1
theorem e2p{t:Int}{x y:Vl}:cmpR t x y<0↔ltV t x y=true:=by
 unfold cmpR ltV
 split
 ·rw[a7p];simp
 ·rw[g1b];simp
theorem g0y{t:Int}{x y:Vl}(hx:a0w t x=true)(hy:a0w t y=true):cmpR t x y=0↔x=y:=by
 unfold cmpR
 constructor
 ·intro h
  refine c7g hx hy ?_
  split
  ·rename_i h4;rw[if_pos h4] at h;exact d4r _ _ h
  ·rename_i h4;rw[if_neg h4] at h;exact b4m.1 h
 ·rintro rfl
  split
  ·exact c3a _
  ·exact b4m.2 rfl
theorem d7p{l:List Int}(h:∀c,c∈l→0≤c∧c≤255):d3q l=l:=by
 unfold d3q a1p toBA
 simp only[List.map_map]
 conv=>rhs;rw[←List.map_id l]
 apply List.map_congr_left
 intro c hc
 have:=h c hc
 simp only[Function.comp_apply,id,Nat.toUInt8,UInt8.toNat_ofNat']
 omega
theorem f4e{t:Int}{x y:Vl}(hx:a0w t x=true)(hy:a0w t y=true)(h1:okV x)(h2:okV y)(ht:t≠0):cfV x y=cmpR t x y:=by
 have a:=(a2n hx).1
 have b:=(a2n hy).1
 rw[c7x,d7p h1.2.2.2,d7p h2.2.2.2,a,b,show cmpZ (a9k t) (a9k t)=0 from b4m.2 rfl]
 rw[if_neg (by simp[ht])]
 rfl
theorem e5c(l:List Vl){i j:Nat}(hi:i<l.length)(hj:j<l.length):eqAt tV l i j=decide (l[i]=l[j]):=by
 unfold eqAt
 rw[List.getElem?_eq_getElem hi,List.getElem?_eq_getElem hj]
 obtain⟨a,b,c,u⟩:=l[i]
 obtain⟨a',b',c',u'⟩:=l[j]
 show(decide (a=a')&&(decide (b=b')&&decide (c=c')))=_
 by_cases h1:a=a' <;> by_cases h2:b=b' <;> by_cases h3:c=c' <;> simp[h1,h2,h3]
variable {lt:Vl→Vl→Bool} {S:Vl→Prop}
theorem e7e(h:LinO lt S){l:List Vl}(hl:∀x,x∈l→S x)(hs:l.Pairwise fun x y=>lt y x=false):∀m,m≤l.length →
  (∀x,x∈(a2x (eqAt tV l) m).filterMap (fun i=>l[i]?)↔∃j,∃hj:j<l.length,j<m∧l[j]=x)∧b1u lt ((a2x (eqAt tV l) m).filterMap fun i=>l[i]?)
 |0,_=>by simp[a2x,b1u]
 |m+1,hm=>by
  obtain⟨ih1,ih2⟩:=e7e h hl hs m (by omega)
  have hml:m<l.length:=by omega
  have hSm:=hl _ (List.getElem_mem hml)
  have hle:∀j (hj:j<l.length),j<m→lt l[m] l[j]=false:=fun j hj hjm=>List.pairwise_iff_getElem.1 hs j m hj hml hjm
  rw[b5t,List.filterMap_append]
  by_cases hk:b7z (eqAt tV l) m=true
  ·rw[if_pos hk]
   have hnew:∀j (hj:j<l.length),j<m→lt l[j] l[m]=true:=by
    intro j hj hjm
    rcases h.total l[j] l[m] (hl _ (List.getElem_mem hj)) hSm with h1|h1|h1
    ·exact h1
    ·exfalso
     obtain⟨p,rfl⟩:∃p,m=p+1:=⟨m - 1,by omega⟩
     have hpl:p<l.length:=by omega
     simp only[b7z,Nat.add_sub_cancel,e5c l hml hpl,Bool.or_eq_true,decide_eq_true_eq,Bool.not_eq_true',decide_eq_false_iff_not] at hk
     have hne:l[p+1]≠l[p]:=by
      rcases hk with hk|hk
      ·omega
      ·exact hk
     have a:=hle p hpl (by omega)
     rcases Nat.lt_or_ge j p with h3|h3
     ·have b:=List.pairwise_iff_getElem.1 hs j p hj hpl h3
      rw[h1] at b
      rcases h.total l[p] l[p+1] (hl _ (List.getElem_mem hpl)) hSm with h4|h4|h4
      ·rw[h4] at b;cases b
      ·exact hne h4.symm
      ·rw[h4] at a;cases a
     ·have:j=p:=by omega
      subst this
      exact hne h1.symm
    ·rw[hle j hj hjm] at h1;cases h1
   refine⟨fun x=>?_,?_⟩
   ·rw[List.mem_append,ih1]
    simp only[List.filterMap_cons,List.getElem?_eq_getElem hml,List.filterMap_nil,List.mem_singleton]
    constructor
    ·rintro(⟨j,hj,h1,h2⟩|rfl)
     ·exact⟨j,hj,by omega,h2⟩
     ·exact⟨m,hml,by omega,rfl⟩
    ·rintro⟨j,hj,h1,h2⟩
     rcases Nat.lt_or_ge j m with h3|h3
     ·exact .inl ⟨j,hj,h3,h2⟩
     ·have:j=m:=by omega
      subst this
      exact .inr h2.symm
   ·refine List.pairwise_append.2 ⟨ih2,by simp only[List.filterMap_cons,List.getElem?_eq_getElem hml,List.filterMap_nil];exact List.pairwise_singleton _ _,fun x hx y hy=>?_⟩
    simp only[List.filterMap_cons,List.getElem?_eq_getElem hml,List.filterMap_nil,List.mem_singleton] at hy
    subst hy
    obtain⟨j,hj,h1,rfl⟩:=(ih1 x).1 hx
    exact hnew j hj h1
  ·rw[if_neg hk,List.filterMap_nil,List.append_nil]
   refine⟨fun x=>?_,ih2⟩
   rw[ih1]
   constructor
   ·rintro⟨j,hj,h1,h2⟩
    exact⟨j,hj,by omega,h2⟩
   ·rintro⟨j,hj,h1,h2⟩
    rcases Nat.lt_or_ge j m with h3|h3
    ·exact⟨j,hj,h3,h2⟩
    ·have:j=m:=by omega
     subst this
     obtain⟨p,rfl⟩:∃p,j=p+1:=⟨j - 1,by
      rcases Nat.eq_zero_or_pos j with h0|h0
      ·subst h0;exact absurd (show b7z (eqAt tV l) 0=true from rfl) hk
      ·omega⟩
     have hpl:p<l.length:=by omega
     simp only[b7z,Nat.add_sub_cancel,e5c l hml hpl] at hk
     have he:l[p+1]=l[p]:=by
      by_cases hq:l[p+1]=l[p]
      ·exact hq
      ·exact absurd (by simp[hq]) hk
     exact⟨p,hpl,by omega,by rw[←he];exact h2⟩
theorem g3c(h:LinO lt S){l:List Vl}(hl:∀x,x∈l→S x)(hs:l.Pairwise fun x y=>lt y x=false):(∀x,x∈d8m tV l↔x∈l)∧b1u lt (d8m tV l):=by
 obtain⟨h1,h2⟩:=e7e h hl hs l.length (Nat.le_refl _)
 refine⟨fun x=>?_,h2⟩
 rw[show x∈d8m tV l↔_ from h1 x,List.mem_iff_getElem]
 constructor
 ·rintro⟨j,hj,_,h4⟩;exact⟨j,hj,h4⟩
 ·rintro⟨j,hj,h4⟩;exact⟨j,hj,hj,h4⟩
theorem f3b{t:Int}{l:List Vl}(ht:t≠0)(hl:∀x,x∈l→a0w t x=true∧okV x) :
  d8m tV (pdq (ltOf cfV) l.toArray 0 l.length (Lib.bitLen l.length) true true).toList=e2u (ltV t) l:=by
 have hp:=c7r swoV l
 have hs:=e7k swoV l
 generalize (pdq (ltOf cfV) l.toArray 0 l.length (Lib.bitLen l.length) true true).toList=m at hp hs
 have hm:∀x,x∈m→a0w t x=true∧okV x:=fun x hx=>hl x (hp.mem_iff.1 hx)
 have hs':m.Pairwise fun x y=>ltV t y x=false:=by
  refine List.Pairwise.imp_of_mem ?_ hs
  intro x y hx hy hxy
  have:=f4e (hm y hy).1 (hm x hx).1 (hm y hy).2 (hm x hx).2 ht
  unfold ltOf at hxy
  rw[this] at hxy
  cases h:ltV t y x with
  |false=>rfl
  |true=>rw[←e2p] at h;simp at hxy;omega
 obtain⟨h1,h2⟩:=g3c (b1s t) (fun x hx=>(hm x hx).1) hs'
 refine c8c (b1s t) (fun x hx=>(hm x ((h1 x).1 hx)).1) h2 (d0g (b1s t) fun x hx=>(hl x hx).1) fun x=>?_
 rw[h1,b6o (b1s t) fun x hx=>(hl x hx).1]
 exact hp.mem_iff
end Go.Rb

namespace Go.Rb
def a5d(t:Int)(b:List Int):Option (Vl×Nat) :=
 if t≠3∧t≠4 then match a5a b with
  |some (u,k)=>some ((t,zag u,[],()),k)
  |none=>none
 else match b with
  |[]=>none
  |c::_=>if t=3 then some ((t,c,[],()),1) else if 1+c.toNat≤b.length then some ((t,0,(b.take (1+c.toNat)).drop 1,()),1+c.toNat) else none
theorem b9r{t:Int}{v:Vl}(h:a0w t v=true)(hv:okV v)(s:List Int):a5d t (oneV v++s)=some (v,(oneV v).length):=by
 obtain⟨h1,h2⟩:=a2n h
 obtain⟨a,b,c,u⟩:=v
 dsimp only at h1 h2
 subst h1
 unfold a5d oneV
 dsimp only
 by_cases h3:a=3
 ·have hc:c=[]:=by
   rcases h2 with h2|h2|h2|h2|h2 <;> first|omega|exact h2.2.2
  simp[h3,hc]
 ·by_cases h4:a=4
  ·have hb:b=0:=by omega
   have hl:(1+((c.length:Int)).toNat)=c.length+1:=by omega
   have e:List.take (1+c.length) (((c.length:Nat):Int)::(c++s))=((c.length:Nat):Int)::c:=by
    rw[Nat.add_comm,List.take_succ_cons,List.take_left]
   simp[h4,hl,hb,e]
   omega
  ·have hc:c=[]:=by
    rcases h2 with h2|h2|h2|h2|h2 <;> first|omega|exact h2.2.2.2|exact h2.2.2|exact h2.2
   have hz:=b7a hv.2.1.1 hv.2.1.2
   dsimp only at hz
   rw[if_pos ⟨h3,h4⟩,if_neg h3,if_neg h4,a9n _ _ hz,hc]
   dsimp only
   rw[c1o]
theorem c9v{t:Int}{b:List Int}{v:Vl}{k:Nat}(ht:-9223372036854775808≤t∧t≤9223372036854775807)(hb:∀x,x∈b→0≤x∧x≤255)(h:a5d t b=some (v,k)):okV v∧v.1=t∧k≤b.length∧1≤k:=by
 unfold a5d at h
 split at h
 ·split at h
  ·rename_i u k' he
   cases h
   have h1:=a4q hb he
   have h2:=f3e h1.1
   have h3:=c1q hb he
   have h4:=c3h u
   exact⟨⟨ht,h2,by simp,by simp⟩,rfl,h1.2.1,by omega⟩
  ·cases h
 ·split at h
  ·cases h
  ·rename_i c l
   have hc:=hb c (by simp)
   split at h
   ·cases h
    exact⟨⟨ht,⟨by simp only;omega,by simp only;omega⟩,by simp,by simp⟩,rfl,by simp,by omega⟩
   ·split at h
    ·rename_i hle
     cases h
     refine⟨⟨ht,⟨by simp,by simp⟩,?_,fun x hx=>?_⟩,rfl,hle,by omega⟩
     ·simp only[List.length_drop,List.length_take];omega
     ·exact hb x (List.mem_of_mem_take (List.mem_of_mem_drop hx))
    ·cases h
variable {t:Int}
abbrev b4t(t:Int)(l:List Vl):List Vl:=e2u (ltV t) l
theorem a5c{l:List Vl}(h:a1z t l=true):1≤t∧t≤4∧∀v,v∈l→a0w t v=true:=by
 unfold a1z at h
 simp only[Bool.and_eq_true,decide_eq_true_eq,List.all_eq_true] at h
 exact⟨h.1.1,h.1.2,h.2⟩
theorem e5v(lt:Vl→Vl→Bool)(v:Vl):∀l,(insS lt v l).length≤l.length+1
 |[]=>by simp[insS]
 |x::l=>by
  have:=e5v lt v l
  unfold insS
  split
  ·simp;omega
  ·split <;> simp
theorem d3v(lt:Vl→Vl→Bool)(l:List Vl):(e2u lt l).length≤l.length:=by
 have key:∀(l d:List Vl),(l.foldl (fun d v=>insS lt v d) d).length≤d.length+l.length:=by
  intro l
  induction l with
  |nil=>intro d;simp
  |cons v l ih =>
   intro d
   have h1:=ih (insS lt v d)
   have h2:=e5v lt v d
   simp only[List.foldl_cons,List.length_cons]
   omega
 have:=key l []
 unfold e2u
 simpa using this
def a4j(t:Int)(l:List Vl):List Int:=l.map fun v=>((posS (b4t t l) v:Nat):Int)
theorem a4p(l:List Vl):(a4j t l).length=l.length:=by simp[a4j]
theorem c9y{l:List Vl}(h:a1z t l=true):∀x,x∈a4j t l→0≤x∧x.toNat<(b4t t l).length:=by
 intro x hx
 obtain⟨_,_,hr⟩:=a5c h
 simp only[a4j,List.mem_map] at hx
 obtain⟨v,hv,rfl⟩:=hx
 have:=c4x ((b6o (b1s t) hr v).2 hv)
 simp only[Int.toNat_natCast]
 exact⟨by omega,this⟩
theorem b4f{l:List Vl}(h:a1z t l=true):∀x,x∈a4j t l→0≤x∧x.toNat<2 ^ blen ((b4t t l).length - 1):=by
 intro x hx
 have h1:=c9y h x hx
 have h2:=(b0s (blen ((b4t t l).length - 1)) ((b4t t l).length - 1)).1 (Nat.le_refl _)
 exact⟨h1.1,by omega⟩
theorem c1r{l:List Vl}(h:a1z t l=true):(a4j t l).map (fun p=>(b4t t l).getD p.toNat ((0:Int),(0:Int),[],()))=l:=by
 obtain⟨_,_,hr⟩:=a5c h
 unfold a4j
 rw[List.map_map]
 conv=>rhs;rw[←List.map_id l]
 apply List.map_congr_left
 intro v hv
 have hm:=(b6o (b1s t) hr v).2 hv
 simp only[Function.comp_apply,Int.toNat_natCast,id]
 rw[a0h (c4x hm),d4q hm]
def c1t(t:Int)(l:List Vl):List Int:=putN (b4t t l).length++((b4t t l).flatMap oneV++b1k (a4j t l) (blen ((b4t t l).length - 1)))
theorem b4o{t:Int}:∀{d:List Vl},(∀v,v∈d→a0w t v=true∧okV v)→∀b,b∈d.flatMap oneV→0≤b∧b≤255:=by
 intro d hd b hb
 obtain⟨v,hv,hb⟩:=List.mem_flatMap.1 hb
 exact f2z (hd v hv).1 (hd v hv).2 b hb
theorem a3o{t:Int}:∀{d:List Vl},(∀v,v∈d→a0w t v=true∧okV v)→(d.flatMap oneV).length≤21*d.length
 |[],_=>by simp
 |v::d,h=>by
  have h1:=a3o (d:=d) fun x hx=>h x (List.mem_cons_of_mem _ hx)
  have h2:=d5q (h v (by simp)).1 (h v (by simp)).2
  simp only[List.flatMap_cons,List.length_append,List.length_cons]
  omega
theorem b9w{l:List Vl}(h:a1z t l=true)(hv:∀v,v∈l→okV v):∀v,v∈b4t t l→a0w t v=true∧okV v:=by
 obtain⟨_,_,hr⟩:=a5c h
 intro v hm
 have:=(b6o (b1s t) hr v).1 hm
 exact⟨hr v this,hv v this⟩
theorem e5f{l:List Vl}(h:a1z t l=true)(hv:∀v,v∈l→okV v):∀b,b∈c1t t l→0≤b∧b≤255:=by
 intro b hb
 unfold c1t at hb
 rcases List.mem_append.1 hb with hb|hb
 ·exact c3z _ b hb
 ·rcases List.mem_append.1 hb with hb|hb
  ·exact b4o (b9w h hv) b hb
  ·exact c0h (b7r _ _) b hb
theorem c4n{v w:Nat}(h:v<2 ^ w):blen v≤w:=(b0s w v).2 h
theorem d7w{l:List Vl}(h:a1z t l=true)(hv:∀v,v∈l→okV v)(hl:l.length≤1000):(c1t t l).length≤24000:=by
 have h1:=d3v (ltV t) l
 have h2:=a3o (b9w h hv)
 have h3:=a5z (v:=(b4t t l).length) (by simp only[b4t];omega)
 have h4:blen ((b4t t l).length - 1)≤10:=c4n (by simp only[b4t];omega)
 have h5:l.length*blen ((b4t t l).length - 1)≤1000*10:=Nat.mul_le_mul hl h4
 unfold c1t
 simp only[List.length_append,a6s,a4p]
 simp only[b4t] at *
 omega
theorem b4v{t:Int}:∀{d d':List Vl} {s s':List Int},(∀v,v∈d→a0w t v=true)→(∀v,v∈d'→a0w t v=true)→d.length=d'.length→d.flatMap oneV++s=d'.flatMap oneV++s'→d=d'∧s=s'
 |[],[],s,s',_,_,_,e=>⟨rfl,by simpa using e⟩
 |[],_::_,_,_,_,_,h,_=>by simp at h
 |_::_,[],_,_,_,_,h,_=>by simp at h
 |v::d,v'::d',s,s',h,h',hl,e=>by
  simp only[List.flatMap_cons,List.append_assoc] at e
  obtain⟨rfl,e2⟩:=c9z (h v (by simp)) (h' v' (by simp)) e
  obtain⟨rfl,e3⟩:=b4v (fun x hx=>h x (List.mem_cons_of_mem _ hx)) (fun x hx=>h' x (List.mem_cons_of_mem _ hx)) (by simpa using hl) e2
  exact⟨rfl,e3⟩
theorem d9j{l l':List Vl}(h:a1z t l=true)(h':a1z t l'=true)(hl:l.length=l'.length){s:List Int}(e:c1t t l++s=c1t t l'):l=l'∧s=[]:=by
 obtain⟨_,_,hr⟩:=a5c h
 obtain⟨_,_,hr'⟩:=a5c h'
 unfold c1t at e
 simp only[List.append_assoc] at e
 obtain⟨e1,e2⟩:=b2z _ _ _ _ e
 obtain⟨e3,e4⟩:=b4v (fun v hv=>hr v ((b6o (b1s t) hr v).1 hv)) (fun v hv=>hr' v ((b6o (b1s t) hr' v).1 hv)) e1 e2
 have hlen:=congrArg List.length e4
 rw[List.length_append,a6s,a6s,a4p,a4p,hl,e1] at hlen
 have hs:s=[]:=by
  have:s.length=0:=by omega
  exact List.length_eq_zero_iff.1 this
 subst hs
 rw[List.append_nil] at e4
 refine⟨?_,rfl⟩
 have hp:a4j t l=a4j t l':=by
  refine c9u (by simp[a4p,hl]) (b4f h) (fun x hx=>?_) (by rw[e4,e1])
  have:=b4f h' x hx
  rw[e1];exact this
 have e5:b4t t l=b4t t l':=e3
 rw[←c1r h,←c1r h',hp,e5]
end Go.Rb

namespace Go.Rb
variable {t:Int}
def runN(v:Vl)(l:List Vl):Nat:=(l.takeWhile fun x=>decide (x=v)).length
theorem d3y(v:Vl)(l:List Vl):runN v l≤l.length:=by
 unfold runN
 exact(List.takeWhile_prefix _).length_le
def rleF:Nat→List Vl→List Int
 |0,_=>[]
 |_+1,[]=>[]
 |n+1,v::l=>putN (1+runN v l)++(oneV v++rleF n (l.drop (runN v l)))
def rleB(l:List Vl):List Int:=rleF l.length l
theorem d1e:∀(n m:Nat) (l:List Vl),l.length≤n→l.length≤m→rleF n l=rleF m l
 |0,m,[],_,_=>by cases m <;> rfl
 |n+1,0,[],_,_=>rfl
 |n+1,m+1,[],_,_=>rfl
 |n+1,m+1,v::l,h1,h2=>by
  simp only[List.length_cons] at h1 h2
  unfold rleF
  rw[d1e n m (l.drop (runN v l)) (by simp;omega) (by simp;omega)]
theorem c3e:rleB []=[]:=rfl
theorem b3d(v:Vl)(l:List Vl):rleB (v::l)=putN (1+runN v l)++(oneV v++rleB (l.drop (runN v l))):=by
 show rleF (l.length+1) (v::l)=_
 unfold rleF rleB
 rw[d1e l.length (l.drop (runN v l)).length _ (by simp) (Nat.le_refl _)]
theorem b7j(v:Vl):∀l:List Vl,l=List.replicate (runN v l) v++l.drop (runN v l)
 |[]=>rfl
 |x::l=>by
  by_cases h:x=v
  ·have e:runN v (x::l)=runN v l+1:=by simp[runN,h]
   rw[e,List.replicate_succ,List.drop_succ_cons,List.cons_append,←b7j v l,h]
  ·have e:runN v (x::l)=0:=by simp[runN,h]
   rw[e];simp
theorem f6z(v:Vl){l:List Vl}{i:Nat}(h:i<runN v l):l.getD i ((0:Int),(0:Int),[],())=v:=by
 have hl:=d3y v l
 have e:=b7j v l
 rw[a0h (by omega)]
 have h2:(List.replicate (runN v l) v++l.drop (runN v l))[i]?=some v:=by
  rw[List.getElem?_append_left (by simpa using h),List.getElem?_replicate,if_pos h]
 rw[←e,List.getElem?_eq_getElem (by omega)] at h2
 exact Option.some.inj h2
theorem f4g(v:Vl):∀{l:List Vl} (h:runN v l<l.length),l[runN v l]≠v
 |[],h=>by simp at h
 |x::l,h=>by
  by_cases hx:x=v
  ·have e:runN v (x::l)=runN v l+1:=by simp[runN,hx]
   simp only[List.length_cons] at h
   have:=f4g v (l:=l) (by omega)
   simp only[e,List.getElem_cons_succ]
   exact this
  ·have e:runN v (x::l)=0:=by simp[runN,hx]
   simp only[e,List.getElem_cons_zero]
   exact hx
theorem f0q:∀(n:Nat) {l:List Vl},l.length≤n→(∀v,v∈l→a0w t v=true∧okV v)→∀b,b∈rleB l→0≤b∧b≤255
 |_,[],_,_,b,hb=>by simp[c3e] at hb
 |0,_::_,h,_,_,_=>by simp at h
 |n+1,v::l,h,hl,b,hb=>by
  simp only[List.length_cons] at h
  rw[b3d] at hb
  rcases List.mem_append.1 hb with hb|hb
  ·exact c3z _ b hb
  ·rcases List.mem_append.1 hb with hb|hb
   ·exact f2z (hl v (by simp)).1 (hl v (by simp)).2 b hb
   ·exact f0q n (by simp;omega) (fun x hx=>hl x (List.mem_cons_of_mem _ (List.mem_of_mem_drop hx))) b hb
theorem e5z:∀(n:Nat) {l:List Vl},l.length≤n→l.length<1000000→(∀v,v∈l→a0w t v=true∧okV v)→(rleB l).length≤31*l.length
 |_,[],_,_,_=>by simp[c3e]
 |0,_::_,h,_,_=>by simp at h
 |n+1,v::l,h,hm,hl=>by
  simp only[List.length_cons] at h hm
  have h1:=d3y v l
  have h2:=d5q (hl v (by simp)).1 (hl v (by simp)).2
  have h3:=a5z (v:=1+runN v l) (by omega)
  have h4:=e5z n (l:=l.drop (runN v l)) (by simp;omega) (by simp;omega) (fun x hx=>hl x (List.mem_cons_of_mem _ (List.mem_of_mem_drop hx)))
  rw[b3d]
  simp only[List.length_append,List.length_cons,List.length_drop] at h4 ⊢
  omega
theorem c9i:∀(n:Nat) {l l':List Vl} {s s':List Int},l.length≤n→(∀v,v∈l→a0w t v=true)→(∀v,v∈l'→a0w t v=true)→l.length=l'.length→rleB l++s=rleB l'++s'→l=l'∧s=s'
 |_,[],[],s,s',_,_,_,_,e=>by simpa[c3e] using e
 |_,[],_::_,_,_,_,_,_,h,_=>by simp at h
 |_,_::_,[],_,_,_,_,_,h,_=>by simp at h
 |0,_::_,_,_,_,h,_,_,_,_=>by simp at h
 |n+1,v::l,v'::l',s,s',h,hl,hl',hlen,e=>by
  simp only[List.length_cons] at h hlen
  rw[b3d,b3d] at e
  simp only[List.append_assoc] at e
  obtain⟨e1,e2⟩:=b2z _ _ _ _ e
  obtain⟨rfl,e3⟩:=c9z (hl v (by simp)) (hl' v' (by simp)) e2
  have er:runN v l=runN v l':=by omega
  obtain⟨e4,e5⟩:=c9i n (by simp;omega) (fun x hx=>hl x (List.mem_cons_of_mem _ (List.mem_of_mem_drop hx))) (fun x hx=>hl' x (List.mem_cons_of_mem _ (List.mem_of_mem_drop hx))) (by simp;omega) e3
  refine⟨?_,e5⟩
  rw[b7j v l,b7j v l',e4,er]
def d4h(last x:Int):Int:=IntKind.i64.wrap (x - last)
theorem c1i(last x:Int):-9223372036854775808≤d4h last x∧d4h last x≤9223372036854775807:=c9o _
theorem a3i(x:Int):IntKind.i64.wrap x=(x+9223372036854775808) % 18446744073709551616 - 9223372036854775808:=by
 simp only[IntKind.wrap,IntKind.bits,IntKind.signed,if_true]
 simp
 split <;> omega
theorem c4p{last x:Int}(hx:-9223372036854775808≤x∧x≤9223372036854775807):IntKind.i64.wrap (last+d4h last x)=x:=by
 unfold d4h
 rw[a3i,a3i]
 omega
def a8q:Int→List Vl→List Int
 |_,[]=>[]
 |last,v::l=>putN (zig (d4h last v.2.1))++a8q v.2.1 l
theorem d7k:∀(l:List Vl) (last:Int) (b:Int),b∈a8q last l→0≤b∧b≤255
 |[],_,b,hb=>by simp[a8q] at hb
 |v::l,last,b,hb=>by
  unfold a8q at hb
  rcases List.mem_append.1 hb with hb|hb
  ·exact c3z _ b hb
  ·exact d7k l _ b hb
theorem b2h(last x:Int):zig (d4h last x)<18446744073709551616:=b7a (c1i last x).1 (c1i last x).2
theorem d2d:∀(l:List Vl) (last:Int),(a8q last l).length≤10*l.length
 |[],_=>by simp[a8q]
 |v::l,last=>by
  have h1:=a5z (b2h last v.2.1)
  have h2:=d2d l v.2.1
  unfold a8q
  simp only[List.length_append,List.length_cons]
  omega
theorem f9y{v v':Vl}(h:a0w t v=true)(h':a0w t v'=true)(ht:t≤3)(e:v.2.1=v'.2.1):v=v':=c7g h h' (by rw[if_neg (by omega)];exact e)
theorem f4h{x y:Int}(h:zig x=zig y):x=y:=by
 have:=congrArg zag h
 rwa [c1o,c1o] at this
theorem c3x:∀{l l':List Vl} {last:Int} {s s':List Int},t≤3→(∀v,v∈l→a0w t v=true∧okV v)→(∀v,v∈l'→a0w t v=true∧okV v)→l.length=l'.length→a8q last l++s=a8q last l'++s'→l=l'∧s=s'
 |[],[],_,s,s',_,_,_,_,e=>by simpa[a8q] using e
 |[],_::_,_,_,_,_,_,_,h,_=>by simp at h
 |_::_,[],_,_,_,_,_,_,h,_=>by simp at h
 |v::l,v'::l',last,s,s',ht,hl,hl',hlen,e=>by
  simp only[a8q,List.append_assoc] at e
  obtain⟨e1,e2⟩:=b2z _ _ _ _ e
  have e3:v.2.1=v'.2.1:=by
   have h1:=c4p (last:=last) (hl v (by simp)).2.2.1
   have h2:=c4p (last:=last) (hl' v' (by simp)).2.2.1
   rw[←h1,←h2,f4h e1]
  have e4:=f9y (hl v (by simp)).1 (hl' v' (by simp)).1 ht e3
  subst e4
  obtain⟨e5,e6⟩:=c3x ht (fun x hx=>hl x (List.mem_cons_of_mem _ hx)) (fun x hx=>hl' x (List.mem_cons_of_mem _ hx)) (by simpa using hlen) e2
  exact⟨by rw[e5],e6⟩
def a6j(l:List Vl):Int:=match l with
 |[]=>0
 |v::l=>(v::l).foldl (fun m x=>if m≤x.2.1 then m else x.2.1) v.2.1
def a2w(l:List Vl):List Int:=l.map fun v=>v.2.1 - a6j l
def c0n(l:List Vl):List Int:=match l with
 |[]=>[]
 |v::l=>putN (zig (a6j (v::l)))++(((a5j (a2w (v::l)):Nat):Int)::b1k (a2w (v::l)) (a5j (a2w (v::l))))
theorem c8e:∀(l:List Vl) (m:Int),(l.foldl (fun m x=>if m≤x.2.1 then m else x.2.1) m≤m)∧(∀v,v∈l→l.foldl (fun m x=>if m≤x.2.1 then m else x.2.1) m≤v.2.1) ∧
  (l.foldl (fun m x=>if m≤x.2.1 then m else x.2.1) m=m∨∃v,v∈l∧l.foldl (fun m x=>if m≤x.2.1 then m else x.2.1) m=v.2.1)
 |[],m=>⟨Int.le_refl _,by simp,.inl rfl⟩
 |x::l,m=>by
  simp only[List.foldl_cons]
  obtain⟨h1,h2,h3⟩:=c8e l (if m≤x.2.1 then m else x.2.1)
  have h4:(if m≤x.2.1 then m else x.2.1)≤m∧(if m≤x.2.1 then m else x.2.1)≤x.2.1:=by split <;> omega
  refine⟨by omega,?_,?_⟩
  ·intro v hv
   rcases List.mem_cons.1 hv with rfl|hv
   ·omega
   ·exact h2 v hv
  ·rcases h3 with h3|⟨v,hv,h3⟩
   ·rw[h3]
    by_cases hm:m≤x.2.1
    ·rw[if_pos hm];exact .inl rfl
    ·rw[if_neg hm];exact .inr ⟨x,by simp,rfl⟩
   ·exact .inr ⟨v,List.mem_cons_of_mem _ hv,h3⟩
theorem e5b{l:List Vl}{v:Vl}(hv:v∈l):a6j l≤v.2.1:=by
 cases l with
 |nil=>simp at hv
 |cons x l=>exact(c8e (x::l) x.2.1).2.1 v hv
theorem f7z{l:List Vl}(hl:l≠[]):∃v,v∈l∧a6j l=v.2.1:=by
 cases l with
 |nil=>exact absurd rfl hl
 |cons x l =>
  rcases(c8e (x::l) x.2.1).2.2 with h|h
  ·exact⟨x,by simp,h⟩
  ·exact h
theorem b2s{l:List Vl}(hv:∀v,v∈l→okV v):-9223372036854775808≤a6j l∧a6j l≤9223372036854775807:=by
 by_cases hl:l=[]
 ·subst hl;simp[a6j]
 ·obtain⟨v,h1,h2⟩:=f7z hl
  rw[h2];exact(hv v h1).2.1
theorem a4v(l:List Vl):(a2w l).length=l.length:=by simp[a2w]
theorem c1c{l:List Vl}(hv:∀v,v∈l→okV v):∀x,x∈a2w l→0≤x∧x<18446744073709551616:=by
 intro x hx
 simp only[a2w,List.mem_map] at hx
 obtain⟨v,h1,rfl⟩:=hx
 have h2:=e5b h1
 have h3:=b2s hv
 have h4:=(hv v h1).2.1
 omega
theorem c1v{l:List Vl}(hv:∀v,v∈l→okV v):∀x,x∈a2w l→0≤x∧x.toNat<2 ^ a5j (a2w l) :=
 fun x hx=>⟨(c1c hv x hx).1,(c3p (w:=a5j (a2w l))).1 (Nat.le_refl _) x hx⟩
theorem b6j{l:List Vl}(hv:∀v,v∈l→okV v):a5j (a2w l)≤64:=by
 rw[c3p]
 intro x hx
 have:=c1c hv x hx
 omega
theorem b2f{l:List Vl}(hl:l≠[]):c0n l=putN (zig (a6j l))++(((a5j (a2w l):Nat):Int)::b1k (a2w l) (a5j (a2w l))):=by
 cases l with
 |nil=>exact absurd rfl hl
 |cons v l=>rfl
theorem f6y{l:List Vl}(hv:∀v,v∈l→okV v):∀b,b∈c0n l→0≤b∧b≤255:=by
 intro b hb
 by_cases hl:l=[]
 ·subst hl;simp[c0n] at hb
 ·rw[b2f hl] at hb
  rcases List.mem_append.1 hb with hb|hb
  ·exact c3z _ b hb
  ·rcases List.mem_cons.1 hb with rfl|hb
   ·have:=b6j hv;omega
   ·exact c0h (b7r _ _) b hb
theorem f3x{l:List Vl}(hv:∀v,v∈l→okV v):(c0n l).length≤19+8*l.length:=by
 by_cases hl:l=[]
 ·subst hl;simp[c0n]
 ·rw[b2f hl]
  have h1:=a5z (b7a (b2s hv).1 (b2s hv).2)
  have h2:=b6j hv
  have h3:l.length*a5j (a2w l)≤l.length*64:=Nat.mul_le_mul_left _ h2
  simp only[List.length_append,List.length_cons,a6s,a4v]
  omega
theorem f3f{l l':List Vl}(h:∀v,v∈l→a0w t v=true)(h':∀v,v∈l'→a0w t v=true)(ht:t≤3)(e1:a6j l=a6j l')(e2:a2w l=a2w l'):l=l':=by
 have hlen:l.length=l'.length:=by
  have:=congrArg List.length e2
  rwa [a4v,a4v] at this
 refine List.ext_getElem hlen fun i h1 h2=>?_
 refine f9y (h _ (List.getElem_mem h1)) (h' _ (List.getElem_mem h2)) ht ?_
 have h3:(a2w l)[i]'(by rw[a4v];exact h1)=(a2w l')[i]'(by rw[a4v];exact h2):=List.getElem_of_eq e2 _
 simp only[a2w,List.getElem_map] at h3
 omega
theorem d8e{l l':List Vl}{s:List Int}(ht:t≤3)(h:∀v,v∈l→a0w t v=true∧okV v)(h':∀v,v∈l'→a0w t v=true∧okV v)(hlen:l.length=l'.length)(e:c0n l++s=c0n l'):l=l'∧s=[]:=by
 by_cases hl:l=[]
 ·subst hl
  have:l'=[]:=by cases l' with|nil=>rfl|cons=>simp at hlen
  subst this
  exact⟨rfl,by simpa[c0n] using e⟩
 have hl':l'≠[]:=by rintro rfl;cases l with|nil=>exact hl rfl|cons=>simp at hlen
 rw[b2f hl,b2f hl'] at e
 simp only[List.append_assoc,List.cons_append] at e
 obtain⟨e1,e2⟩:=b2z _ _ _ _ e
 simp only[List.cons.injEq] at e2
 obtain⟨e3,e4⟩:=e2
 have e5:a5j (a2w l)=a5j (a2w l'):=by omega
 have e6:s=[]:=by
  have:=congrArg List.length e4
  simp only[List.length_append,a6s,a4v,e5,hlen] at this
  exact List.eq_nil_of_length_eq_zero (by omega)
 subst e6
 rw[List.append_nil,←e5] at e4
 have e7:=c9u (by rw[a4v,a4v,hlen]) (c1v fun v hv=>(h v hv).2) (by rw[e5];exact c1v fun v hv=>(h' v hv).2) e4
 exact⟨f3f (fun v hv=>(h v hv).1) (fun v hv=>(h' v hv).1) ht (f4h e1) e7,rfl⟩
def b4k(e t:Int):Bool:=decide (e=1)||decide (e=2)||decide (e=3)||(decide (e=4)&&decide (t≤3))||(decide (e=5)&&decide (t≤2))
def encB(e t:Int)(l:List Vl):List Int :=
 if e=1 then l.flatMap oneV else if e=2 then rleB l else if e=3 then c1t t l else if e=4 then c0n l else a8q 0 l
theorem a6p{l:List Vl}(h:a1z t l=true)(hv:∀v,v∈l→okV v):∀v,v∈l→a0w t v=true∧okV v:=fun v hm=>⟨(a5c h).2.2 v hm,hv v hm⟩
theorem g1g{e:Int}{l:List Vl}(h:a1z t l=true)(hv:∀v,v∈l→okV v):∀b,b∈encB e t l→0≤b∧b≤255:=by
 intro b hb
 unfold encB at hb
 split at hb
 ·exact b4o (a6p h hv) b hb
 ·split at hb
  ·exact f0q _ (Nat.le_refl _) (a6p h hv) b hb
  ·split at hb
   ·exact e5f h hv b hb
   ·split at hb
    ·exact f6y hv b hb
    ·exact d7k _ _ b hb
theorem e5y{e:Int}{l:List Vl}(h:a1z t l=true)(hv:∀v,v∈l→okV v)(hl:l.length≤1000):(encB e t l).length≤31000:=by
 unfold encB
 split
 ·have:=a3o (a6p h hv);omega
 ·split
  ·have:=e5z _ (Nat.le_refl _) (by omega) (a6p h hv);omega
  ·split
   ·have:=d7w h hv hl;omega
   ·split
    ·have:=f3x hv;omega
    ·have:=d2d l 0;omega
theorem c1w{e:Int}{l l':List Vl}{s:List Int}(he:b4k e t=true)(h:a1z t l=true)(hv:∀v,v∈l→okV v)(h':a1z t l'=true)(hv':∀v,v∈l'→okV v)(hlen:l.length=l'.length)(q:encB e t l++s=encB e t l'):l=l'∧s=[]:=by
 have hb:=a6p h hv
 have hb':=a6p h' hv'
 unfold b4k at he
 simp only[Bool.or_eq_true,Bool.and_eq_true,decide_eq_true_eq] at he
 unfold encB at q
 by_cases h1:e=1
 ·rw[if_pos h1,if_pos h1] at q
  exact b4v (fun v hv=>(hb v hv).1) (fun v hv=>(hb' v hv).1) hlen (s':=[]) (by rw[List.append_nil];exact q)
 rw[if_neg h1,if_neg h1] at q
 by_cases h2:e=2
 ·rw[if_pos h2,if_pos h2] at q
  exact c9i _ (Nat.le_refl _) (fun v hv=>(hb v hv).1) (fun v hv=>(hb' v hv).1) hlen (s':=[]) (by rw[List.append_nil];exact q)
 rw[if_neg h2,if_neg h2] at q
 by_cases h3:e=3
 ·rw[if_pos h3,if_pos h3] at q
  exact d9j h h' hlen q
 rw[if_neg h3,if_neg h3] at q
 by_cases h4:e=4
 ·rw[if_pos h4,if_pos h4] at q
  exact d8e (t:=t) (by omega) hb hb' hlen q
 rw[if_neg h4,if_neg h4] at q
 exact c3x (t:=t) (by omega) hb hb' hlen (s':=[]) (by rw[List.append_nil];exact q)
def b2i(b:Bool):Int:=if b then 1 else 0
def b7g(l:List Bool):List Int:=b1k (l.map b2i) 1
theorem b3b(l:List Bool):(b7g l).length=(l.length+7) / 8:=by
 unfold b7g
 rw[a6s];simp
theorem f5v(l:List Bool):∀b,b∈b7g l→0≤b∧b≤255:=c0h (b7r _ _)
theorem d6x(l:List Bool):∀x,x∈l.map b2i→0≤x∧x.toNat<2 ^ 1:=by
 intro x hx
 obtain⟨b,_,rfl⟩:=List.mem_map.1 hx
 cases b <;> simp[b2i]
theorem f5h{l l':List Bool}(hlen:l.length=l'.length)(e:b7g l=b7g l'):l=l':=by
 have h1:=c9u (by simpa using hlen) (d6x l) (d6x l') e
 refine List.ext_getElem hlen fun i h2 h3=>?_
 have h4:(l.map b2i)[i]'(by simpa using h2)=(l'.map b2i)[i]'(by simpa using h3):=List.getElem_of_eq h1 _
 simp only[List.getElem_map] at h4
 generalize l[i]=x at h4 ⊢
 generalize l'[i]=y at h4 ⊢
 revert h4
 cases x <;> cases y <;> simp[b2i]
def isN(v:Vl):Bool:=decide (v.1=0)
def a6w(t:Int)(v:Vl):Bool:=mayV v&&(decide (1≤t)&&decide (t≤4))&&(decide (v.1=0)||decide (v.1=t))
def b3j(e t:Int):Option Int :=
 if 1≤t∧t≤4∧1≤e∧e≤5 then some (if e=5∧3≤t then(if t=4 then 3 else 4) else if e=4∧t=4 then 3 else e) else none
theorem b0z{e t u:Int}(h:b3j e t=some u):b4k u t=true∧1≤t∧t≤4∧1≤u∧u≤5∧b3j u t=some u:=by
 unfold b3j at h
 split at h
 ·rename_i hc
  obtain⟨h1,h2,h3,h4⟩:=hc
  simp only[Option.some.injEq] at h
  unfold b4k b3j
  simp only[Bool.or_eq_true,Bool.and_eq_true,decide_eq_true_eq]
  split at h
  ·rename_i h5
   split at h
   ·subst h
    refine⟨by omega,h1,h2,by omega,by omega,?_⟩
    rw[if_pos (by omega),if_neg (by omega),if_neg (by omega)]
   ·subst h
    refine⟨by omega,h1,h2,by omega,by omega,?_⟩
    rw[if_pos (by omega),if_neg (by omega),if_neg (by omega)]
  ·split at h
   ·subst h
    refine⟨by omega,h1,h2,by omega,by omega,?_⟩
    rw[if_pos (by omega),if_neg (by omega),if_neg (by omega)]
   ·subst h
    refine⟨by omega,h1,h2,by omega,by omega,?_⟩
    rw[if_pos (by omega),if_neg (by omega),if_neg (by omega)]
 ·cases h
def a6o(l:List Vl):List Vl:=l.filter fun v=>!isN v
def colB(u t:Int)(l:List Vl):List Int :=
 if l.any isN then u::1::(b7g (l.map isN)++encB u t (a6o l)) else u::0::encB u t (a6o l)
theorem b0g{l:List Vl}(ht:1≤t∧t≤4)(h:∀v,v∈l→a6w t v=true):a1z t (a6o l)=true:=by
 unfold a1z
 simp only[Bool.and_eq_true,decide_eq_true_eq,List.all_eq_true]
 refine⟨ht,fun v hv=>?_⟩
 simp only[a6o,List.mem_filter,isN,Bool.not_eq_true',decide_eq_false_iff_not] at hv
 have:=h v hv.1
 unfold a6w at this
 simp only[Bool.and_eq_true,Bool.or_eq_true,decide_eq_true_eq] at this
 unfold a0w
 simp only[Bool.and_eq_true,decide_eq_true_eq]
 exact⟨by omega,this.1.1⟩
theorem b8x(l:List Vl):(a6o l).length≤l.length:=List.length_filter_le _ _
theorem b4e{l:List Vl}(h:∀v,v∈l→okV v):∀v,v∈a6o l→okV v:=fun v hv=>h v (List.mem_filter.1 hv).1
theorem g0x{v:Vl}(h:a6w t v=true)(hn:isN v=true):v=((0:Int),(0:Int),[],()):=by
 unfold isN at hn
 unfold a6w mayV at h
 simp only[Bool.and_eq_true,Bool.or_eq_true,decide_eq_true_eq] at h hn
 obtain⟨a,b,c,u⟩:=v
 dsimp only at h hn
 subst hn
 have h1:=h.1.1
 simp at h1
 simp[h1.1,h1.2]
def mixV:List Bool→List Vl→List Vl
 |[],_=>[]
 |true::bs,l=>((0:Int),(0:Int),[],())::mixV bs l
 |false::bs,l=>l.headD ((0:Int),(0:Int),[],())::mixV bs l.tail
theorem c3q:∀{l:List Vl},(∀v,v∈l→a6w t v=true)→mixV (l.map isN) (a6o l)=l
 |[],_=>rfl
 |v::l,h=>by
  have ih:=c3q (l:=l) fun x hx=>h x (List.mem_cons_of_mem _ hx)
  cases hn:isN v with
  |true =>
   rw[List.map_cons,hn]
   have e:a6o (v::l)=a6o l:=by simp[a6o,hn]
   rw[e]
   unfold mixV
   rw[ih,g0x (h v (by simp)) hn]
  |false =>
   rw[List.map_cons,hn]
   have e:a6o (v::l)=v::a6o l:=by simp[a6o,hn]
   rw[e]
   unfold mixV
   rw[List.headD_cons,List.tail_cons,ih]
theorem e4w{l l':List Vl}(h:∀v,v∈l→a6w t v=true)(h':∀v,v∈l'→a6w t v=true)(e1:l.map isN=l'.map isN)(e2:a6o l=a6o l'):l=l':=by
 rw[←c3q h,←c3q h',e1,e2]
theorem b2m(l:List Vl):(a6o l).length+(l.map isN).countP (fun b=>b)=l.length:=by
 induction l with
 |nil=>rfl
 |cons v l ih =>
  cases hn:isN v with
  |true =>
   have e:a6o (v::l)=a6o l:=by simp[a6o,hn]
   have e2:List.countP (fun b=>b) (true::l.map isN)=List.countP (fun b=>b) (l.map isN)+1:=by rw[List.countP_cons];rfl
   rw[e,List.map_cons,hn,e2,List.length_cons]
   omega
  |false =>
   have e:a6o (v::l)=v::a6o l:=by simp[a6o,hn]
   have e2:List.countP (fun b=>b) (false::l.map isN)=List.countP (fun b=>b) (l.map isN):=by rw[List.countP_cons];rfl
   rw[e,List.map_cons,hn,e2,List.length_cons,List.length_cons]
   omega
theorem b5r{l:List Vl}(h:l.any isN=false):l.map isN=List.replicate l.length false:=by
 refine List.ext_getElem (by simp) fun i h1 h2=>?_
 simp only[List.getElem_map,List.getElem_replicate]
 simp only[List.length_map] at h1
 rw[List.any_eq_false] at h
 simpa using h _ (List.getElem_mem h1)
theorem f2f(u t:Int)(l:List Vl):∃r,colB u t l=u::r∧1≤r.length:=by
 unfold colB
 split
 ·exact⟨_,rfl,by simp⟩
 ·exact⟨_,rfl,by simp⟩
theorem g1a{u:Int}{l:List Vl}(hu:1≤u∧u≤5)(ht:1≤t∧t≤4)(h:∀v,v∈l→a6w t v=true)(hv:∀v,v∈l→okV v):∀b,b∈colB u t l→0≤b∧b≤255:=by
 intro b hb
 have h1:=g1g (e:=u) (b0g ht h) (b4e hv)
 unfold colB at hb
 split at hb
 ·simp only[List.mem_cons,List.mem_append] at hb
  rcases hb with rfl|rfl|hb|hb
  ·omega
  ·omega
  ·exact f5v _ b hb
  ·exact h1 b hb
 ·simp only[List.mem_cons] at hb
  rcases hb with rfl|rfl|hb
  ·omega
  ·omega
  ·exact h1 b hb
theorem f8h{u:Int}{l:List Vl}(ht:1≤t∧t≤4)(h:∀v,v∈l→a6w t v=true)(hv:∀v,v∈l→okV v)(hl:l.length≤1000):(colB u t l).length≤32000:=by
 have h1:=e5y (e:=u) (b0g ht h) (b4e hv) (by have:=b8x l;omega)
 unfold colB
 split
 ·simp only[List.length_cons,List.length_append,b3b,List.length_map];omega
 ·simp only[List.length_cons];omega
theorem e4k{u u':Int}{l l':List Vl}{s:List Int}(hu:b4k u t=true)(ht:1≤t∧t≤4)(h:∀v,v∈l→a6w t v=true)(hv:∀v,v∈l→okV v)(h':∀v,v∈l'→a6w t v=true)(hv':∀v,v∈l'→okV v)
  (hlen:l.length=l'.length) (q:colB u t l++s=colB u' t l'):u=u'∧l=l'∧s=[]:=by
 have hr:=b0g ht h
 have hr':=b0g ht h'
 unfold colB at q
 cases ha:l.any isN with
 |true =>
  cases ha':l'.any isN with
  |true =>
   rw[ha,ha',if_pos rfl,if_pos rfl] at q
   simp only[List.cons_append,List.cons.injEq,true_and,List.append_assoc] at q
   obtain⟨rfl,q⟩:=q
   have q1:=List.append_inj q (by rw[b3b,b3b];simp[hlen])
   have e1:=f5h (by simpa using hlen) q1.1
   have h3:=b2m l
   have h4:=b2m l'
   rw[e1] at h3
   obtain⟨e2,e3⟩:=c1w hu hr (b4e hv) hr' (b4e hv') (by omega) q1.2
   exact⟨rfl,e4w h h' e1 e2,e3⟩
  |false =>
   rw[ha,ha',if_pos rfl,if_neg (by simp)] at q
   simp at q
 |false =>
  cases ha':l'.any isN with
  |true =>
   rw[ha,ha',if_neg (by simp),if_pos rfl] at q
   simp at q
  |false =>
   rw[ha,ha',if_neg (by simp),if_neg (by simp)] at q
   simp only[List.cons_append,List.cons.injEq,true_and] at q
   obtain⟨rfl,q⟩:=q
   have e1:l.map isN=l'.map isN:=by rw[b5r ha,b5r ha',hlen]
   have h3:=b2m l
   have h4:=b2m l'
   rw[e1] at h3
   obtain⟨e2,e3⟩:=c1w hu hr (b4e hv) hr' (b4e hv') (by omega) q
   exact⟨rfl,e4w h h' e1 e2,e3⟩
end Go.Rb

namespace Go.Rb
abbrev Zn:Type:=Int×Vl×Vl×Unit
theorem d3o:∀{b:List Int} {v n:Nat} (s:List Int),a5a b=some (v,n)→a5a (b++s)=some (v,n)
 |[],v,n,s,h=>by simp[a5a] at h
 |b::l,v,n,s,h=>by
  rw[List.cons_append]
  unfold a5a at h ⊢
  split at h
  ·rename_i h1;rw[if_pos h1];exact h
  ·rename_i h1
   rw[if_neg h1]
   split at h
   ·rename_i v' n' he
    rw[d3o s he]
    exact h
   ·cases h
theorem d4p:∀{b:List Int} {v n:Nat},a5a b=some (v,n)→1≤n∧n≤b.length
 |[],v,n,h=>by simp[a5a] at h
 |b::l,v,n,h=>by
  unfold a5a at h
  split at h
  ·simp only[Option.some.injEq,Prod.mk.injEq] at h;simp;omega
  ·split at h
   ·rename_i v' n' he
    have:=d4p he
    split at h
    ·cases h
    ·simp only[Option.some.injEq,Prod.mk.injEq] at h;simp;omega
   ·cases h
def a3m(t:Int):Nat:=if t=1 then 2 else if t=2 then 8 else if t=3 then 1 else 0
def bigB:Nat→Int→List Int
 |0,_=>[]
 |w+1,x=>(x / 256 ^ w) % 256::bigB w x
theorem b4c:∀(w:Nat) (x:Int),(bigB w x).length=w
 |0,_=>rfl
 |w+1,x=>by simp[bigB,b4c w x]
theorem f0z:∀(w:Nat) (x:Int) (b:Int),b∈bigB w x→0≤b∧b≤255
 |0,_,b,h=>by simp[bigB] at h
 |w+1,x,b,h=>by
  rcases List.mem_cons.1 h with rfl|h
  ·omega
  ·exact f0z w x b h
def numT(l:List Int):Int:=l.foldl (fun a c=>a*256+c) 0
theorem f0u(l:List Int)(c:Int):numT (l++[c])=numT l*256+c:=by simp[numT]
theorem d3w:∀(l:List Int) (a:Int),l.foldl (fun a c=>a*256+c) a=a*256 ^ l.length+numT l
 |[],a=>by simp[numT]
 |c::l,a=>by
  have h2:numT (c::l)=(0*256+c)*256 ^ l.length+numT l:=by rw[numT,List.foldl_cons,d3w l (0*256+c)]
  rw[List.foldl_cons,d3w l,h2,List.length_cons,Int.pow_succ,Int.add_mul,Int.zero_mul,Int.zero_add,Int.mul_comm (256 ^ l.length) 256,←Int.mul_assoc,Int.add_assoc]
theorem d9a(c:Int)(l:List Int):numT (c::l)=c*256 ^ l.length+numT l:=by
 rw[numT,List.foldl_cons,d3w];simp
theorem e7f:∀(w:Nat) (x:Int),numT (bigB w x)=x % 256 ^ w
 |0,x=>by simp[bigB,numT,Int.emod_one]
 |w+1,x=>by
  rw[bigB,d9a,b4c,e7f w x,Int.pow_succ]
  have hp:(0:Int)<256 ^ w:=Int.pow_pos (by omega)
  have h1:=Int.emod_emod_of_dvd x (Int.dvd_mul_right (256 ^ w) 256)
  have h2:=Int.mul_ediv_add_emod (x % (256 ^ w*256)) (256 ^ w)
  have h3:x % (256 ^ w*256) / 256 ^ w=x / 256 ^ w % 256:=by
   rw[Int.emod_def x (256 ^ w*256),Int.mul_assoc,Int.sub_eq_add_neg,←Int.mul_neg,Int.add_mul_ediv_left _ _ (by omega),←Int.ediv_ediv_of_nonneg (by omega),Int.emod_def]
   omega
  rw[h1,h3,Int.mul_comm] at h2
  exact h2
theorem c4j:∀{l:List Int},(∀x,x∈l→0≤x∧x≤255)→0≤numT l∧numT l<256 ^ l.length
 |[],_=>by simp[numT]
 |c::l,h=>by
  obtain⟨h1,h2⟩:=c4j (l:=l) (fun x hx=>h x (List.mem_cons_of_mem _ hx))
  have h3:=h c (by simp)
  rw[d9a,List.length_cons,Int.pow_succ]
  have h4:=Int.mul_le_mul_of_nonneg_right h3.2 (show(0:Int)≤256 ^ l.length by exact Int.le_of_lt (Int.pow_pos (by omega)))
  have h5:=Int.mul_nonneg h3.1 (show(0:Int)≤256 ^ l.length by exact Int.le_of_lt (Int.pow_pos (by omega)))
  omega
def valB(v:Vl):List Int:=v.1::if v.1=4 then(v.2.2.1.length:Int)::v.2.2.1 else bigB (a3m v.1) v.2.1
def numV(t x:Int):Int:=if t=1 then IntKind.i16.wrap x else if t=2 then IntKind.i64.wrap x else x
def c4k(b:List Int):Option (Vl×Nat) :=
 match b with
 |[]=>none
 |t::r =>
  if t=4 then
   match r with
   |[]=>none
   |m::s=>if s.length<m.toNat then none else if m≤20 then some (((4:Int),(0:Int),s.take m.toNat,()),2+m.toNat) else none
  else if r.length<a3m t then none
  else if mayV (t,numV t (numT (r.take (a3m t))),[],()) then some ((t,numV t (numT (r.take (a3m t))),[],()),1+a3m t) else none
theorem d2j{b:List Int}{v:Vl}{k:Nat}(s:List Int)(h:c4k b=some (v,k)):c4k (b++s)=some (v,k):=by
 unfold c4k at h ⊢
 cases b with
 |nil=>cases h
 |cons t r =>
  rw[List.cons_append]
  dsimp only at h ⊢
  split at h
  ·rename_i ht
   rw[if_pos ht]
   cases r with
   |nil=>cases h
   |cons m q =>
    rw[List.cons_append]
    dsimp only at h ⊢
    split at h
    ·cases h
    ·rename_i h1
     rw[if_neg (by rw[List.length_append];omega),List.take_append_of_le_length (by omega)]
     exact h
  ·rename_i ht
   rw[if_neg ht]
   split at h
   ·cases h
   ·rename_i h1
    rw[if_neg (by rw[List.length_append];omega),List.take_append_of_le_length (by omega)]
    exact h
theorem c2j{b:List Int}{v:Vl}{k:Nat}(h:c4k b=some (v,k)):1≤k∧k≤b.length:=by
 unfold c4k at h
 cases b with
 |nil=>cases h
 |cons t r =>
  dsimp only at h
  split at h
  ·cases r with
   |nil=>cases h
   |cons m q =>
    dsimp only at h
    split at h
    ·cases h
    ·split at h
     ·simp only[Option.some.injEq,Prod.mk.injEq] at h
      simp;omega
     ·cases h
  ·split at h
   ·cases h
   ·split at h
    ·simp only[Option.some.injEq,Prod.mk.injEq] at h
     simp;omega
    ·cases h
theorem f8g{x:Int}(h:-32768≤x∧x≤32767):IntKind.i16.wrap (x % 65536)=x:=by
 simp only[IntKind.wrap,IntKind.bits,IntKind.signed]
 simp
 omega
theorem f2x{x:Int}(h:-9223372036854775808≤x∧x≤9223372036854775807):IntKind.i64.wrap (x % 18446744073709551616)=x:=by
 rw[a3i];omega
theorem f4y(x:Int):-32768≤IntKind.i16.wrap x∧IntKind.i16.wrap x≤32767:=by
 simp only[IntKind.wrap,IntKind.bits,IntKind.signed]
 simp
 omega
theorem c2e{v:Vl}(h:mayV v=true):(v.1=0∧v.2.1=0∧v.2.2.1=[])∨(v.1=1∧-32768≤v.2.1∧v.2.1≤32767∧v.2.2.1=[])∨(v.1=2∧v.2.2.1=[])∨(v.1=3∧(v.2.1=0∨v.2.1=1)∧v.2.2.1=[])∨(v.1=4∧v.2.1=0∧v.2.2.1.length≤20):=by
 have h2:=(a2n (t:=v.1) (v:=v) (by simp[a0w,h])).2
 omega
theorem e0w{v:Vl}(h:mayV v=true)(hv:okV v)(s:List Int):c4k (valB v++s)=some (v,(valB v).length):=by
 have hs:=c2e h
 obtain⟨t,i,l,u⟩:=v
 dsimp only at hs
 obtain⟨_,h64,_,_⟩:=hv
 dsimp only at h64
 unfold valB c4k
 dsimp only
 by_cases ht:t=4
 ·subst ht
  rw[if_pos rfl]
  obtain⟨rfl,hl⟩:i=0∧l.length≤20:=by omega
  simp only[List.cons_append,if_true]
  rw[if_neg (by simp),if_pos (by omega)]
  simp
  omega
 ·rw[if_neg ht,List.cons_append]
  dsimp only
  rw[if_neg ht,if_neg (by rw[List.length_append,b4c];omega),List.take_append_of_le_length (by rw[b4c];exact Nat.le_refl _),List.take_of_length_le (by rw[b4c];exact Nat.le_refl _),e7f]
  have hl:l=[]:=by
   rcases hs with h|h|h|h|h
   ·exact h.2.2
   ·exact h.2.2.2
   ·exact h.2
   ·exact h.2.2
   ·exact absurd h.1 ht
  subst hl
  have hx:numV t (i % 256 ^ a3m t)=i:=by
   unfold numV a3m
   rcases hs with⟨rfl,hs,_⟩|⟨rfl,h1,h2,_⟩|⟨rfl,_⟩|⟨rfl,hs,_⟩|⟨rfl,_⟩
   ·rw[if_neg (by decide),if_neg (by decide),if_neg (by decide),if_neg (by decide),if_neg (by decide)];omega
   ·rw[if_pos rfl,if_pos rfl];exact f8g ⟨h1,h2⟩
   ·rw[if_neg (by decide),if_pos rfl,if_neg (by decide),if_pos rfl];exact f2x h64
   ·rw[if_neg (by decide),if_neg (by decide),if_neg (by decide),if_neg (by decide),if_pos rfl];omega
   ·omega
  rw[hx,h]
  simp[b4c]
  omega
theorem f2k{v:Vl}(h:mayV v=true)(hv:okV v):∀x,x∈valB v→0≤x∧x≤255:=by
 intro x hx
 have hs:=c2e h
 unfold valB at hx
 rcases List.mem_cons.1 hx with rfl|hx
 ·omega
 ·split at hx
  ·rcases List.mem_cons.1 hx with rfl|hx
   ·omega
   ·exact hv.2.2.2 x hx
  ·exact f0z _ _ _ hx
theorem e5h{v:Vl}(h:mayV v=true):1≤(valB v).length∧(valB v).length≤22:=by
 have hs:=c2e h
 unfold valB
 rw[List.length_cons]
 split
 ·rw[List.length_cons];omega
 ·rw[b4c];unfold a3m;split <;> (try split) <;> (try split) <;> omega
def b2c(z:Zn):List Int:=putN z.1.toNat++(valB z.2.1++valB z.2.2.1)
def c2t(b:List Int):Option (Zn×Nat) :=
 match a5a b with
 |none=>none
 |some (u,k)=>if 9223372036854775808≤u then none else
  match c4k (b.drop k) with
  |none=>none
  |some (v,j)=>match c4k (b.drop (k+j)) with
   |none=>none
   |some (v',j')=>some (((u:Int),v,v',()),k+j+j')
theorem e8p{b:List Int}{z:Zn}{k:Nat}(s:List Int)(h:c2t b=some (z,k)):c2t (b++s)=some (z,k):=by
 unfold c2t at h ⊢
 split at h
 ·cases h
 ·rename_i u k1 h1
  rw[d3o s h1]
  dsimp only
  have g1:=d4p h1
  split at h
  ·cases h
  ·rename_i h2
   rw[if_neg h2]
   split at h
   ·cases h
   ·rename_i v j h3
    have g2:=c2j h3
    rw[List.length_drop] at g2
    rw[List.drop_append_of_le_length (by omega),d2j s h3]
    dsimp only
    rw[List.drop_append_of_le_length (by omega)]
    split at h
    ·cases h
    ·rename_i v' j' h4
     rw[d2j s h4]
     exact h
theorem f7o{b:List Int}{z:Zn}{k:Nat}(h:c2t b=some (z,k)):3≤k∧k≤b.length:=by
 unfold c2t at h
 split at h
 ·cases h
 ·rename_i u k1 h1
  have g1:=d4p h1
  split at h
  ·cases h
  ·split at h
   ·cases h
   ·rename_i v j h3
    have g2:=c2j h3
    rw[List.length_drop] at g2
    split at h
    ·cases h
    ·rename_i v' j' h4
     have g3:=c2j h4
     rw[List.length_drop] at g3
     simp only[Option.some.injEq,Prod.mk.injEq] at h
     omega
def mayZ(z:Zn):Prop:=0≤z.1∧z.1≤9223372036854775807∧mayV z.2.1=true∧okV z.2.1∧mayV z.2.2.1=true∧okV z.2.2.1
theorem e7o{z:Zn}(h:mayZ z)(s:List Int):c2t (b2c z++s)=some (z,(b2c z).length):=by
 obtain⟨h1,h2,h3,h4,h5,h6⟩:=h
 obtain⟨n,v,v',u⟩:=z
 dsimp only at h1 h2 h3 h4 h5 h6
 unfold c2t b2c
 dsimp only
 rw[List.append_assoc,a9n _ _ (by omega)]
 dsimp only
 rw[if_neg (by omega),List.drop_left,List.append_assoc,e0w h3 h4]
 dsimp only
 rw[←List.drop_drop,List.drop_left,List.drop_left,e0w h5 h6]
 simp only[List.length_append,Option.some.injEq,Prod.mk.injEq,and_true]
 omega
theorem f6m{z:Zn}(h:mayZ z):∀x,x∈b2c z→0≤x∧x≤255:=by
 obtain⟨h1,h2,h3,h4,h5,h6⟩:=h
 intro x hx
 unfold b2c at hx
 rcases List.mem_append.1 hx with hx|hx
 ·exact c3z _ _ hx
 ·rcases List.mem_append.1 hx with hx|hx
  ·exact f2k h3 h4 x hx
  ·exact f2k h5 h6 x hx
theorem d8d{z:Zn}(h:mayZ z):3≤(b2c z).length∧(b2c z).length≤54:=by
 obtain⟨h1,h2,h3,h4,h5,h6⟩:=h
 have g1:=e5h h3
 have g2:=e5h h5
 have g3:=c3h z.1.toNat
 have g4:=a5z (v:=z.1.toNat) (by omega)
 unfold b2c
 rw[List.length_append,List.length_append]
 omega
end Go.Rb
