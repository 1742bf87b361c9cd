/- What the functions on schemas compute: names, places, types. Own work. -/
import Derived.Test.YthkgkalebkbndaaGreatDoorLawD
import Derived.Test.YthkgkalebkbndaaGreatDoorRbE
import Derived.Lib.RuneCount
set_option autoImplicit false
set_option linter.unusedVariables false
set_option linter.unusedSimpArgs false
open Bool renaming and_eq_true->Af,eq_iff_iff->Ev,false_eq_true->AJ,not_true->C2,or_eq_true->BR,true_eq_false->Cd
open Go.Utf8 renaming decode->Ex
open Int renaming le_refl->Bu,natCast_nonneg->AW,toNat_natCast->Ah
open List renaming drop_length->BL,find?->Dd,find?_cons->Eu,getD_eq_getElem?_getD->BF,getElem_mem->A1,getElem_of_mem->Bf,length_cons->Bd,length_set->Bx,mem_append->Aq,mem_cons->A3,mem_cons_self->Cf,mem_singleton->BS,nil_append->B5,pairwise_append->EJ,pairwise_cons->Fc,pairwise_iff_getElem->BG,range->Ck,range_succ->B9,take_append_drop->Bw,take_length->AL
open List.Sublist renaming append_left->Il
open Nat renaming le_refl->Ar
open Option renaming bind_some->Ab,isSome_none->EI
open Option.some renaming injEq->Ad
open Prod.mk renaming injEq->Aj
namespace Go.Rb.R7
open Go.Rb
abbrev Cl:Type:=Int×List Int×Int×Unit
abbrev V:Type:=Int×Int×List Int×Unit
abbrev Sch:Type:=List Cl×Int×Unit
abbrev Lay:Type:=Int×Int×Int×List Int×Unit
abbrev Chg:Type:=Int×Int×List Int×Int×V×Int×Int×Unit
abbrev d0:V:=(0,0,[],())
abbrev k0:Cl:=(0,[],0,())
theorem a0h{α:Type}{l:List α}{i:Nat}{d:α}(hi:i<l.length):l.getD i d=l[i]:=by
 rw[BF,List.getElem?_eq_getElem hi];rfl
theorem a6s{α:Type}{l:List α}{i:Nat}{d:α}(hi:i<l.length):l.getD i d∈l:=by
 rw[a0h hi];exact A1 hi
def a5r(len:Nat)(p:Nat→Bool):Option Nat:=(Ck len).find? p
theorem a6x{len i:Nat}{p:Nat→Bool}(h:a5r len p=some i):i<len:=by
 have:=List.mem_of_find?_eq_some h;simpa using this
theorem c7s{len i:Nat}{p:Nat→Bool}(h:a5r len p=some i):p i=true:=List.find?_some h
theorem c0u{len:Nat}{p:Nat→Bool}:a5r len p=none↔∀i,i<len→p i=false:=by
 simp[a5r,List.find?_eq_none]
theorem d9i{len:Nat}{p q:Nat→Bool}(h:∀i,i<len→p i=q i):a5r len p=a5r len q:=by
 unfold a5r;have:∀l:List Nat,(∀i,i∈l→i<len)→l.find? p=l.find? q:=by
  intro l
  induction l with
  |nil=>intro _;rfl
  |cons a l ih =>
   intro hl;rw[Eu,Eu,h a (hl a Cf),ih fun i hi=>hl i (List.mem_cons_of_mem _ hi)]
 exact this _ fun i hi=>by simpa using hi
def anyN(len:Nat)(p:Nat→Bool):Bool:=(Ck len).any p
def allN(len:Nat)(p:Nat→Bool):Bool:=(Ck len).all p
theorem b5x{len:Nat}{p:Nat→Bool}:anyN len p=true↔∃i,i<len∧p i=true:=by simp[anyN]
theorem a5y{len:Nat}{p:Nat→Bool}:allN len p=true↔∀i,i<len→p i=true:=by simp[allN]
theorem a7y{len:Nat}{p:Nat→Bool}:(a5r len p).isSome=anyN len p:=by
 unfold a5r anyN;rw[Ev];simp
theorem d7u{len:Nat}{p:Nat→Bool}:(a5r len fun i=>!p i)=none↔allN len p=true:=by
 rw[c0u,a5y];simp
theorem a9k{R:Type}{body:(Int→Option R)→Int→Option R}(len:Nat)(p:Nat→Bool)(no fin:R){n:Nat}(hn:len<n)(hb:∀rec (i:Nat),i<len→body rec (i:Int)=if p i=true then rec ((i+1:Nat):Int) else some no)
  (he:∀rec,body rec (len:Int)=some fin):a1b body n (0:Int)=some (if allN len p=true then fin else no):=by
 rw[a7z len (fun i=>!p i) (fun _=>some no) (some fin) hn]
 ·cases hf:(Ck len).find? (fun i=>!p i) with
  |none=>rw[if_pos (d7u.1 hf)]
  |some j =>
   rw[if_neg];intro h;rw[←d7u] at h;unfold a5r at h;rw[h] at hf;cases hf
 ·intro rec i hi;rw[hb rec i hi];cases p i <;> rfl
 ·exact he
def b0v(b:Int):Bool:=decide (33≤b)&&decide (b≤126)
def a2q(nm:List Int):Bool:=decide (1≤nm.length)&&decide (nm.length≤12)&&allN nm.length fun i=>b0v (nm.getD i 0)
theorem a7k{n:Nat}{nm:List Int}(hn:nm.length<n)(hc:nm.length≤140737488355328):a4y n (nm,())=some ((a2q nm,()),()):=by
 unfold a4y;dsimp only;rw[a9k nm.length (fun i=>b0v (nm.getD i 0)) ((false,()),()) ((decide (1≤nm.length)&&decide (nm.length≤12),()),()) hn]
 ·unfold a2q;cases allN nm.length fun i=>b0v (nm.getD i 0) <;> simp
 ·intro rec i hi;have h1:(i:Int)<nm.length:=by omega
  simp only[h1,atI,decide_true,if_true,Ah,AW,and_self,a0d (show i<9223372036854775807 by omega),decide_eq_true_eq];unfold b0v;generalize nm.getD i 0=v;by_cases a:33≤v
  ·by_cases b:v≤126
   ·have h2:¬(v<33):=by omega
    have h3:¬(126<v):=by omega
    simp[a,b,h2,h3]
   ·have h2:¬(v<33):=by omega
    have h3:126<v:=by omega
    simp[a,b,h2,h3]
  ·have h2:v<33:=by omega
   simp[a,h2]
 ·intro rec;by_cases a:1≤nm.length
  ·have:(1:Int)≤nm.length:=by omega
   have h2:((nm.length:Int)≤12)↔nm.length≤12:=by omega
   simp[a,this,h2]
  ·have:¬(1:Int)≤nm.length:=by omega
   simp[a,this]
def badB(b:Nat):Prop:=b<33∨126<b
theorem d8c{G:Int→Option Bool}(hG:∀c,G c=some (decide (c<33)||decide (126<c)))(s:ByteArray):∀(f pos:Nat),s.size≤pos+f →
  ∃r,c3m G true s f pos=some r∧(0≤r↔∃k,pos≤k∧∃h:k<s.size,badB (s[k]'h).toNat)
 |0,pos,h=>⟨-1,rfl,by
  constructor
  ·intro h;omega
  ·rintro⟨k,h1,h2,_⟩;omega⟩
 |f+1,pos,h=>by
  unfold c3m;by_cases hp:pos<s.size
  ·rw[if_pos hp,hG];dsimp only;by_cases ha:(s[pos]'hp).toNat<128
   ·rw[decode_ascii s pos hp ha];dsimp only;by_cases hb:badB (s[pos]'hp).toNat
    ·have:(decide (((s[pos]'hp).toNat:Int)<33)||decide (126<((s[pos]'hp).toNat:Int)))=true:=by
      unfold badB at hb;simp;omega
     rw[if_pos this];exact⟨_,rfl,fun _=>⟨pos,Ar _,hp,hb⟩,fun _=>by omega⟩
    ·have:¬(decide (((s[pos]'hp).toNat:Int)<33)||decide (126<((s[pos]'hp).toNat:Int)))=true:=by
      unfold badB at hb;simp;omega
     rw[if_neg this];obtain⟨r,h1,h2⟩:=d8c hG s f (pos+1) (by omega);refine⟨r,h1,h2.trans ⟨fun⟨k,q1,q2,q3⟩=>⟨k,by omega,q2,q3⟩,fun⟨k,q1,q2,q3⟩=>?_⟩⟩;by_cases hk:k=pos
     ·subst hk;exact absurd q3 hb
     ·exact⟨k,by omega,q2,q3⟩
   ·have hh:=decode_high s pos hp (by omega);have:(decide (((Ex s pos).1:Int)<33)||decide (126<((Ex s pos).1:Int)))=true:=by
     simp;omega
    rw[if_pos this];exact⟨_,rfl,fun _=>⟨pos,Ar _,hp,.inr (by omega)⟩,fun _=>by omega⟩
  ·rw[if_neg hp];exact⟨_,rfl,fun h=>by omega,fun⟨k,q1,q2,_⟩=>by omega⟩
theorem a9t{n:Nat}{nm:List Int}(hb:∀b,b∈nm→0≤b∧b≤255):a5k n (nm,())=some ((a2q nm,()),()):=by
 unfold a5k a7h a9p a4z ifF;dsimp only;have hsz:(toBA nm).size=nm.length:=by simp[toBA,ByteArray.size]
 obtain⟨r,h1,h2⟩:=d8c (G:=fun c=>(a7o n (c,())).bind fun r=>some r.1.1) (fun c=>by
  unfold a7o;by_cases a:c<33 <;> simp[a]) (toBA nm) nm.length 0 (by omega)
 rw[h1];simp only[Ab];unfold a2q;by_cases a:1≤nm.length
 ·have a':(1:Int)≤nm.length:=by omega
  by_cases b:nm.length≤12
  ·have b':(nm.length:Int)≤12:=by omega
   have key:(0≤r)↔¬(allN nm.length (fun i=>b0v (nm.getD i 0))=true):=by
    rw[h2,a5y];have hget:∀k (hk:k<nm.length) (hk':k<(toBA nm).size),(((toBA nm)[k]'hk').toNat:Int)=nm.getD k 0:=fun k hk hk'=>by
     have hm:=hb _ (A1 hk);rw[a0h hk];have:(toBA nm)[k]'hk'=(nm[k]).toNat.toUInt8:=by
      show((nm.map fun c=>c.toNat.toUInt8).toArray)[k]'_=_;simp
     rw[this];simp only[Nat.toUInt8,UInt8.toNat_ofNat'];omega
    constructor
    ·rintro⟨k,_,hk,hbad⟩ hall;have:=hall k (by omega);have hg:=hget k (by omega) hk;unfold b0v at this;unfold badB at hbad;simp at this;simp only[BF] at hg;omega
    ·intro hne;simp only[Classical.not_forall] at hne;obtain⟨k,hk,hno⟩:=hne;have hg:=hget k hk (by omega);refine⟨k,by omega,by omega,?_⟩;unfold b0v at hno;unfold badB;simp at hno;simp only[BF] at hg;omega
   generalize allN nm.length (fun i=>b0v (nm.getD i 0))=q at key;by_cases hr:0≤r
   ·have:=key.1 hr;simp[a,a',b,b',hr,this]
   ·have:q=true:=by
     rw[key] at hr;simpa using hr
    simp[a,a',b,b',hr,this]
  ·have b':¬(nm.length:Int)≤12:=by omega
   simp[a,a',b,b']
 ·have a':¬(1:Int)≤nm.length:=by omega
  simp[a,a']
end Go.Rb.R7

namespace Go.Rb.R7
open Go.Rb
def byId(cols:List Cl)(id:Int):Option Nat:=a5r cols.length fun i=>decide ((cols.getD i k0).1=id)
def a9i(cols:List Cl)(nm:List Int):Option Nat:=a5r cols.length fun i=>decide ((cols.getD i k0).2.1=nm)
def atR:Option Nat→Int×Bool×Unit
 |some i=>((i:Int),true,())
 |none=>(0,false,())
theorem a1u{n:Nat}{cols:List Cl}{g:Cl→Option Bool}{p:Cl→Bool}(hg:∀c,g c=some (p c))(hn:cols.length<n)(hc:cols.length≤1000) :
  a0k n (cols,g,())=some (((match a5r cols.length fun i=>p (cols.getD i k0) with|some i=>(i:Int)|none=>-1),()),()):=by
 unfold a0k;dsimp only;rw[a7z cols.length (fun i=>p (cols.getD i k0)) (fun i=>some (((i:Int),()),())) (some ((-1,()),())) hn]
 ·unfold a5r;cases Dd _ _ <;> rfl
 ·intro rec i hi;have h1:(i:Int)<cols.length:=by omega
  simp only[h1,atI,decide_true,if_true,Ah,AW,and_self,hg,Ab,a0d (show i<9223372036854775807 by omega)]
 ·intro rec;simp
theorem f6d(o:Option Nat):((if(0:Int)≤(match o with|some i=>(i:Int)|none=>-1) then(match o with|some i=>(i:Int)|none=>-1) else 0),decide ((0:Int)≤(match o with|some i=>(i:Int)|none=>-1)),())=atR o:=by
 cases o <;> simp[atR]
theorem b2n{n:Nat}{s:Sch}{id:Int}(hn:s.1.length<n)(hc:s.1.length≤1000):a8g n (s,id,())=some (atR (byId s.1 id),()):=by
 unfold a8g;dsimp only;rw[a1u (g:=fun c=>(b3t n (c,id,())).bind fun r=>some r.1.1) (p:=fun c=>decide (c.1=id)) (fun c=>rfl) hn hc];simp only[Ab];rw[f6d];rfl
theorem c5t{n:Nat}{s:Sch}{nm:List Int}(hn:s.1.length<n)(hc:s.1.length≤1000):b2t n (s,nm,())=some (atR (a9i s.1 nm),()):=by
 unfold b2t;dsimp only;rw[a1u (g:=fun c=>(b3h n (c,nm,())).bind fun r=>some r.1.1) (p:=fun c=>decide (c.2.1=nm)) (fun c=>rfl) hn hc];simp only[Ab];rw[f6d];rfl
theorem a8a{n:Nat}{s:Sch}{id:Int}(hn:s.1.length<n)(hc:s.1.length≤1000):a6r n (s,id,())=some (atR (byId s.1 id),()):=by
 unfold a6r;dsimp only;rw[a7z s.1.length (fun i=>decide ((s.1.getD i k0).1=id)) (fun i=>some (((i:Int),true,()),())) (some ((0,false,()),())) hn]
 ·unfold byId a5r atR;cases Dd _ _ <;> rfl
 ·intro rec i hi;have h1:(i:Int)<s.1.length:=by omega
  simp only[h1,atI,decide_true,if_true,Ah,AW,and_self,a0d (show i<9223372036854775807 by omega)]
 ·intro rec;simp
theorem b8j{n:Nat}{s:Sch}{nm:List Int}(hn:s.1.length<n)(hc:s.1.length≤1000):b2b n (s,nm,())=some (atR (a9i s.1 nm),()):=by
 unfold b2b;dsimp only;rw[a7z s.1.length (fun i=>decide ((s.1.getD i k0).2.1=nm)) (fun i=>some (((i:Int),true,()),())) (some ((0,false,()),())) hn]
 ·unfold a9i a5r atR;cases Dd _ _ <;> rfl
 ·intro rec i hi;have h1:(i:Int)<s.1.length:=by omega
  simp only[h1,atI,decide_true,if_true,Ah,AW,and_self,a0d (show i<9223372036854775807 by omega)]
 ·intro rec;simp
def a4c(t:Int):Bool:=decide (1≤t)&&decide (t≤4)
theorem b6w(n:Nat)(t:Int):b0i n (t,())=some ((a4c t,()),()):=by
 unfold b0i a4c;by_cases a:1≤t <;> simp[a]
theorem b5o(n:Nat)(t:Int):a9e n (t,())=some ((a4c t,()),()):=by
 unfold a9e a4c;by_cases a:1≤t <;> simp[a]
def b4b(a b:Cl):Bool:=decide (a.1=b.1)||decide (a.2.1=b.2.1)
def d0b(s:Sch)(i:Nat):Bool :=
 decide (1≤(s.1.getD i k0).1)&&decide ((s.1.getD i k0).1≤s.2.1)&&a2q (s.1.getD i k0).2.1&&a4c (s.1.getD i k0).2.2.1&&!anyN i fun k=>b4b (s.1.getD k k0) (s.1.getD i k0)
def d7k(s:Sch):Bool:=decide (1≤s.1.length)&&decide (s.1.length≤6)&&decide (s.2.1≤10000)
def mayS(s:Sch):Bool:=allN s.1.length (d0b s)&&d7k s
theorem a6b{n:Nat}{cols:List Cl}{g:Cl→Option Bool}{p:Cl→Bool}(hg:∀c,g c=some (p c))(hn:cols.length<n)(hc:cols.length≤1000) :
  a0y n (cols,g,())=some ((anyN cols.length (fun i=>p (cols.getD i k0)),()),()):=by
 unfold a0y;dsimp only;rw[a1u hg hn hc];simp only[Ab];rw[←a7y];cases a5r cols.length fun i=>p (cols.getD i k0) <;> simp
theorem e5d{len:Nat}{p q:Nat→Bool}(h:∀i,i<len→p i=q i):anyN len p=anyN len q:=by
 rw[←a7y,←a7y,d9i h]
theorem e7m(s:Sch):(if(decide ((1:Int)≤(s.1.length:Int)))=true then(if(decide ((s.1.length:Int)≤6))=true then(some (((decide (s.2.1≤10000)),()),())) else(some ((false,()),()))) else(some ((false,()),())):Option ((Bool×Unit)×Unit))=some ((d7k s,()),()):=by
 unfold d7k;by_cases a:1≤s.1.length
 ·have a':(1:Int)≤s.1.length:=by omega
  by_cases b:s.1.length≤6
  ·have b':(s.1.length:Int)≤6:=by omega
   simp[a,a',b,b']
  ·have b':¬(s.1.length:Int)≤6:=by omega
   simp[a,a',b,b']
 ·have a':¬(1:Int)≤s.1.length:=by omega
  simp[a,a']
theorem e2o{R:Type}(c:Cl)(last:Int)(q:Bool)(no go:Option R) :
  (if decide (c.1<1)=true then no else if decide (last<c.1)=true then no else if(!a2q c.2.1)=true then no else if(!a4c c.2.2.1)=true then no else if q=true then no else go) =
   if(decide (1≤c.1)&&decide (c.1≤last)&&a2q c.2.1&&a4c c.2.2.1&&!q)=true then go else no:=by
 by_cases a:1≤c.1
 ·have a':¬c.1<1:=by omega
  by_cases b:c.1≤last
  ·have b':¬last<c.1:=by omega
   simp only[a,a',b,b',decide_true,decide_false,Bool.true_and,AJ,if_false];cases a2q c.2.1 <;> cases a4c c.2.2.1 <;> cases q <;> simp
  ·have b':last<c.1:=by omega
   simp[a,a',b,b']
 ·have a':c.1<1:=by omega
  simp[a,a']
theorem e7y{R:Type}(c d:Cl)(no go:Option R):(if decide (c.1=d.1)=true then no else if decide (c.2.1=d.2.1)=true then no else go)=if b4b c d=true then no else go:=by
 unfold b4b;by_cases a:c.1=d.1
 ·simp[a]
 ·by_cases b:c.2.1=d.2.1 <;> simp[a,b]
theorem d3j{R:Type}{body:(Int→Option R)→Int→Option R}(len:Nat)(p:Nat→Bool)(no fin:Option R){n:Nat}(hn:len<n)(hb:∀rec (i:Nat),i<len→body rec (i:Int)=if p i=true then no else rec ((i+1:Nat):Int))
  (he:∀rec,body rec (len:Int)=fin):a1b body n (0:Int)=if anyN len p=true then no else fin:=by
 rw[a7z len p (fun _=>no) fin hn hb he,←a7y];unfold a5r;cases(Ck len).find? p <;> rfl
theorem f4g{R:Type}(v:Int)(no go:Option R):(if decide (v<1)=true then no else if decide (5<v)=true then no else go)=if(decide (1≤v)&&decide (v≤5))=true then go else no:=by
 by_cases a:1≤v
 ·have a':¬v<1:=by omega
  by_cases b:v≤5
  ·have b':¬5<v:=by omega
   simp[a,a',b,b']
  ·have b':5<v:=by omega
   simp[a,a',b,b']
 ·have a':v<1:=by omega
  simp[a,a']
theorem d5z(len:Nat):(allN len fun _=>true)=true:=by simp[allN]
theorem b8a{n:Nat}{s:Sch}(hn:s.1.length<n)(hc:s.1.length≤1000)(hb:∀c,c∈s.1→a1v c.2.1):b1w n (s,())=some ((mayS s,()),()):=by
 unfold b1w;dsimp only;rw[a9k s.1.length (d0b s) ((false,()),()) ((d7k s,()),()) hn]
 ·unfold mayS;cases allN s.1.length (d0b s) <;> simp
 ·intro rec i hi;have h1:(i:Int)<s.1.length:=by omega
  have h2:(0:Int)≤(i:Int)∧(i:Int)≤(s.1.length:Int):=by omega
  have hbi:a1v (s.1.getD i k0).2.1:=hb _ (a6s hi);have hl:((s.1.take i).drop 0).length=i:=by simp;omega
  simp only[h1,h2,atI,decide_true,if_true,Ah,AW,and_self,a0d (show i<9223372036854775807 by omega),a9t hbi,b6w,Ab,Int.toNat_zero];rw[a6b (p:=fun c=>b4b c (s.1.getD i k0)) (fun c=>by
   unfold b5b b4b;by_cases a:c.1=(s.1.getD i k0).1
   ·simp only[a,decide_true,if_true,Ab,Bool.true_or]
   ·simp only[a,decide_false,AJ,if_false,Ab,Bool.false_or]) (by omega) (by omega)]
  simp only[Ab];have hany:(anyN ((s.1.take i).drop 0).length fun k=>b4b (((s.1.take i).drop 0).getD k k0) (s.1.getD i k0))=anyN i fun k=>b4b (s.1.getD k k0) (s.1.getD i k0):=by
   rw[hl];refine e5d fun k hk=>?_
   congr 1;simp only[List.drop_zero,BF,List.getElem?_take,hk,if_true]
  rw[hany];exact e2o (s.1.getD i k0) s.2.1 _ _ _
 ·intro rec;rw[if_neg (by simp)];exact e7m s
theorem d5y{nm:List Int}(h:a2q nm=true):nm.length≤12:=by
 unfold a2q at h;simp only[Af,decide_eq_true_eq] at h;exact h.1.2
theorem c0b{n:Nat}{s:Sch}(hn:s.1.length<n)(hc:s.1.length≤1000)(hb:∀c,c∈s.1→c.2.1.length<n∧c.2.1.length≤140737488355328):b3j n (s,())=some ((mayS s,()),()):=by
 unfold b3j;dsimp only;rw[a9k s.1.length (d0b s) ((false,()),()) ((d7k s,()),()) hn]
 ·unfold mayS;cases allN s.1.length (d0b s) <;> simp
 ·intro rec i hi;have h1:(i:Int)<s.1.length:=by omega
  have hbi:=hb _ (a6s (d:=k0) hi);simp only[h1,atI,decide_true,if_true,Ah,AW,and_self,a0d (show i<9223372036854775807 by omega),a7k hbi.1 hbi.2,b5o,Ab];rw[d3j i (fun k=>b4b (s.1.getD k k0) (s.1.getD i k0)) (some ((false,()),())) (rec ((i+1:Nat):Int)) (by omega)]
  ·exact e2o (s.1.getD i k0) s.2.1 _ _ _
  ·intro rec' k hk;have h3:(k:Int)<s.1.length:=by omega
   have h4:(k:Int)<(i:Int):=by omega
   simp only[h3,h4,atI,decide_true,if_true,Ah,AW,and_self,a0d (show k<9223372036854775807 by omega)];exact e7y (s.1.getD k k0) (s.1.getD i k0) _ _
  ·intro rec';simp
 ·intro rec;rw[if_neg (by simp)];exact e7m s
def isB(s:Sch)(id:Int)(none:Bool):Bool:=(byId s.1 id).isSome||(none&&decide (id=0))
theorem b1j{n:Nat}{s:Sch}{id:Int}{b:Bool}(hn:s.1.length<n)(hc:s.1.length≤1000):a9w n (s,id,b,())=some ((isB s id b,()),()):=by
 unfold a9w isB;dsimp only;rw[b2n hn hc];simp only[Ab];cases byId s.1 id <;> cases b <;> simp[atR]
def b5g(e:Int):Bool:=decide (1≤e)&&decide (e≤5)
theorem b2o(n:Nat)(t:Int):a6i n (t,())=some ((b5g t,()),()):=by
 unfold a6i b5g;by_cases a:1≤t <;> simp[a]
def mayL(s:Sch)(l:Lay):Bool :=
 isB s l.1 true&&(decide (1≤l.2.2.1)&&decide (l.2.2.1≤4))&&isB s l.2.1 (decide (l.2.2.1=1))&&decide (l.2.2.2.1.length=s.1.length)&&allN l.2.2.2.1.length fun i=>b5g (l.2.2.2.1.getD i 0)
theorem b1o{n:Nat}{cols:List Int}{g:Int→Option Bool}{p:Int→Bool}(hg:∀c,g c=some (p c))(hn:cols.length<n)(hc:cols.length≤1000) :
  a3h n (cols,g,())=some (((match a5r cols.length fun i=>p (cols.getD i 0) with|some i=>(i:Int)|none=>-1),()),()):=by
 unfold a3h;dsimp only;rw[a7z cols.length (fun i=>p (cols.getD i 0)) (fun i=>some (((i:Int),()),())) (some ((-1,()),())) hn]
 ·unfold a5r;cases Dd _ _ <;> rfl
 ·intro rec i hi;have h1:(i:Int)<cols.length:=by omega
  simp only[h1,atI,decide_true,if_true,Ah,AW,and_self,hg,Ab,a0d (show i<9223372036854775807 by omega)]
 ·intro rec;simp
theorem c9p{len:Nat}{p:Nat→Bool}:(!anyN len fun i=>!p i)=allN len p:=by
 rw[Ev,a5y];have:=b5x (len:=len) (p:=fun i=>!p i);cases h:anyN len fun i=>!p i with
 |false =>
  simp only[h,AJ,false_iff,not_exists,not_and] at this;simp;intro i hi;simpa using this i hi
 |true =>
  simp only[h,true_iff] at this;obtain⟨i,hi,hp⟩:=this;simp;exact⟨i,hi,by simpa using hp⟩
theorem b1y{n:Nat}{s:Sch}{l:Lay}(hn:s.1.length<n)(hc:s.1.length≤1000):a5z n (s,l,())=some ((mayL s l,()),()):=by
 unfold a5z mayL;dsimp only;rw[b1j hn hc];simp only[Ab];rw[b1j hn hc];simp only[Ab];by_cases hl:l.2.2.2.1.length=s.1.length
 ·have hl':(l.2.2.2.1.length:Int)=s.1.length:=by omega
  unfold a3v;rw[b1o (cols:=l.2.2.2.1) (g:=fun c=>(a6e n (c,())).bind fun r=>some r.1.1) (p:=fun c=>!b5g c) (fun c=>by unfold a6e;dsimp only;rw[b2o];rfl) (by omega) (by omega)];simp only[Ab];rw[←c9p,←a7y];generalize a5r l.2.2.2.1.length (fun i=>!b5g (l.2.2.2.1.getD i 0))=q;cases isB s l.1 true
  ·simp
  ·cases isB s l.2.1 (decide (l.2.2.1=1))
   ·by_cases a:1≤l.2.2.1
    ·by_cases b:l.2.2.1≤4 <;> simp[a,b]
    ·simp[a]
   ·by_cases a:1≤l.2.2.1
    ·by_cases b:l.2.2.1≤4
     ·cases q <;> simp[a,b,hl,hl']
     ·simp[a,b]
    ·simp[a]
 ·have hl':¬(l.2.2.2.1.length:Int)=s.1.length:=by omega
  cases isB s l.1 true
  ·simp
  ·cases isB s l.2.1 (decide (l.2.2.1=1))
   ·by_cases a:1≤l.2.2.1
    ·by_cases b:l.2.2.1≤4 <;> simp[a,b]
    ·simp[a]
   ·by_cases a:1≤l.2.2.1
    ·by_cases b:l.2.2.1≤4 <;> simp[a,b,hl,hl']
    ·simp[a]
theorem b2p{n:Nat}{s:Sch}{l:Lay}(hn:s.1.length<n)(hc:s.1.length≤1000)(he:l.2.2.2.1.length<n)(he2:l.2.2.2.1.length≤1000):a6h n (s,l,())=some ((mayL s l,()),()):=by
 unfold a6h;dsimp only;rw[a8a hn hc];simp only[Ab];rw[a8a hn hc];simp only[Ab];rw[a9k l.2.2.2.1.length (fun i=>b5g (l.2.2.2.1.getD i 0)) ((false,()),()) ((isB s l.1 true&&(decide (1≤l.2.2.1)&&decide (l.2.2.1≤4))&&isB s l.2.1 (decide (l.2.2.1=1))&&decide (l.2.2.2.1.length=s.1.length),()),()) he]
 ·unfold mayL;cases(allN l.2.2.2.1.length fun i=>b5g (l.2.2.2.1.getD i 0)) <;> simp
 ·intro rec i hi;have h1:(i:Int)<l.2.2.2.1.length:=by omega
  simp only[h1,atI,decide_true,if_true,Ah,AW,and_self,a0d (show i<9223372036854775807 by omega)];exact f4g _ _ _
 ·intro rec;rw[if_neg (by simp)];have hl:((l.2.2.2.1.length:Int)=s.1.length)↔l.2.2.2.1.length=s.1.length:=by omega
  unfold isB;simp only[hl];cases byId s.1 l.1 <;> cases byId s.1 l.2.1 <;> by_cases z1:l.1=0 <;> by_cases a:1≤l.2.2.1 <;> by_cases b:l.2.2.1≤4 <;> by_cases z2:l.2.1=0 <;> by_cases z3:l.2.2.1=1 <;> simp[atR,z1,a,b,z2,z3]
def mayV(v:V):Bool :=
 if v.1=0 then decide (v.2.1=0)&&decide (v.2.2.1=[])
 else if v.1=1 then decide (-32768≤v.2.1)&&decide (v.2.1≤32767)&&decide (v.2.2.1=[])
 else if v.1=2 then decide (v.2.2.1=[])
 else if v.1=3 then(decide (v.2.1=0)||decide (v.2.1=1))&&decide (v.2.2.1=[])
 else if v.1=4 then decide (v.2.1=0)&&decide (v.2.2.1.length≤20)
 else false
def b1a(t:Int)(v:V):Bool:=mayV v&&a4c t&&(decide (v.1=0)||decide (v.1=t))
theorem d0c(n:Nat)(v:V):b6b n (v,())=some ((mayV v,()),()):=by
 obtain⟨t,i,s,u⟩:=v;unfold b6b mayV;dsimp only;by_cases h1:t=1
 ·subst h1;by_cases a:i < -32768
  ·have:¬(-32768≤i):=by omega
   simp[a,this]
  ·by_cases b:32767<i
   ·have:¬(i≤32767):=by omega
    simp[a,b,this]
   ·have h1:-32768≤i:=by omega
    have h2:i≤32767:=by omega
    simp[a,b,h1,h2]
 ·by_cases h2:t=2
  ·subst h2;simp
  ·by_cases h0:t=0
   ·subst h0;by_cases a:i=0 <;> simp[a]
   ·by_cases h3:t=3
    ·subst h3;by_cases a:i=0
     ·simp[a]
     ·by_cases b:i=1 <;> simp[a,b]
    ·by_cases h4:t=4
     ·subst h4;by_cases a:i=0
      ·simp only[a];have:((s.length:Int)≤20)↔s.length≤20:=by omega
       simp[this]
      ·simp[a]
     ·simp[h0,h1,h2,h3,h4]
theorem d5a(n:Nat)(v:V):b9t n (v,())=some ((mayV v,()),()):=by
 obtain⟨t,i,s,u⟩:=v;unfold b9t mayV;dsimp only;by_cases h0:t=0
 ·subst h0;by_cases a:i=0 <;> simp[a]
 ·by_cases h1:t=1
  ·subst h1;by_cases a:-32768≤i
   ·by_cases b:i≤32767 <;> simp[a,b]
   ·simp[a]
  ·by_cases h2:t=2
   ·subst h2;simp
   ·by_cases h3:t=3
    ·subst h3;by_cases a:i=0
     ·simp[a]
     ·by_cases b:i=1 <;> simp[a,b]
    ·by_cases h4:t=4
     ·subst h4;by_cases a:i=0
      ·simp only[a];have:((s.length:Int)≤20)↔s.length≤20:=by omega
       simp[this]
      ·simp[a]
     ·simp[h0,h1,h2,h3,h4]
theorem b7g(n:Nat)(t:Int)(v:V):b0b n (t,v,())=some ((b1a t v,()),()):=by
 unfold b0b b1a a4c;rw[d0c];simp only[Ab];cases mayV v
 ·simp
 ·by_cases h1:1≤t
  ·by_cases h2:t≤4
   ·by_cases h3:v.1=0 <;> simp[h1,h2,h3]
   ·simp[h1,h2]
  ·simp[h1]
theorem c0i(n:Nat)(t:Int)(v:V):b3o n (t,v,())=some ((b1a t v,()),()):=by
 unfold b3o b1a a4c;rw[d5a];simp only[Ab,b6e];cases mayV v
 ·simp
 ·by_cases h1:1≤t
  ·by_cases h2:t≤4
   ·by_cases h3:v.1=0 <;> simp[h1,h2,h3]
   ·simp[h1,h2]
  ·simp[h1]
def a7g(cols:List Cl)(row:List V):Bool:=decide (row.length=cols.length)&&allN cols.length fun i=>b1a (cols.getD i k0).2.2.1 (row.getD i d0)
theorem a9s{cols:List Cl}{row:List V}:a7g cols row=true↔row.length=cols.length∧∀i,i<cols.length→b1a (cols.getD i k0).2.2.1 (row.getD i d0)=true:=by
 unfold a7g;rw[Af,a5y,decide_eq_true_eq]
theorem b6u{n:Nat}{s:Sch}{row:List V}(hn:s.1.length<n)(hc:s.1.length≤1000):b0s n (s,row,())=some ((a7g s.1 row,()),()):=by
 unfold b0s a0p a7g;dsimp only;by_cases hl:row.length=s.1.length
 ·have h1:(s.1.length:Int)=(row.length:Int):=by omega
  rw[if_neg (by simp[h1]),a9k s.1.length (fun i=>b1a (s.1.getD i k0).2.2.1 (row.getD i d0)) ((false,()),()) ((true,()),()) hn]
  ·cases(allN s.1.length fun i=>b1a (s.1.getD i k0).2.2.1 (row.getD i d0)) <;> simp[hl]
  ·intro rec i hi;have h2:(i:Int)<s.1.length:=by omega
   have h3:(i:Int)<row.length:=by omega
   simp only[h2,h3,atI,b3i,b7g,a0d (show i<9223372036854775807 by omega),decide_true,if_true,Ah,Ab,and_self,AW];cases b1a (s.1.getD i k0).2.2.1 (row.getD i d0) <;> simp
  ·intro rec;simp
 ·have h1:¬(s.1.length:Int)=(row.length:Int):=by omega
  simp[h1,hl]
theorem b7c{n:Nat}{s:Sch}{row:List V}(hn:s.1.length<n)(hc:s.1.length≤1000):b1s n (s,row,())=some ((a7g s.1 row,()),()):=by
 unfold b1s a7g;dsimp only;by_cases hl:row.length=s.1.length
 ·have h1:(row.length:Int)=(s.1.length:Int):=by omega
  rw[if_neg (by simp[h1]),hl,a9k s.1.length (fun i=>b1a (s.1.getD i k0).2.2.1 (row.getD i d0)) ((false,()),()) ((true,()),()) hn]
  ·cases(allN s.1.length fun i=>b1a (s.1.getD i k0).2.2.1 (row.getD i d0)) <;> simp
  ·intro rec i hi;have h2:(i:Int)<s.1.length:=by omega
   simp only[h2,atI,c0i,a0d (show i<9223372036854775807 by omega),decide_true,if_true,Ah,Ab,and_self,AW];cases b1a (s.1.getD i k0).2.2.1 (row.getD i d0) <;> simp
  ·intro rec;simp
 ·have h1:¬(row.length:Int)=(s.1.length:Int):=by omega
  simp[h1,hl]
theorem b7f{n:Nat}{l:List Int}(hn:l.length<n)(hc:l.length≤1000):a3z n (l,l,())=some ((true,()),()):=by
 unfold a3z;dsimp only;rw[if_neg (by simp),a9k l.length (fun _=>true) ((false,()),()) ((true,()),()) hn]
 ·rw[if_pos (d5z _)]
 ·intro rec i hi;have h2:(i:Int)<l.length:=by omega
  simp[h2,atI,a0d (show i<9223372036854775807 by omega)]
 ·intro rec;simp
theorem b0r{n:Nat}{l:Lay}(hn:l.2.2.2.1.length<n)(hc:l.2.2.2.1.length≤1000):a2e n (l,l,())=some ((true,()),()):=by
 unfold a2e;dsimp only;rw[b7f hn hc];simp
theorem b0p{n:Nat}{s:Sch}(hn:s.1.length<n)(hc:s.1.length≤1000):a1s n (s,s,())=some ((true,()),()):=by
 unfold a1s;dsimp only;rw[if_neg (by simp),if_neg (by simp),a9k s.1.length (fun _=>true) ((false,()),()) ((true,()),()) hn]
 ·rw[if_pos (d5z _)]
 ·intro rec i hi;have h2:(i:Int)<s.1.length:=by omega
  simp[h2,atI,a0d (show i<9223372036854775807 by omega)]
 ·intro rec;simp
end Go.Rb.R7

namespace Go.Rb.R7
open Go.Rb
abbrev Res:Type:=Sch×Lay×Int×Unit
abbrev Wk:Type:=Sch×Lay×Chg×Int×Unit
def bad(e:Int):Res:=(([],0,()),(0,0,0,[],()),e,())
def c4n(l:Lay)(c:Chg):Bool:=decide (l.1=c.2.1)||decide (l.2.1=c.2.1)
def b2y(s:Sch):Bool:=decide (6≤s.1.length)||decide (10000≤s.2.1)
def insS(s:Sch)(l:Lay)(nm:List Int)(i:Nat)(t:Int):Res :=
 ((s.1.take i++([(s.2.1+1,nm,t,())]++s.1.drop i),s.2.1+1,()),(l.1,l.2.1,l.2.2.1,l.2.2.2.1.take i++([1]++l.2.2.2.1.drop i),()),0,())
def addS(s:Sch)(l:Lay)(c:Chg):Res :=
 if a2q c.2.2.1=false then bad 1
 else if a4c c.2.2.2.1=false then bad 1
 else if(a9i s.1 c.2.2.1).isSome=true then bad 9
 else if b1a c.2.2.2.1 c.2.2.2.2.1=false then bad 4
 else if b2y s=true then bad 6
 else insS s l c.2.2.1 s.1.length c.2.2.2.1
def e0c(s:Sch)(l:Lay)(c:Chg)(i:Nat):Res :=
 if s.1.length=1 then bad 1 else if c4n l c=true then bad 1
 else((s.1.take i++s.1.drop (i+1),s.2.1,()),(l.1,l.2.1,l.2.2.1,l.2.2.2.1.take i++l.2.2.2.1.drop (i+1),()),0,())
def b2a(s:Sch)(nm:List Int)(but:Option Nat):Int :=
 if a2q nm=false then 1 else match a9i s.1 nm with
 |some j=>if some j=but then 0 else 9
 |none=>0
def renS(s:Sch)(l:Lay)(c:Chg)(i:Nat):Res :=
 if b2a s c.2.2.1 (some i)=0 then((s.1.set i ((s.1.getD i k0).1,c.2.2.1,(s.1.getD i k0).2.2),s.2.1,()),l,0,()) else bad (b2a s c.2.2.1 (some i))
def widS(s:Sch)(l:Lay)(_c:Chg)(i:Nat):Res :=
 if(s.1.getD i k0).2.2.1=3 then((s.1.set i ((s.1.getD i k0).1,(s.1.getD i k0).2.1,1,()),s.2.1,()),l,0,())
 else if(s.1.getD i k0).2.2.1=1 then((s.1.set i ((s.1.getD i k0).1,(s.1.getD i k0).2.1,2,()),s.2.1,()),l,0,())
 else bad 4
def spl(s:Sch)(l:Lay)(c:Chg)(i:Nat):Res :=
 if(s.1.getD i k0).2.2.1≠4 then bad 4
 else if c4n l c=true then bad 1
 else if b2a s c.2.2.1 none≠0 then bad (b2a s c.2.2.1 none)
 else if b2y s=true then bad 6
 else insS s l c.2.2.1 (i+1) 4
def recS(s:Sch)(l:Lay)(c:Chg)(i:Nat):Res :=
 if b5g c.2.2.2.2.2.2.1=false then bad 1 else(s,(l.1,l.2.1,l.2.2.1,l.2.2.2.1.set i c.2.2.2.2.2.2.1,()),0,())
def c0t(s:Sch)(l:Lay)(c:Chg)(i:Nat):Res :=
 if c.1=2 then e0c s l c i else if c.1=3 then renS s l c i else if c.1=4 then widS s l c i else if c.1=5 then spl s l c i else recS s l c i
def layS(s:Sch)(l:Lay)(c:Chg):Res :=
 if c.1=6 then(if isB s c.2.1 true=true then(s,(c.2.1,l.2),0,()) else bad 3)
 else if c.1=7 then(if c.2.2.2.2.2.2.1<1 then bad 1 else if 4<c.2.2.2.2.2.2.1 then bad 1 else if isB s c.2.1 (decide (c.2.2.2.2.2.2.1=1))=true then(s,(l.1,c.2.1,c.2.2.2.2.2.2.1,l.2.2.2),0,()) else bad 3)
 else(s,l,0,())
def a2z(s:Sch)(l:Lay)(c:Chg):Res :=
 if c.1=1 then addS s l c
 else if c.1=6∨c.1=7∨c.1=8 then layS s l c
 else if 2≤c.1∧c.1≤5∨c.1=9 then(match byId s.1 c.2.1 with
  |none=>bad 3
  |some i=>c0t s l c i)
 else bad 1
def a3f(s:Sch)(l:Lay)(c:Chg):Res:=if mayS s=false then bad 1 else if mayL s l=false then bad 1 else a2z s l c
def f8y:Nat→Nat
 |0=>a5n
 |1=>a4a
 |2=>a8w
 |3=>a6w
 |_=>a2g
def er(t:List Int)(g:Nat):UV:=.node a0r (.pair (.str t) (.pair (.sent (f8y g)) .unit))
def b8g:Nat→Int
 |0=>3
 |1=>4
 |2=>9
 |3=>6
 |_=>1
theorem d8u(t:List Int)(g:Nat):decide (er t g=UV.nil)=false:=by simp[er]
theorem c3g(n:Nat):a8t n (.nil,())=some ((0,()),()):=by unfold a8t;simp
theorem c5v(n:Nat)(t:List Int){g:Nat}(hg:g<5):a8t n (er t g,())=some ((b8g g,()),()):=by
 unfold a8t;dsimp only;rw[d8u]
 match g,hg with
 |0,_=>rfl
 |1,_=>rfl
 |2,_=>rfl
 |3,_=>rfl
 |4,_=>rfl
def Good(r:Res)(y:(UV×Unit)×(Wk×Unit)):Prop:=(y.1.1=.nil∧r=(y.2.1.1,y.2.1.2.1,0,()))∨∃t g,g<5∧y.1.1=er t g∧r=bad (b8g g)
theorem a6j{r:Res}{t:List Int}{g:Nat}{w:Wk}(hg:g<5)(h:r=bad (b8g g)):Gets (some ((er t g,()),(w,()))) (Good r):=.some (.inr ⟨t,g,hg,rfl,h⟩)
theorem b2u{r:Res}{w:Wk}(h:r=(w.1,w.2.1,0,())):Gets (some ((UV.nil,()),(w,()))) (Good r):=.some (.inl ⟨rfl,h⟩)
variable {n:Nat} {s:Sch} {l:Lay} {c:Chg} {i:Nat}
structure Ok (n:Nat) (s:Sch) (l:Lay) (c:Chg):Prop where
 n10:20≤n
 len1:1≤s.1.length
 len6:s.1.length≤6
 last1:1≤s.2.1
 last:s.2.1≤10000
 enc:l.2.2.2.1.length=s.1.length
 nmB:a1v c.2.2.1
theorem Ok.hn(h:Ok n s l c):s.1.length<n:=by have:=h.len6;have:=h.n10;omega
theorem Ok.hc(h:Ok n s l c):s.1.length≤1000:=by have:=h.len6;omega
def nmT:List Int:=[116,104,101,32,110,97,109,101]
def d4q(s:Sch)(nm:List Int)(but:Int):UV :=
 if a2q nm=false then er nmT 4 else match a9i s.1 nm with
 |some j=>if(j:Int)=but then .nil else er nmT 2
 |none=>.nil
theorem a7x(h:Ok n s l c)(a b:Int)(u:Unit):a3e n ((s,l,c,a,u),b,())=some ((d4q s c.2.2.1 b,()),((s,l,c,a,u),())):=by
 unfold a3e d4q;dsimp only;rw[a9t h.nmB,c5t h.hn h.hc];simp only[Ab];cases a2q c.2.2.1 with
 |false=>simp[er,nmT,f8y]
 |true =>
  cases a9i s.1 c.2.2.1 with
  |none=>simp[atR]
  |some j=>by_cases hj:(j:Int)=b <;> simp[atR,hj,er,nmT,f8y]
theorem e6p(nm:List Int):(d4q s nm (-1)=.nil∧b2a s nm none=0)∨∃g,g<5∧d4q s nm (-1)=er nmT g∧b2a s nm none=b8g g∧b2a s nm none≠0:=by
 unfold d4q b2a;cases a2q nm with
 |false=>exact .inr ⟨4,by omega,by simp,by simp[b8g],by simp⟩
 |true =>
  cases a9i s.1 nm with
  |none=>exact .inl ⟨by simp,by simp⟩
  |some j =>
   have:¬(j:Int)=-1:=by omega
   exact .inr ⟨2,by omega,by simp[this],by simp[b8g],by simp⟩
theorem e5p(nm:List Int)(i:Nat):(d4q s nm i=.nil∧b2a s nm (some i)=0)∨∃g,g<5∧d4q s nm i=er nmT g∧b2a s nm (some i)=b8g g∧b2a s nm (some i)≠0:=by
 unfold d4q b2a;cases a2q nm with
 |false=>exact .inr ⟨4,by omega,by simp,by simp[b8g],by simp⟩
 |true =>
  cases a9i s.1 nm with
  |none=>exact .inl ⟨by simp,by simp⟩
  |some j =>
   by_cases hj:j=i
   ·subst hj;exact .inl ⟨by simp,by simp⟩
   ·have:¬(j:Int)=i:=by omega
    exact .inr ⟨2,by omega,by simp[this],by simp[b8g,hj],by simp[hj]⟩
theorem e2r(h:Ok n s l c)(hi:i≤s.1.length)(a:Int)(u:Unit)(t:Int):Gets (a4p n ((s,l,c,a,u),(i:Int),t,())) (Good (if b2y s=true then bad 6 else insS s l c.2.2.1 i t)):=by
 unfold a4p;dsimp only;have h6:=h.len6;have hl:=h.last;have hl1:=h.last1;have he:=h.enc;rw[a0i (x:=s.2.1+1) (by omega) (by omega)];refine .dec (fun a=>a6j (g:=3) (by omega) (by rw[if_pos];rfl;simp[b2y];omega)) fun a=>.dec (fun b=>a6j (g:=3) (by omega) (by rw[if_pos];rfl;simp[b2y];omega)) fun b=>?_
 rw[if_neg (by simp[b2y];omega)];unfold a0x a2x insF;dsimp only;rw[if_pos ⟨by omega,by omega,by simp[room];omega⟩,if_pos ⟨by omega,by omega,by simp[room];omega⟩];simp only[Ab,Ah];exact b2u rfl
theorem f3r(h:Ok n s l c)(a:Int)(u:Unit):Gets (a8x n ((s,l,c,a,u),())) (Good (addS s l c)):=by
 unfold a8x;simp only[a7w];rw[a9t h.nmB];simp only[Ab,b6w];have hJ:(a2q c.2.2.1=true→a4c c.2.2.2.1=true)→Gets ((a3e n ((s,l,c,a,u),(-1:Int),())).bind fun y3=>(if(!decide (y3.1.1=UV.nil))=true then(some ((y3.1.1,()),(y3.2.1,()))) else((b0b n (y3.2.1.2.2.1.2.2.2.1,y3.2.1.2.2.1.2.2.2.2.1,())).bind fun y4=>(if(!y4.1.1)=true then(some (((UV.node a0r (.pair (.str [116,104,101,32,118,97,108,117,101]) (.pair (UV.sent a4a) .unit))),()),(y3.2.1,()))) else((a4p n (y3.2.1,(y3.2.1.1.1.length:Int),y3.2.1.2.2.1.2.2.2.1,())).bind fun y5=>(some ((y5.1.1,()),(y5.2.1,())))))))) (Good (addS s l c)):=by
  intro hnt;rw[a7x h];simp only[Ab];unfold d4q addS;cases hno:a2q c.2.2.1 with
  |false =>
   rw[if_pos rfl,if_pos rfl,d8u];exact a6j (by omega) rfl
  |true =>
   rw[hnt hno];simp only[Cd,if_false];cases a9i s.1 c.2.2.1 with
   |some j =>
    have:¬(j:Int)=-1:=by omega
    simp only[this,if_false,d8u];exact a6j (by omega) rfl
   |none =>
    simp only[decide_true,C2,AJ,if_false,EI];rw[b7g];simp only[Ab];cases b1a c.2.2.2.1 c.2.2.2.2.1 with
    |false=>exact a6j (t:=[116,104,101,32,118,97,108,117,101]) (g:=1) (by omega) rfl
    |true =>
     simp only[C2,AJ,if_false,Cd];exact .bind (e2r h (Ar _) a u _) fun y hy=>.some hy
 refine .ite (fun hno=>.not (fun ht=>?_) fun ht=>hJ fun _=>ht) fun hno=>hJ fun hh=>absurd hh hno
 refine a6j (g:=4) (by omega) ?_;unfold addS;rw[if_neg (by simp[hno]),if_pos ht];rfl
end Go.Rb.R7

namespace Go.Rb.R7
open Go.Rb
variable {n:Nat} {s:Sch} {l:Lay} {c:Chg} {i:Nat}
def colT:List Int:=[116,104,101,32,99,111,108,117,109,110]
theorem b2h(n:Nat)(s:Sch)(l:Lay)(c:Chg)(a:Int)(u:Unit):a5o n ((s,l,c,a,u),())=some ((c4n l c,()),((s,l,c,a,u),())):=by
 unfold a5o c4n;dsimp only;by_cases a1:c.2.1=l.1
 ·simp[a1]
 ·have a1':¬l.1=c.2.1:=fun h=>a1 h.symm
  by_cases a2:c.2.1=l.2.1
  ·simp[a1,a1',a2]
  ·have a2':¬l.2.1=c.2.1:=fun h=>a2 h.symm
   simp[a1,a1',a2,a2']
theorem e8h(h:Ok n s l c)(hi:i<s.1.length)(u:Unit):Gets (a5v n ((s,l,c,(i:Int),u),())) (Good (e0c s l c i)):=by
 unfold a5v e0c;dsimp only;have h6:=h.len6;have he:=h.enc;refine .dec (fun a=>a6j (t:=colT) (g:=4) (by omega) (by rw[if_pos (by omega)];rfl)) fun a=>?_
 rw[if_neg (by omega),b2h];simp only[Ab];refine .ite (fun hb=>a6j (t:=colT) (g:=4) (by omega) (by rw[if_pos hb];rfl)) fun hb=>?_
 rw[if_neg hb,a0d (show i<9223372036854775807 by omega)];unfold a0u a2y delF;dsimp only;rw[if_pos ⟨by omega,by omega,by omega⟩,if_pos ⟨by omega,by omega,by omega⟩];simp only[Ab,Ah];exact b2u rfl
theorem f2p(h:Ok n s l c)(hi:i<s.1.length)(u:Unit):Gets (a4e n ((s,l,c,(i:Int),u),())) (Good (renS s l c i)):=by
 unfold a4e renS;dsimp only;rw[a7x h];simp only[Ab];rcases e5p (s:=s) c.2.2.1 i with⟨h1,h2⟩|⟨g,hg,h1,h2,h3⟩
 ·rw[h1,if_pos h2];refine .not (fun h=>by simp at h) fun _=>?_
  refine .atI (by omega) (by omega) ?_;simp only[Ah];exact b2u rfl
 ·rw[h1,if_neg h3,d8u,h2];exact a6j hg rfl
theorem f5f(hi:i<s.1.length)(u:Unit):Gets (a4r n ((s,l,c,(i:Int),u),())) (Good (widS s l c i)):=by
 unfold a4r widS;dsimp only;simp only[Ah];refine .atI (by omega) (by omega) (.dec (fun a=>?_) fun a=>.dec (fun b=>?_) fun b=>?_)
 ·rw[if_pos a];exact b2u rfl
 ·rw[if_neg a,if_pos b];exact b2u rfl
 ·rw[if_neg a,if_neg b];exact a6j (t:=colT) (g:=1) (by omega) rfl
theorem f3t(h:Ok n s l c)(hi:i<s.1.length)(u:Unit):Gets (a4s n ((s,l,c,(i:Int),u),())) (Good (spl s l c i)):=by
 unfold a4s spl;dsimp only;simp only[Ah];refine .atI (by omega) (by omega) ?_;by_cases a:(s.1.getD i k0).2.2.1=4
 ·rw[if_neg (by rw[decide_eq_true a];simp),if_neg (fun hh=>hh a),b2h];simp only[Ab];refine .ite (fun hb=>a6j (t:=colT) (g:=4) (by omega) (by rw[if_pos hb];rfl)) fun hb=>?_
  rw[if_neg hb,a7x h];simp only[Ab];rcases e6p (s:=s) c.2.2.1 with⟨h1,h2⟩|⟨g,hg,h1,h2,h3⟩
  ·rw[h1,if_neg (by simp),if_neg (by simp[h2]),a0d (show i<9223372036854775807 by have:=h.len6;omega)];exact .bind (e2r h (i:=i+1) (by omega) _ _ _) fun y hy=>.some hy
  ·rw[h1,d8u,if_pos (by simp),if_pos h3,h2];exact a6j hg rfl
 ·rw[if_pos (by rw[decide_eq_false a];rfl),if_pos a];exact a6j (t:=colT) (g:=1) (by omega) rfl
theorem f3m(h:Ok n s l c)(hi:i<s.1.length)(u:Unit):Gets (a4d n ((s,l,c,(i:Int),u),())) (Good (recS s l c i)):=by
 unfold a4d recS;dsimp only;have he:=h.enc;rw[b2o];simp only[Ab,Ah];refine .not (fun a=>a6j (t:=[116,104,101,32,101,110,99,111,100,105,110,103]) (g:=4) (by omega) (by rw[if_pos a];rfl)) fun a=>?_
 rw[if_neg (by simp[a])];exact .atI (by omega) (by omega) (b2u rfl)
theorem f4k(h:Ok n s l c)(hk:c.1=7)(a:Int)(u:Unit):Gets (a6g n ((s,l,c,a,u),())) (Good (layS s l c)):=by
 rw[show layS s l c=(if c.2.2.2.2.2.2.1<1 then bad 1 else if 4<c.2.2.2.2.2.2.1 then bad 1 else if isB s c.2.1 (decide (c.2.2.2.2.2.2.1=1))=true then(s,(l.1,c.2.1,c.2.2.2.2.2.2.1,l.2.2.2),0,()) else bad 3) by
  unfold layS;rw[if_neg (by omega),if_pos hk]]
 unfold a6g;dsimp only;refine .dec (fun a=>a6j (t:=[104,111,119,32,109,97,110,121]) (g:=4) (by omega) (by rw[if_pos a];rfl)) fun a=>.dec (fun b=>a6j (t:=[104,111,119,32,109,97,110,121]) (g:=4) (by omega) (by rw[if_neg a,if_pos b];rfl)) fun b=>?_
 rw[if_neg a,if_neg b,b1j h.hn h.hc];simp only[Ab];refine .not (fun hb=>a6j (t:=colT) (g:=0) (by omega) (by rw[if_neg (by simp[hb])];rfl)) fun hb=>?_
 rw[if_pos hb];exact b2u rfl
theorem e8x(h:Ok n s l c):Gets (a7j n ((s,l,c,0,()),())) (Good (a2z s l c)):=by
 unfold a7j;simp only[a7w];have hpass:∀{o:Option ((UV×Unit)×(Wk×Unit))} {r:Res},Gets o (Good r)→Gets (o.bind fun y=>some ((y.1.1,()),(y.2.1,()))) (Good r):=fun ho=>.bind ho fun y hy=>.some hy
 refine .dec (fun k1=>?_) fun k1=>.dec (fun k6=>?_) fun k6=>.dec (fun k8=>?_) fun k8=>.dec (fun k7=>?_) fun k7=>?_
 ·unfold a2z;rw[if_pos k1];exact hpass (f3r h 0 ())
 ·unfold a2z layS;rw[if_neg k1,if_pos (.inl k6),if_pos k6,b1j h.hn h.hc];simp only[Ab];refine .not (fun hb=>a6j (t:=colT) (g:=0) (by omega) (by rw[if_neg (by simp[hb])];rfl)) fun hb=>?_
  rw[if_pos hb];exact b2u rfl
 ·unfold a2z layS;rw[if_neg k1,if_pos (.inr (.inr k8)),if_neg (by omega),if_neg (by omega)];exact b2u rfl
 ·unfold a2z;rw[if_neg k1,if_pos (.inr (.inl k7))];exact hpass (f4k h k7 0 ())
 ·have hfind:(2≤c.1∧c.1≤5∨c.1=9)→Gets ((a7n n ((s,l,c,0,()),())).bind fun y3=>if(!decide (y3.1.1=UV.nil))=true then some ((y3.1.1,()),(y3.2.1,())) else
    if(decide (y3.2.1.2.2.1.1=2))=true then((a5v n (y3.2.1,())).bind fun y4=>some ((y4.1.1,()),(y4.2.1,()))) else
    if(decide (y3.2.1.2.2.1.1=3))=true then((a4e n (y3.2.1,())).bind fun y5=>some ((y5.1.1,()),(y5.2.1,()))) else
    if(decide (y3.2.1.2.2.1.1=4))=true then((a4r n (y3.2.1,())).bind fun y6=>some ((y6.1.1,()),(y6.2.1,()))) else
    if(decide (y3.2.1.2.2.1.1=5))=true then((a4s n (y3.2.1,())).bind fun y7=>some ((y7.1.1,()),(y7.2.1,()))) else
    ((a4d n (y3.2.1,())).bind fun y8=>some ((y8.1.1,()),(y8.2.1,())))) (Good (a2z s l c)):=by
   intro hk;unfold a2z;rw[if_neg k1,if_neg (by omega),if_pos hk];unfold a7n;dsimp only;rw[b2n h.hn h.hc];simp only[Ab];cases hb:byId s.1 c.2.1 with
   |none=>exact a6j (t:=colT) (g:=0) (by omega) rfl
   |some i =>
    have hi:i<s.1.length:=a6x hb;simp only[atR,C2,AJ,if_false,decide_true,Ab];unfold c0t;refine .dec (fun k2=>?_) fun k2=>.dec (fun k3=>?_) fun k3=>.dec (fun k4=>?_) fun k4=>.dec (fun k5=>?_) fun k5=>?_
    ·rw[if_pos k2];exact hpass (e8h h hi ())
    ·rw[if_neg k2,if_pos k3];exact hpass (f2p h hi ())
    ·rw[if_neg k2,if_neg k3,if_pos k4];exact hpass (f5f hi ())
    ·rw[if_neg k2,if_neg k3,if_neg k4,if_pos k5];exact hpass (f3t h hi ())
    ·rw[if_neg k2,if_neg k3,if_neg k4,if_neg k5];exact hpass (f3m h hi ())
  refine .dec (fun k=>hfind (by omega)) fun k2=>.dec (fun k=>hfind (by omega)) fun k3=>.dec (fun k=>hfind (by omega)) fun k4=>.dec (fun k=>hfind (by omega)) fun k5=>.dec (fun k=>hfind (by omega)) fun k9=>?_
  unfold a2z;rw[if_neg k1,if_neg (by omega),if_neg (by omega)];exact a6j (t:=[116,104,101,32,107,105,110,100]) (g:=4) (by omega) rfl
theorem g2s{n:Nat}{s:Sch}{l:Lay}{c:Chg}(hn:20≤n)(hb:a1v c.2.2.1)(h1:mayS s=true)(h2:mayL s l=true):Ok n s l c:=by
 unfold mayS d7k at h1;unfold mayL at h2;simp only[Af,decide_eq_true_eq] at h1 h2;obtain⟨h3,⟨h4,h5⟩,h6⟩:=h1;have:=a5y.1 h3 0 (by omega);unfold d0b at this;simp only[Af,decide_eq_true_eq] at this;exact⟨hn,h4,h5,by omega,h6,h2.1.2,hb⟩
theorem b5v(hn:20≤n)(hl:s.1.length<n)(hl2:s.1.length≤1000)(hcn:∀c,c∈s.1→a1v c.2.1)(hnm:a1v c.2.2.1) :
  a9h n (s,l,c,())=some (a3f s l c,()):=by
 unfold a9h a3f;dsimp only;rw[b8a hl hl2 hcn];simp only[Ab];cases h1:mayS s with
 |false=>rfl
 |true =>
  rw[b1y hl hl2];simp only[Ab];cases h2:mayL s l with
  |false=>rfl
  |true =>
   have hok:Ok n s l c:=g2s hn hnm h1 h2;simp only[a0e,a1i,a7w,Ab,C2,AJ,if_false,Cd];obtain⟨y,hy,hg⟩:=e8x hok;rw[show((s.1,s.2),(l.1,l.2.1,l.2.2.1,l.2.2.2.1,l.2.2.2.2),c,(0:Int),())=(s,l,c,(0:Int),()) from rfl,hy];simp only[Ab];rcases hg with⟨g1,g2⟩|⟨t,g,hg,g1,g2⟩
   ·rw[g1,c3g,g2];simp
   ·rw[g1,c5v n t hg,g2];have:b8g g≠0:=by
     unfold b8g;split <;> simp
    simp[this,bad]
end Go.Rb.R7

namespace Go.Rb.R7
open Go.Rb
variable {n:Nat} {s:Sch} {l:Lay} {c:Chg} {i:Nat}
def Fine(r:Res)(y:(Int×Unit)×(Sch×Lay×Unit)):Prop:=(y.1.1=0∧r=(y.2.1,y.2.2.1,0,()))∨(y.1.1≠0∧r=bad y.1.1)
theorem a5d{r:Res}{e:Int}{a:Sch}{b:Lay}(he:e≠0)(h:r=bad e):Gets (some ((e,()),(a,b,()))) (Fine r):=.some (.inr ⟨he,h⟩)
theorem c0n{r:Res}{a:Sch}{b:Lay}(h:r=(a,b,0,())):Gets (some ((0,()),(a,b,()))) (Fine r):=.some (.inl ⟨rfl,h⟩)
theorem f3x(h:Ok n s l c)(hnm:c.2.2.1.length<n)(hnm2:c.2.2.1.length≤140737488355328):Gets (b6n n (s,l,c,())) (Fine (addS s l c)):=by
 have h6:=h.len6;have hl:=h.last;have hl1:=h.last1;have he:=h.enc;unfold b6n;dsimp only;rw[b8j h.hn h.hc,a0i (x:=s.2.1+1) (by omega) (by omega)];simp only[Ab];rw[a7k hnm hnm2];simp only[Ab,b5o,c0i];refine .not (fun a=>a5d (by simp) (by simp[addS,a])) fun a=>?_
 refine .not (fun b=>a5d (by simp) (by simp[addS,a,b])) fun b=>?_
 cases hb:a9i s.1 c.2.2.1 with
 |some j=>exact .pos rfl (a5d (by simp) (by simp[addS,a,b,hb]))
 |none =>
  refine .neg (by simp[atR]) ?_;refine .not (fun d=>a5d (by simp) (by simp[addS,a,b,hb,d])) fun d=>?_
  refine .dec (fun e=>a5d (by simp) ?_) fun e=>.dec (fun f=>a5d (by simp) ?_) fun f=>?_
  ·have:b2y s=true:=by simp[b2y];omega
   simp[addS,a,b,hb,d,this]
  ·have:b2y s=true:=by simp[b2y];omega
   simp[addS,a,b,hb,d,this]
  ·have:b2y s=false:=by simp[b2y];omega
   refine .pos (by simp[room];omega) (.pos (by simp[room];omega) (c0n ?_));simp only[addS,a,b,hb,d,this,insS,Cd,AJ,if_false,EI];rw[AL,BL,←he,AL,BL];rfl
theorem d6s{nm:List Int}{b:Option Nat}(h:a2q nm=false):b2a s nm b=1:=by simp[b2a,h]
theorem d1s{nm:List Int}{b:Option Nat}(h:a2q nm=true)(h2:a9i s.1 nm=none):b2a s nm b=0:=by simp[b2a,h,h2]
theorem d2j{nm:List Int}{b:Option Nat}{j:Nat}(h:a2q nm=true)(h2:a9i s.1 nm=some j):b2a s nm b=if some j=b then 0 else 9:=by simp[b2a,h,h2]
theorem f1z(h:Ok n s l c)(hnm:c.2.2.1.length<n)(hnm2:c.2.2.1.length≤140737488355328)(hk:2≤c.1∧c.1≤5):Gets (b4r n (s,l,c,())) (Fine (match byId s.1 c.2.1 with|none=>bad 3|some i=>c0t s l c i)):=by
 have h6:=h.len6;have hl:=h.last;have hl1:=h.last1;have he:=h.enc;unfold b4r;dsimp only;rw[a8a h.hn h.hc];simp only[Ab];cases hb:byId s.1 c.2.1 with
 |none=>exact a5d (by simp) rfl
 |some i =>
  have hi:i<s.1.length:=a6x hb;have hi':(i:Int)<s.1.length:=by omega
  dsimp only[atR];refine .not (fun h=>by simp at h) fun _=>?_
  simp only[a0d (show i<9223372036854775807 by omega)];refine .join (fun t=>t=(l,c4n l c)) (fun t ht=>?_) fun J hJ=>?_
  ·rw[ht,b8j h.hn h.hc];simp only[Ab];refine .dec (fun k2=>?_) fun k2=>.dec (fun k3=>?_) fun k3=>.dec (fun k4=>?_) fun k4=>?_
   ·refine .dec (fun a=>a5d (by simp) ?_) fun a=>.ite (fun hh=>a5d (by simp) ?_) fun hh=>?_
    ·have:s.1.length=1:=by omega
     simp[c0t,k2,e0c,this]
    ·simp[c0t,k2,e0c,hh]
    ·refine .pos (by omega) (.pos (by omega) (.pos (by simp[room];omega) (.pos (by omega) (.pos (by omega) (.pos (by simp[room];omega) (c0n ?_))))));have:¬s.1.length=1:=by omega
     simp[c0t,k2,e0c,this,hh]
   ·rw[a7k hnm hnm2];simp only[Ab];have ht3:c0t s l c i=renS s l c i:=by simp[c0t,k3]
    rw[ht3];unfold renS;refine .not (fun a=>a5d (by simp) (by rw[d6s a];simp)) fun a=>?_
    cases hbn:a9i s.1 c.2.2.1 with
    |none=>exact .neg (by simp[atR]) (.atI (by omega) hi' (c0n (by rw[d1s a hbn];simp)))
    |some j =>
     rw[d2j a hbn];refine .pos rfl ?_;by_cases hj:j=i
     ·subst hj;exact .neg (by simp[atR]) (.atI (by omega) hi' (c0n (by simp)))
     ·have hj':¬((j:Int)=(i:Int)):=by omega
      exact .pos (by simp[atR,hj']) (a5d (by simp) (by simp[hj]))
   ·have ht4:c0t s l c i=widS s l c i:=by simp[c0t,k4]
    rw[ht4];unfold widS;refine .atI (by omega) hi' (.dec (fun(a:(s.1.getD i k0).2.2.1=3)=>.atI (by omega) hi' (c0n ?_)) fun(a:¬(s.1.getD i k0).2.2.1=3)=>.dec (fun(b:(s.1.getD i k0).2.2.1=1)=>.atI (by omega) hi' (c0n ?_)) fun(b:¬(s.1.getD i k0).2.2.1=1)=>a5d (by simp) ?_)
    ·rw[if_pos a];simp
    ·rw[if_neg a,if_pos b];simp
    ·rw[if_neg a,if_neg b]
   ·have k5:c.1=5:=by omega
    have ht5:c0t s l c i=spl s l c i:=by simp[c0t,k5]
    rw[ht5,a7k hnm hnm2];simp only[Ab,a0i (x:=s.2.1+1) (show -9223372036854775808≤s.2.1+1 by omega) (show s.2.1+1≤9223372036854775807 by omega)];refine .atI (by omega) hi' (.not (fun a=>a5d (by simp) ?_) fun a=>.ite (fun hh=>a5d (by simp) ?_) fun hh=>.not (fun b=>a5d (by simp) ?_) fun b=>?_)
    ·have:(s.1.getD i k0).2.2.1≠4:=by simpa using a
     unfold spl;rw[if_pos this]
    ·have:¬(s.1.getD i k0).2.2.1≠4:=fun h=>h (of_decide_eq_true a)
     unfold spl;rw[if_neg this,if_pos hh]
    ·have:¬(s.1.getD i k0).2.2.1≠4:=fun h=>h (of_decide_eq_true a)
     unfold spl;rw[if_neg this,if_neg hh,d6s b];rfl
    ·have this:¬(s.1.getD i k0).2.2.1≠4:=fun h=>h (of_decide_eq_true a)
     unfold spl;rw[if_neg this,if_neg hh];cases hbn:a9i s.1 c.2.2.1 with
     |some j=>exact .pos rfl (a5d (by simp) (by rw[d2j b hbn];simp))
     |none =>
      refine .neg (by simp[atR]) ?_;rw[d1s b hbn];refine .dec (fun e=>a5d (by simp) ?_) fun e=>.dec (fun f=>a5d (by simp) ?_) fun f=>?_
      ·have:b2y s=true:=by simp[b2y];omega
       simp[this]
      ·have:b2y s=true:=by simp[b2y];omega
       simp[this]
      ·have:b2y s=false:=by simp[b2y];omega
       refine .pos (by omega) (.pos (by simp[room];omega) (.pos (by simp[room];omega) (.pos (by omega) (.pos (by simp[room];omega) (.pos (by omega) (.pos (by simp[room];omega) (.pos (by simp[room];omega) (.pos (by omega) (.pos (by simp[room];omega) (c0n ?_))))))))));simp[this,insS]
  ·exact .dec (fun a=>hJ _ (by rw[show c4n l c=true by simp[c4n,a]])) fun a=>hJ _ (by rw[show c4n l c=decide (l.2.1=c.2.1) by simp[c4n,a]])
def f9x(s:Sch)(r:Res)(y:(Int×Unit)×(Lay×Unit)):Prop:=(y.1.1=0∧r=(s,y.2.1,0,()))∨(y.1.1≠0∧r=bad y.1.1)
theorem b2x{r:Res}{e:Int}{b:Lay}(he:e≠0)(h:r=bad e):Gets (some ((e,()),(b,()))) (f9x s r):=.some (.inr ⟨he,h⟩)
theorem c3s{r:Res}{b:Lay}(h:r=(s,b,0,())):Gets (some ((0,()),(b,()))) (f9x s r):=.some (.inl ⟨rfl,h⟩)
theorem e3i{s:Sch}{id:Int}{b:Bool}{i:Nat}(h:byId s.1 id=some i):isB s id b=true:=by simp[isB,h]
theorem e2q{s:Sch}{id:Int}{b:Bool}(h:byId s.1 id=none):isB s id b=(b&&decide (id=0)):=by simp[isB,h]
theorem f7c(k:c.1=6):a2z s l c=if isB s c.2.1 true=true then(s,(c.2.1,l.2),0,()) else bad 3:=by simp[a2z,layS,k]
theorem f7e(k:c.1=7):a2z s l c=if c.2.2.2.2.2.2.1<1 then bad 1 else if 4<c.2.2.2.2.2.2.1 then bad 1 else if isB s c.2.1 (decide (c.2.2.2.2.2.2.1=1))=true then(s,(l.1,c.2.1,c.2.2.2.2.2.2.1,l.2.2.2),0,()) else bad 3:=by simp[a2z,layS,k]
theorem f9e(k:c.1=8):a2z s l c=(s,l,0,()):=by simp[a2z,layS,k]
theorem f3e(k:c.1=9)(hb:byId s.1 c.2.1=none):a2z s l c=bad 3:=by simp[a2z,k,hb]
theorem g0b(k:c.1=9)(hb:byId s.1 c.2.1=some i):a2z s l c=recS s l c i:=by simp[a2z,c0t,k,hb]
theorem f4z(h:Ok n s l c)(hk:¬c.1=1)(hk2:¬(2≤c.1∧c.1≤5)):Gets (b0z n (s,l,c,())) (f9x s (a2z s l c)):=by
 unfold b0z;dsimp only;have he:=h.enc;rw[a8a h.hn h.hc];simp only[Ab];refine .dec (fun k6=>?_) fun k6=>.dec (fun k7=>?_) fun k7=>.dec (fun k8=>?_) fun k8=>.dec (fun k9=>?_) fun k9=>?_
 ·rw[f7c k6];cases hb:byId s.1 c.2.1 with
  |none =>
   rw[e2q hb];refine .pos rfl ?_;by_cases z:c.2.1=0
   ·exact .neg (by simp[z]) (c3s (by simp[z]))
   ·exact .pos (by simp[z]) (b2x (by simp) (by simp[z]))
  |some i =>
   rw[e3i hb];exact .neg (by simp[atR]) (c3s (by simp))
 ·rw[f7e k7];refine .dec (fun a=>b2x (by simp) (by rw[if_pos a])) fun a=>.dec (fun b=>b2x (by simp) (by rw[if_neg a,if_pos b])) fun b=>?_
  rw[if_neg a,if_neg b];cases hb:byId s.1 c.2.1 with
  |none =>
   rw[e2q hb];refine .pos rfl ?_;by_cases z:c.2.1=0
   ·refine .neg (by simp[z]) ?_;by_cases z2:c.2.2.2.2.2.2.1=1
    ·exact .neg (by simp[z2]) (c3s (by simp[z,z2]))
    ·exact .pos (by simp[z2]) (b2x (by simp) (by simp[z2]))
   ·exact .pos (by simp[z]) (b2x (by simp) (by simp[z]))
  |some i =>
   rw[e3i hb];exact .neg (by simp[atR]) (c3s (by simp))
 ·rw[f9e k8];exact c3s rfl
 ·cases hb:byId s.1 c.2.1 with
  |none =>
   rw[f3e k9 hb];exact .pos rfl (b2x (by simp) rfl)
  |some i =>
   have hi:i<s.1.length:=a6x hb;rw[g0b k9 hb];refine .neg (by simp[atR]) (.dec (fun a=>b2x (by simp) ?_) fun a=>.dec (fun b=>b2x (by simp) ?_) fun b=>?_)
   ·have:b5g c.2.2.2.2.2.2.1=false:=by simp[b5g];omega
    simp[recS,this]
   ·have:b5g c.2.2.2.2.2.2.1=false:=by simp[b5g];omega
    simp[recS,this]
   ·have:b5g c.2.2.2.2.2.2.1=true:=by simp[b5g];omega
    exact .atI (by simp[atR]) (by simp[atR];omega) (c3s (by simp[atR,recS,this]))
 ·have:a2z s l c=bad 1:=by
   have:¬(2≤c.1∧c.1≤5∨c.1=9):=by omega
   simp[a2z,hk,k6,k7,k8,this]
  rw[this];exact b2x (by simp) rfl
theorem b6s(hn:20≤n)(hl:s.1.length<n)(hl2:s.1.length≤1000)(hcn:∀c,c∈s.1→c.2.1.length<n∧c.2.1.length≤140737488355328)(he:l.2.2.2.1.length<n)(he2:l.2.2.2.1.length≤1000)
  (hnm:a1v c.2.2.1) (hnl:c.2.2.1.length<n) (hnl2:c.2.2.1.length≤140737488355328):a8c n (s,l,c,())=some (a3f s l c,()):=by
 have key:Gets (a8c n (s,l,c,())) fun y=>y=(a3f s l c,()):=by
  unfold a8c a3f;dsimp only;rw[c0b hl hl2 hcn];simp only[Ab];cases h1:mayS s with
  |false=>exact .some rfl
  |true =>
   rw[b2p hl hl2 he he2];simp only[Ab];cases h2:mayL s l with
   |false=>exact .some rfl
   |true =>
    have hok:Ok n s l c:=g2s hn hnm h1 h2;have h6:=hok.len6;have hen:=hok.enc;refine .not (fun h=>by simp at h) fun _=>.not (fun h=>by simp at h) fun _=>?_
    rw[if_neg (show ¬true=false by simp),if_neg (show ¬true=false by simp)];simp only[B5];refine .pos (by simp[room];omega) (.pos (by simp[room];omega) (.join (fun t=>(t.2.2=0∧a2z s l c=(t.1,t.2.1,0,()))∨(t.2.2≠0∧a2z s l c=bad t.2.2)) (fun t ht=>?_) fun J hJ=>?_))
    ·rcases ht with⟨t1,t2⟩|⟨t1,t2⟩
     ·refine .neg (by simp[t1]) (.some ?_);rw[t2]
     ·refine .pos (by simp[t1]) (.some ?_);rw[t2];rfl
    ·refine .dec (fun k1=>?_) fun k1=>?_
     ·refine .bind (f3x (s:=s) (l:=l) hok hnl hnl2) fun y hy=>hJ _ ?_
      have:a2z s l c=addS s l c:=by unfold a2z;rw[if_pos k1]
      rw[this];exact hy
     ·have hlay:(¬(2≤c.1∧c.1≤5))→Gets ((b0z n (s,l,c,())).bind fun y=>J (s,y.2.1,y.1.1)) fun y=>y=(a2z s l c,()):=fun hk=>.bind (f4z hok k1 hk) fun y hy=>hJ _ hy
      refine .dec (fun k2=>.dec (fun k5=>?_) fun k5=>hlay (by omega)) fun k2=>hlay (by omega)
      refine .bind (f1z (s:=s) (l:=l) hok hnl hnl2 ⟨k2,k5⟩) fun y hy=>hJ _ ?_
      have:a2z s l c=(match byId s.1 c.2.1 with|none=>bad 3|some i=>c0t s l c i):=by
       unfold a2z;rw[if_neg k1,if_neg (by omega),if_pos (.inl ⟨k2,k5⟩)]
       try (cases byId s.1 c.2.1 <;> rfl)
      rw[this];exact hy
 obtain⟨y,h1,rfl⟩:=key;exact h1
end Go.Rb.R7

namespace Go.Rb.R7
open Go.Rb
abbrev Pks:Type:=List Int×Int×Unit
def Nums(l:List Int):Prop:=l.length≤1000∧a1v l
def Pk(l:List Int)(st:Pks):Prop:=st.1=l∧0≤st.2.1∧st.2.1≤l.length
theorem num{l:List Int}{st:Pks}{m:Int}(n:Nat)(hl:Nums l)(hp:Pk l st)(hm:1≤m):Gets (a0a n (st,m,())) fun y=>0≤y.1.1∧y.1.1<m∧Pk l y.2.1:=by
 obtain⟨l',k,u⟩:=st;obtain⟨rfl,h1,h2⟩:=hp;obtain⟨g1,g2⟩:=hl;unfold a0a;dsimp only at *;refine .dec (fun h=>.some ⟨Bu _,by dsimp only;omega,rfl,h1,h2⟩) fun h=>?_
 rw[a0i (x:=k+1) (by omega) (by omega),show k+1 - 1=k by omega,a0i (x:=k) (by omega) (by omega)];refine .atI h1 (by omega) (.neg (by omega) (.some ?_));have hc:0≤l'.getD k.toNat 0∧l'.getD k.toNat 0≤255:=g2 _ (a6s (by omega));rw[a0i (x:=l'.getD k.toNat 0) (by omega) (by omega)];exact⟨Int.tmod_nonneg _ hc.1,Int.tmod_lt_of_pos _ (by omega),rfl,by dsimp only;omega,by dsimp only;omega⟩
theorem f8h{l:List Int}(n:Nat):Gets (b3u n (l,())) fun y=>Pk l y.1.1:=.some ⟨rfl,by simp,by simp⟩
def TyOK(t:Int):Prop:=1≤t∧t≤4
def Rest(r:List Cl)(k:Int):Prop :=
 (r=[]∧0≤k∧k≤2)∨(∃t,TyOK t∧r=[(3,[99,99],t,())]∧k=1)∨(∃t,TyOK t∧r=[(3,[99,98],t,())]∧k=0)∨(∃t u,TyOK t∧TyOK u∧r=[(3,[99,99],t,()),(4,[99,98],u,())]∧k=0)
def c3w(s:Sch)(k:Int):Prop:=∃t r,TyOK t∧s.1=(1,[105,100],t,())::(2,[116],4,())::r∧s.2.1=2+r.length∧Rest r k
theorem Rest.le{r:List Cl}{k:Int}(h:Rest r k):r.length+k≤2∧0≤k:=by
 rcases h with⟨rfl,h1,h2⟩|⟨t,_,rfl,rfl⟩|⟨t,_,rfl,rfl⟩|⟨t,u,_,_,rfl,rfl⟩ <;> simp <;> omega
theorem c3w.len{s:Sch}{k:Int}(h:c3w s k):2≤s.1.length∧s.1.length+k≤4∧s.2.1=s.1.length∧0≤k:=by
 obtain⟨t,r,h1,h2,h3,h4⟩:=h;have:=h4.le;rw[h2,h3];simp only[Bd];omega
structure MadeOK (s:Sch) (l:Lay):Prop where
 sh:c3w s 0
 enc:l.2.2.2.1.length=s.1.length
 encs:∀e,e∈l.2.2.2.1→1≤e∧e≤5
 sort:0≤l.1∧l.1≤s.1.length
 part:(l.2.1=0∧l.2.2.1=1)∨(1≤l.2.1∧l.2.1≤s.1.length∧1≤l.2.2.1∧l.2.2.1≤4)
theorem f0g{l:List Int}{st:Pks}{n:Nat}(hn:20≤n)(hl:Nums l)(hp:Pk l st):Gets (a4v n (st,())) fun y=>MadeOK y.1.1 y.1.2.1∧Pk l y.2.1:=by
 unfold a4v;dsimp only;refine .bind (num n hl hp (by omega)) fun y1 ⟨a1,b1,p1⟩=>?_
 refine .bind (num n hl p1 (by omega)) fun y2 ⟨a2,b2,p2⟩=>?_
 refine .iter (fun s=>Pk l s.1∧c3w s.2.1 s.2.2) (fun s=>s.2.2.toNat) ⟨p2,?_⟩ (by dsimp only;omega) fun rec s hi ih=>?_
 ·refine⟨_,[],?_,rfl,by simp,.inl ⟨rfl,a2,by dsimp only;omega⟩⟩;rw[a0i (by omega) (by omega)];exact⟨by omega,by omega⟩
 obtain⟨q1,q2⟩:=hi;have hlen:=q2.len;refine .dec (fun h=>?_) fun h=>?_
 ·refine .pos (by simp) (.bind (num n hl q1 (by omega)) fun y5 ⟨a5,b5,p5⟩=>?_);refine .pos (by simp[room];omega) (ih _ ⟨p5,?_⟩ ?_)
  ·dsimp only;rw[a0i (x:=s.2.2 - 1) (by omega) (by omega),a0i (x:=s.2.1.2.1+1) (by omega) (by omega),a0i (x:=1+y5.1.1) (by omega) (by omega),a0i (x:=97+s.2.2) (by omega) (by omega),f0b (x:=97+s.2.2) (by omega) (by omega)];have hty:TyOK (1+y5.1.1):=⟨by omega,by omega⟩
   obtain⟨t,r,g1,g2,g3,g4⟩:=q2;rcases g4 with⟨rfl,h1,h2⟩|⟨u,hu,rfl,hk⟩|⟨u,hu,rfl,hk⟩|⟨u,v,hu,hv,rfl,hk⟩
   ·have:s.2.2=1∨s.2.2=2:=by omega
    rcases this with hk|hk
    ·refine⟨t,[(3,[99,98],1+y5.1.1,())],g1,?_,?_,.inr (.inr (.inl ⟨_,hty,rfl,by omega⟩))⟩
     ·simp[g2,g3,hk]
     ·simp[g3]
    ·refine⟨t,[(3,[99,99],1+y5.1.1,())],g1,?_,?_,.inr (.inl ⟨_,hty,rfl,by omega⟩)⟩
     ·simp[g2,g3,hk]
     ·simp[g3]
   ·refine⟨t,[(3,[99,99],u,()),(4,[99,98],1+y5.1.1,())],g1,?_,?_,.inr (.inr (.inr ⟨_,_,hu,hty,rfl,by omega⟩))⟩
    ·simp[g2,g3,hk]
    ·simp[g3]
   ·omega
   ·omega
  ·dsimp only;rw[a0i (by omega) (by omega)];omega
 ·have hk0:s.2.2=0:=by omega
  rw[hk0] at q2;refine .iter (fun t=>Pk l t.1∧c3w t.2.1 0∧t.2.2.1.1=0∧t.2.2.1.2.1=0∧t.2.2.1.2.2.1=1∧0≤t.2.2.2∧t.2.2.2≤t.2.1.1.length∧(t.2.2.1.2.2.2.1.length:Int)=t.2.2.2∧∀e,e∈t.2.2.1.2.2.2.1→1≤e∧e≤5) (fun t=>(4 - t.2.2.2).toNat)
   ⟨q1,q2,rfl,rfl,rfl,by simp,by simp,by simp,by simp⟩ (by dsimp only;omega) fun rec' t hj ih'=>?_
  obtain⟨r1,r2,r3,r4,r5,r6,r7,r8,r9⟩:=hj;have hlen:=r2.len;refine .dec (fun h=>?_) fun h=>?_
  ·refine .bind (num n hl r1 (by omega)) fun y8 ⟨a8,b8,p8⟩=>?_
   rw[a0i (x:=1+y8.1.1) (by omega) (by omega),a0i (x:=t.2.2.2+1) (by omega) (by omega)];refine .pos (by simp[room];omega) (ih' _ ⟨p8,r2,r3,r4,r5,?_,?_,?_,?_⟩ ?_)
   ·dsimp only;omega
   ·dsimp only;omega
   ·simp only[List.length_append,Bd,List.length_nil];omega
   ·intro e he;rcases Aq.1 he with he|he
    ·exact r9 e he
    ·rw[BS.1 he];omega
   ·dsimp only;omega
  ·have hen:t.2.2.1.2.2.2.1.length=t.2.1.1.length:=by omega
   refine .join (fun u=>Pk l u.1∧u.2.1=t.2.1∧u.2.2.2.1=0∧u.2.2.2.2.1=1∧u.2.2.2.2.2.1=t.2.2.1.2.2.2.1∧0≤u.2.2.1∧u.2.2.1≤t.2.1.1.length) (fun u hu=>?_) fun J hJ=>?_
   ·obtain⟨v1,v2,v3,v4,v5,v6,v7⟩:=hu;refine .bind (num n hl v1 (by omega)) fun y11 ⟨_,_,p11⟩=>?_
    refine .dec (fun h=>?_) fun h=>.some ⟨⟨by rw[v2];exact r2,by dsimp only;rw[v5,v2];exact hen,by dsimp only;rw[v5];exact r9,by dsimp only;rw[v2];exact⟨v6,v7⟩,.inl ⟨v3,v4⟩⟩,p11⟩
    have hul:u.2.1.1.length=t.2.1.1.length:=by rw[v2]
    refine .bind (num n hl p11 (by omega)) fun y12 ⟨a12,b12,p12⟩=>?_
    refine .bind (num n hl p12 (by omega)) fun y13 ⟨a13,b13,p13⟩=>?_
    rw[a0i (x:=1+y12.1.1) (by omega) (by omega),a0i (x:=1+y13.1.1) (by omega) (by omega)];exact .some ⟨⟨by rw[v2];exact r2,by dsimp only;rw[v5,v2];exact hen,by dsimp only;rw[v5];exact r9,by dsimp only;rw[v2];exact⟨v6,v7⟩,.inr ⟨by dsimp only;omega,by dsimp only;omega,by dsimp only;omega,by dsimp only;omega⟩⟩,p13⟩
   ·refine .bind (num n hl r1 (by omega)) fun y14 ⟨_,_,p14⟩=>?_
    refine .dec (fun h=>?_) fun h=>hJ _ ⟨p14,rfl,r4,r5,rfl,by dsimp only;omega,by dsimp only;omega⟩
    refine .bind (num n hl p14 (by omega)) fun y15 ⟨a15,b15,p15⟩=>?_
    rw[a0i (x:=1+y15.1.1) (by omega) (by omega)];exact hJ _ ⟨p15,rfl,r4,r5,rfl,by dsimp only;omega,by dsimp only;omega⟩
theorem c3w.id{s:Sch}(h:c3w s 0):∀i,i<s.1.length→(s.1.getD i k0).1=i+1:=by
 obtain⟨t,r,h1,h2,h3,h4⟩:=h;intro i hi;rw[h2] at hi ⊢;rcases h4 with⟨rfl,_,_⟩|⟨u,hu,rfl,hk⟩|⟨u,hu,rfl,hk⟩|⟨u,v,hu,hv,rfl,hk⟩
 ·have:i=0∨i=1:=by simp at hi;omega
  rcases this with rfl|rfl <;> simp
 ·omega
 ·have:i=0∨i=1∨i=2:=by simp at hi;omega
  rcases this with rfl|rfl|rfl <;> simp
 ·have:i=0∨i=1∨i=2∨i=3:=by simp at hi;omega
  rcases this with rfl|rfl|rfl|rfl <;> simp
theorem f8e{s:Sch}(h:c3w s 0){id:Int}(h1:1≤id)(h2:id≤s.1.length):byId s.1 id=some (id - 1).toNat:=by
 unfold byId;cases hf:a5r s.1.length fun i=>decide ((s.1.getD i k0).1=id) with
 |none =>
  have:=c0u.1 hf (id - 1).toNat (by omega);rw[h.id _ (by omega)] at this;simp at this;omega
 |some j =>
  have g1:=a6x hf;have g2:=c7s hf;rw[h.id _ g1] at g2;simp at g2;congr 1;omega
theorem c3w.may{s:Sch}(h:c3w s 0):mayS s=true:=by
 have hid:=h.id;have hlen:=h.len;obtain⟨t,r,⟨h1,h1'⟩,h2,h3,h4⟩:=h;unfold mayS d7k;have g1:(decide (1≤s.1.length)&&decide (s.1.length≤6)&&decide (s.2.1≤10000))=true:=by simp;omega
 rw[g1,Bool.and_true,a5y];intro i hi;unfold d0b;rw[hid i hi];have g2:decide ((1:Int)≤(i:Int)+1)=true:=by simp;omega
 have g3:decide ((i:Int)+1≤s.2.1)=true:=by simp;omega
 rw[g2,g3];rw[h2] at hi ⊢;rcases h4 with⟨rfl,_,_⟩|⟨u,hu,rfl,hk⟩|⟨u,⟨hu,hu'⟩,rfl,hk⟩|⟨u,v,⟨hu,hu'⟩,⟨hv,hv'⟩,rfl,hk⟩
 ·have:i=0∨i=1:=by simp at hi;omega
  rcases this with rfl|rfl
  ·simp[a4c,a2q,allN,b0v,B9,anyN,b4b,h1,h1']
  ·simp[a4c,a2q,allN,b0v,B9,anyN,b4b]
 ·omega
 ·have:i=0∨i=1∨i=2:=by simp at hi;omega
  rcases this with rfl|rfl|rfl
  ·simp[a4c,a2q,allN,b0v,B9,anyN,b4b,h1,h1']
  ·simp[a4c,a2q,allN,b0v,B9,anyN,b4b]
  ·simp[a4c,a2q,allN,b0v,B9,anyN,b4b,hu,hu']
 ·have:i=0∨i=1∨i=2∨i=3:=by simp at hi;omega
  rcases this with rfl|rfl|rfl|rfl
  ·simp[a4c,a2q,allN,b0v,B9,anyN,b4b,h1,h1']
  ·simp[a4c,a2q,allN,b0v,B9,anyN,b4b]
  ·simp[a4c,a2q,allN,b0v,B9,anyN,b4b,hu,hu']
  ·simp[a4c,a2q,allN,b0v,B9,anyN,b4b,hv,hv']
theorem f6v{s:Sch}(h:c3w s 0){id:Int}{b:Bool}(h1:1≤id)(h2:id≤s.1.length):isB s id b=true:=by
 unfold isB;rw[f8e h h1 h2];rfl
theorem MadeOK.may{s:Sch}{l:Lay}(h:MadeOK s l):mayL s l=true:=by
 obtain⟨h1,h2,h3,h4,h5⟩:=h;unfold mayL;have g1:isB s l.1 true=true:=by
  by_cases z:l.1=0
  ·simp[isB,z]
  ·exact f6v h1 (by omega) h4.2
 have g2:isB s l.2.1 (decide (l.2.2.1=1))=true:=by
  rcases h5 with⟨a,b⟩|⟨a,b,_⟩
  ·simp[isB,a,b]
  ·exact f6v h1 a b
 have g3:(decide (1≤l.2.2.1)&&decide (l.2.2.1≤4))=true:=by
  rcases h5 with⟨a,b⟩|⟨_,_,a,b⟩ <;> simp <;> omega
 have g4:(allN l.2.2.2.1.length fun i=>b5g (l.2.2.2.1.getD i 0))=true:=by
  rw[a5y];intro i hi;have:=h3 _ (a6s (d:=0) hi);unfold b5g;rw[decide_eq_true this.1,decide_eq_true this.2];rfl
 rw[g1,g2,g3,g4,decide_eq_true h2];rfl
theorem c3w.col{s:Sch}(h:c3w s 0):∀c,c∈s.1→TyOK c.2.2.1∧a1v c.2.1∧c.2.1.length≤2:=by
 obtain⟨t,r,h1,h2,h3,h4⟩:=h;intro c hc;rw[h2] at hc;have b0:a1v [105,100]:=by intro b hb;simp at hb;omega
 have b1:a1v [116]:=by intro b hb;simp at hb;omega
 have b2:a1v [99,99]:=by intro b hb;simp at hb;omega
 have b3:a1v [99,98]:=by intro b hb;simp at hb;omega
 rcases A3.1 hc with rfl|hc
 ·exact⟨h1,b0,by simp⟩
 rcases A3.1 hc with rfl|hc
 ·exact⟨⟨by simp,by simp⟩,b1,by simp⟩
 rcases h4 with⟨rfl,_,_⟩|⟨u,hu,rfl,hk⟩|⟨u,hu,rfl,hk⟩|⟨u,v,hu,hv,rfl,hk⟩
 ·simp at hc
 ·omega
 ·rw[BS.1 hc];exact⟨hu,b3,by simp⟩
 ·rcases A3.1 hc with rfl|hc
  ·exact⟨hu,b2,by simp⟩
  ·rw[BS.1 hc];exact⟨hv,b3,by simp⟩
theorem e7o{t:Int}(h1:1≤t)(h2:t≤4):b1a t d0=true:=by simp[b1a,mayV,a4c,d0,h1,h2]
end Go.Rb.R7

namespace Go.Rb.R7
open Go.Rb
variable {n:Nat} {s:Sch} {l:Lay} {c:Chg} {i:Nat}
def Ap(s:Sch)(l:Lay)(c:Chg)(t:Sch)(m:Lay):Prop :=
 (c.1=1∧a2q c.2.2.1=true∧a4c c.2.2.2.1=true∧a9i s.1 c.2.2.1=none∧b2y s=false∧(t,m,(0:Int),())=insS s l c.2.2.1 s.1.length c.2.2.2.1) ∨
 (c.1=2∧∃i,byId s.1 c.2.1=some i∧s.1.length≠1∧c4n l c=false∧t=(s.1.take i++s.1.drop (i+1),s.2.1,())∧m=(l.1,l.2.1,l.2.2.1,l.2.2.2.1.take i++l.2.2.2.1.drop (i+1),())) ∨
 (c.1=3∧∃i,byId s.1 c.2.1=some i∧b2a s c.2.2.1 (some i)=0∧t=(s.1.set i ((s.1.getD i k0).1,c.2.2.1,(s.1.getD i k0).2.2),s.2.1,())∧m=l) ∨
 (c.1=4∧∃i ty,byId s.1 c.2.1=some i∧a4c ty=true∧t=(s.1.set i ((s.1.getD i k0).1,(s.1.getD i k0).2.1,ty,()),s.2.1,())∧m=l) ∨
 (c.1=5∧∃i,byId s.1 c.2.1=some i∧b2a s c.2.2.1 none=0∧b2y s=false∧(t,m,(0:Int),())=insS s l c.2.2.1 (i+1) 4) ∨
 (c.1=6∧isB s c.2.1 true=true∧t=s∧m=(c.2.1,l.2)) ∨
 (c.1=7∧1≤c.2.2.2.2.2.2.1∧c.2.2.2.2.2.2.1≤4∧isB s c.2.1 (decide (c.2.2.2.2.2.2.1=1))=true∧t=s∧m=(l.1,c.2.1,c.2.2.2.2.2.2.1,l.2.2.2)) ∨
 (c.1=8∧t=s∧m=l) ∨
 (c.1=9∧∃i,byId s.1 c.2.1=some i∧b5g c.2.2.2.2.2.2.1=true∧t=s∧m=(l.1,l.2.1,l.2.2.1,l.2.2.2.1.set i c.2.2.2.2.2.2.1,()))
def Told(s:Sch)(l:Lay)(c:Chg)(r:Res):Prop:=(∃e,e≠0∧r=bad e)∨(mayS s=true∧mayL s l=true∧∃t m,r=(t,m,0,())∧Ap s l c t m)
theorem b7j(s:Sch)(l:Lay)(c:Chg):Told s l c (a3f s l c):=by
 unfold a3f;cases h1:mayS s with
 |false=>exact .inl ⟨1,by simp,by simp⟩
 |true =>
  cases h2:mayL s l with
  |false=>exact .inl ⟨1,by simp,by simp⟩
  |true =>
   rw[if_neg (by simp),if_neg (by simp)];have no:∀{e:Int},e≠0→Told s l c (bad e):=fun he=>.inl ⟨_,he,rfl⟩
   have ok:∀{t:Sch} {m:Lay},Ap s l c t m→Told s l c (t,m,0,()):=fun h=>.inr ⟨h1,h2,_,_,rfl,h⟩
   have okI:∀{nm:List Int} {i:Nat} {ty:Int},(∀t m,(t,m,(0:Int),())=insS s l nm i ty→Ap s l c t m)→Told s l c (insS s l nm i ty):=fun h=>.inr ⟨h1,h2,_,_,rfl,h _ _ rfl⟩
   unfold a2z;by_cases k1:c.1=1
   ·rw[if_pos k1];unfold addS;cases a:a2q c.2.2.1 with
    |false=>exact no (by simp)
    |true =>
     rw[if_neg (by simp)];cases b:a4c c.2.2.2.1 with
     |false=>exact no (by simp)
     |true =>
      rw[if_neg (by simp)];cases d:a9i s.1 c.2.2.1 with
      |some j=>exact no (by simp)
      |none =>
       rw[if_neg (by simp)];cases b1a c.2.2.2.1 c.2.2.2.2.1 with
       |false=>exact no (by simp)
       |true =>
        rw[if_neg (by simp)];cases e:b2y s with
        |true=>exact no (by simp)
        |false=>exact okI fun t m h=>.inl ⟨k1,a,b,d,e,h⟩
   ·rw[if_neg k1];by_cases k6:c.1=6
    ·rw[if_pos (.inl k6)];unfold layS;rw[if_pos k6];cases a:isB s c.2.1 true with
     |false=>exact no (by simp)
     |true=>exact ok (.inr (.inr (.inr (.inr (.inr (.inl ⟨k6,a,rfl,rfl⟩))))))
    ·by_cases k7:c.1=7
     ·rw[if_pos (.inr (.inl k7))];unfold layS;rw[if_neg k6,if_pos k7];by_cases a:c.2.2.2.2.2.2.1<1
      ·rw[if_pos a];exact no (by simp)
      ·rw[if_neg a];by_cases b:4<c.2.2.2.2.2.2.1
       ·rw[if_pos b];exact no (by simp)
       ·rw[if_neg b];cases d:isB s c.2.1 (decide (c.2.2.2.2.2.2.1=1)) with
        |false=>exact no (by simp)
        |true=>exact ok (.inr (.inr (.inr (.inr (.inr (.inr (.inl ⟨k7,by omega,by omega,d,rfl,rfl⟩)))))))
     ·by_cases k8:c.1=8
      ·rw[if_pos (.inr (.inr k8))];unfold layS;rw[if_neg k6,if_neg k7];exact ok (.inr (.inr (.inr (.inr (.inr (.inr (.inr (.inl ⟨k8,rfl,rfl⟩))))))))
      ·rw[if_neg (by omega)];by_cases kk:2≤c.1∧c.1≤5∨c.1=9
       ·rw[if_pos kk];cases hb:byId s.1 c.2.1 with
        |none=>exact no (by simp)
        |some i =>
         dsimp only;unfold c0t;by_cases k2:c.1=2
         ·rw[if_pos k2];unfold e0c;by_cases a:s.1.length=1
          ·rw[if_pos a];exact no (by simp)
          ·rw[if_neg a];cases b:c4n l c with
           |true=>exact no (by simp)
           |false=>exact ok (.inr (.inl ⟨k2,i,hb,a,b,rfl,rfl⟩))
         ·rw[if_neg k2];by_cases k3:c.1=3
          ·rw[if_pos k3];unfold renS;by_cases a:b2a s c.2.2.1 (some i)=0
           ·rw[if_pos a];exact ok (.inr (.inr (.inl ⟨k3,i,hb,a,rfl,rfl⟩)))
           ·rw[if_neg a];exact no a
          ·rw[if_neg k3];by_cases k4:c.1=4
           ·rw[if_pos k4];unfold widS;by_cases a:(s.1.getD i k0).2.2.1=3
            ·rw[if_pos a];exact ok (.inr (.inr (.inr (.inl ⟨k4,i,1,hb,by decide,rfl,rfl⟩))))
            ·rw[if_neg a];by_cases b:(s.1.getD i k0).2.2.1=1
             ·rw[if_pos b];exact ok (.inr (.inr (.inr (.inl ⟨k4,i,2,hb,by decide,rfl,rfl⟩))))
             ·rw[if_neg b];exact no (by simp)
           ·rw[if_neg k4];by_cases k5:c.1=5
            ·rw[if_pos k5];unfold spl;by_cases a:(s.1.getD i k0).2.2.1≠4
             ·rw[if_pos a];exact no (by simp)
             ·rw[if_neg a];cases b:c4n l c with
              |true=>exact no (by simp)
              |false =>
               rw[if_neg (by simp)];by_cases d:b2a s c.2.2.1 none=0
               ·rw[if_neg (by simp[d])];cases e:b2y s with
                |true=>exact no (by simp)
                |false=>exact okI fun t m h=>.inr (.inr (.inr (.inr (.inl ⟨k5,i,hb,d,e,h⟩))))
               ·rw[if_pos d];exact no d
            ·rw[if_neg k5];have k9:c.1=9:=by omega
             unfold recS;cases a:b5g c.2.2.2.2.2.2.1 with
             |false=>exact no (by simp)
             |true=>exact ok (.inr (.inr (.inr (.inr (.inr (.inr (.inr (.inr ⟨k9,i,hb,a,rfl,rfl⟩))))))))
       ·rw[if_neg kk];exact no (by simp)
theorem Ap.len{t:Sch}{m:Lay}(h:Ap s l c t m):t.1.length≤s.1.length+1∧m.2.2.2.1.length≤l.2.2.2.1.length+1:=by
 have hins:∀{nm:List Int} {j:Nat} {ty:Int},(t,m,(0:Int),())=insS s l nm j ty→t.1.length≤s.1.length+1∧m.2.2.2.1.length≤l.2.2.2.1.length+1:=fun h=>by
  simp only[insS,Aj] at h;obtain⟨rfl,rfl,_⟩:=h;simp;omega
 rcases h with⟨_,_,_,_,_,h⟩|⟨_,i,_,_,_,rfl,rfl⟩|⟨_,i,_,_,rfl,rfl⟩|⟨_,i,ty,_,_,rfl,rfl⟩|⟨_,i,_,_,_,h⟩|⟨_,_,rfl,rfl⟩|⟨_,_,_,_,rfl,rfl⟩|⟨_,rfl,rfl⟩|⟨_,i,_,_,rfl,rfl⟩
 ·exact hins h
 ·simp;omega
 ·simp
 ·simp
 ·exact hins h
 ·simp
 ·simp
 ·simp
 ·simp
theorem e5w(s:Sch)(l:Lay)(c:Chg):(a3f s l c).1.1.length≤s.1.length+1∧(a3f s l c).2.1.2.2.2.1.length≤l.2.2.2.1.length+1:=by
 rcases b7j s l c with⟨e,_,h⟩|⟨_,_,t,m,h,ha⟩
 ·rw[h];simp[bad]
 ·rw[h];exact ha.len
end Go.Rb.R7

namespace Go.Rb.R7
open Go.Rb
variable {n:Nat} {s:Sch} {l:Lay} {c:Chg} {i:Nat}
def Df(a b:Cl):Prop:=a.1≠b.1∧a.2.1≠b.2.1
def CP(last:Int)(c:Cl):Prop:=1≤c.1∧c.1≤last∧a2q c.2.1=true∧a4c c.2.2.1=true
structure May (s:Sch):Prop where
 col:∀c,c∈s.1→CP s.2.1 c
 df:s.1.Pairwise Df
 len1:1≤s.1.length
 len6:s.1.length≤6
 last:s.2.1≤10000
theorem Df.symm{a b:Cl}(h:Df a b):Df b a:=⟨fun e=>h.1 e.symm,fun e=>h.2 e.symm⟩
theorem b5h:mayS s=true↔May s:=by
 unfold mayS d7k;simp only[Af,decide_eq_true_eq];constructor
 ·rintro⟨h1,⟨h2,h3⟩,h4⟩;have hc:=a5y.1 h1;refine⟨fun c hc'=>?_,BG.2 fun i j hi hj hij=>?_,h2,h3,h4⟩
  ·obtain⟨i,hi,rfl⟩:=Bf hc';have:=hc i hi;unfold d0b at this;simp only[Af,decide_eq_true_eq] at this;rw[a0h hi] at this;exact⟨this.1.1.1.1,this.1.1.1.2,this.1.1.2,this.1.2⟩
  ·have:=hc j hj;unfold d0b at this;simp only[Af] at this;have h5:¬(anyN j fun k=>b4b (s.1.getD k k0) (s.1.getD j k0))=true:=by simpa using this.2
   rw[b5x] at h5;have h6:¬b4b (s.1.getD i k0) (s.1.getD j k0)=true:=fun h=>h5 ⟨i,hij,h⟩
   rw[a0h hi,a0h hj] at h6;unfold b4b at h6;simp only[BR,decide_eq_true_eq,not_or] at h6;exact h6
 ·rintro⟨h1,h2,h3,h4,h5⟩;refine⟨a5y.2 fun i hi=>?_,⟨h3,h4⟩,h5⟩;unfold d0b;have hm:=h1 _ (a6s (d:=k0) hi);obtain⟨g1,g2,g3,g4⟩:=hm;rw[decide_eq_true g1,decide_eq_true g2,g3,g4];have:(anyN i fun k=>b4b (s.1.getD k k0) (s.1.getD i k0))=false:=by
   rw[Bool.eq_false_iff];intro h;obtain⟨k,hk,hs⟩:=b5x.1 h;have hd:=BG.1 h2 k i (by omega) hi hk;rw[a0h (show k<s.1.length by omega),a0h hi] at hs;unfold b4b at hs;simp only[BR,decide_eq_true_eq] at hs;exact hs.elim hd.1 hd.2
  rw[this];rfl
def Has(s:Sch)(id:Int):Prop:=∃c,c∈s.1∧c.1=id
theorem e1f{id:Int}{b:Bool}:isB s id b=true↔Has s id∨(b=true∧id=0):=by
 unfold isB;rw[BR,Af,decide_eq_true_eq];refine or_congr ?_ Iff.rfl;unfold byId;rw[a7y,b5x];constructor
 ·rintro⟨i,hi,h⟩;exact⟨_,a6s (d:=k0) hi,by simpa using h⟩
 ·rintro⟨c,hc,rfl⟩;obtain⟨i,hi,rfl⟩:=Bf hc;exact⟨i,hi,by rw[a0h hi];simp⟩
structure MayL (s:Sch) (l:Lay):Prop where
 sort:Has s l.1∨l.1=0
 parts:1≤l.2.2.1∧l.2.2.1≤4
 part:Has s l.2.1∨(l.2.2.1=1∧l.2.1=0)
 enc:l.2.2.2.1.length=s.1.length
 encs:∀e,e∈l.2.2.2.1→b5g e=true
theorem c2q:mayL s l=true↔MayL s l:=by
 unfold mayL;simp only[Af,decide_eq_true_eq,e1f,true_and];constructor
 ·rintro⟨⟨⟨⟨h1,h2⟩,h3⟩,h4⟩,h5⟩;refine⟨h1,h2,h3,h4,fun e he=>?_⟩;obtain⟨i,hi,rfl⟩:=Bf he;have:=a5y.1 h5 i hi;rwa [a0h hi] at this
 ·rintro⟨h1,h2,h3,h4,h5⟩;exact⟨⟨⟨⟨h1,h2⟩,h3⟩,h4⟩,a5y.2 fun i hi=>h5 _ (a6s hi)⟩
theorem c2d{id:Int}(h:byId s.1 id=some i):∃hi:i<s.1.length,(s.1[i]'hi).1=id:=by
 have g1:=a6x h;have g2:=c7s h;refine⟨g1,?_⟩;rw[a0h g1] at g2;simpa using g2
theorem c1m{nm:List Int}(h:a9i s.1 nm=none):∀c,c∈s.1→c.2.1≠nm:=by
 intro c hc;obtain⟨i,hi,rfl⟩:=Bf hc;have:=c0u.1 h i hi;rw[a0h hi] at this;simpa using this
theorem e0q{nm:List Int}(h:a9i s.1 nm=some i):∃hi:i<s.1.length,(s.1[i]'hi).2.1=nm:=by
 have g1:=a6x h;have g2:=c7s h;refine⟨g1,?_⟩;rw[a0h g1] at g2;simpa using g2
theorem e2y{α:Type}(l:List α)(i:Nat)(hi:i<l.length):l=l.take i++(l[i]::l.drop (i+1)):=by
 rw[←List.drop_eq_getElem_cons hi,Bw]
theorem set3{α:Type}(l:List α)(i:Nat)(x:α)(hi:i<l.length):l.set i x=l.take i++(x::l.drop (i+1)):=by
 rw[List.set_eq_take_append_cons_drop,if_pos hi]
theorem f6p{A B:List Cl}{x:Cl}(h:(A++(x::B)).Pairwise Df):(A++B).Pairwise Df :=
 h.sublist (Il (List.sublist_cons_self x B) A)
theorem f6n{A B:List Cl}{x:Cl}(h:(A++B).Pairwise Df)(hx:∀c,c∈A++B→Df c x):(A++(x::B)).Pairwise Df:=by
 rw[EJ] at h ⊢;obtain⟨h1,h2,h3⟩:=h;refine⟨h1,Fc.2 ⟨fun b hb=>(hx b (List.mem_append_right _ hb)).symm,h2⟩,fun a ha b hb=>?_⟩;rcases A3.1 hb with rfl|hb
 ·exact hx a (List.mem_append_left _ ha)
 ·exact h3 a ha b hb
theorem e2x{A B:List Cl}{x:Cl}(h:(A++(x::B)).Pairwise Df):∀c,c∈A++B→Df c x:=by
 rw[EJ] at h;obtain⟨h1,h2,h3⟩:=h;intro c hc;rcases Aq.1 hc with hc|hc
 ·exact h3 c hc x Cf
 ·exact((Fc.1 h2).1 c hc).symm
theorem b4x{α:Type}{A B:List α}{x c:α}:c∈A++(x::B)↔c=x∨c∈A++B:=by
 simp only[Aq,A3];constructor
 ·rintro(h|rfl|h)
  ·exact .inr (.inl h)
  ·exact .inl rfl
  ·exact .inr (.inr h)
 ·rintro(rfl|h|h)
  ·exact .inr (.inl rfl)
  ·exact .inl h
  ·exact .inr (.inr h)
structure Kept (s:Sch) (l:Lay) (c:Chg) (t:Sch) (m:Lay):Prop where
 may:May t
 mayL:MayL t m
 lo:s.2.1≤t.2.1
 hi:t.2.1≤s.2.1+1
 col:∀x,x∈t.1→(x.1=s.2.1+1∧t.2.1=s.2.1+1)∨x∈s.1∨(x.1=c.2.1∧Has s x.1)
 drop:c.1=2→Has s c.2.1∧∀x,x∈t.1→x∈s.1∧x.1≠c.2.1
theorem g2r(hs:May s){nm:List Int}{ty:Int}(hn:∀c,c∈s.1→c.2.1≠nm):∀c,c∈s.1→Df c (s.2.1+1,nm,ty,()):=fun c hc=>⟨by have:=(hs.col c hc).2.1;show c.1≠s.2.1+1;omega,hn c hc⟩
theorem Has.mono{t:Sch}{id:Int}(h:Has s id)(ht:∀x,x∈s.1→∃y,y∈t.1∧y.1=x.1):Has t id:=by
 obtain⟨c,hc,rfl⟩:=h;obtain⟨y,hy,he⟩:=ht c hc;exact⟨y,hy,he⟩
theorem MayL.mono{t:Sch}{m:Lay}(h:MayL s l)(ht:∀x,x∈s.1→∃y,y∈t.1∧y.1=x.1)(h1:m.1=l.1)(h2:m.2.1=l.2.1)(h3:m.2.2.1=l.2.2.1)(h4:m.2.2.2.1.length=t.1.length)(h5:∀e,e∈m.2.2.2.1→e∈l.2.2.2.1∨b5g e=true):MayL t m:=by
 refine⟨?_,by rw[h3];exact h.parts,?_,h4,fun e he=>(h5 e he).elim (h.encs e) id⟩
 ·rw[h1];exact h.sort.imp (fun h=>h.mono ht) id
 ·rw[h2,h3];exact h.part.imp (fun h=>h.mono ht) id
theorem e2d(hs:May s)(hl:MayL s l){nm:List Int}{ty:Int}{j:Nat}{t:Sch}{m:Lay}(hj:j≤s.1.length)(hn:a2q nm=true)(ht:a4c ty=true)(hnm:∀c,c∈s.1→c.2.1≠nm)(hf:b2y s=false)(hk:c.1≠2)(h:(t,m,(0:Int),())=insS s l nm j ty):Kept s l c t m:=by
 simp only[insS,Aj,List.cons_append,B5] at h;obtain⟨rfl,rfl,_⟩:=h;have hfull:s.1.length<6∧s.2.1<10000:=by
  unfold b2y at hf;simp only[Bool.or_eq_false_iff,decide_eq_false_iff_not] at hf;omega
 have htd:s.1.take j++s.1.drop j=s.1:=Bw j s.1;have hmem:∀x,x∈s.1.take j++((s.2.1+1,nm,ty,())::s.1.drop j)↔x=(s.2.1+1,nm,ty,())∨x∈s.1:=fun x=>by rw[b4x,htd]
 have hlen:(s.1.take j++((s.2.1+1,nm,ty,())::s.1.drop j)).length=s.1.length+1:=by simp;omega
 refine⟨⟨fun x hx=>?_,?_,?_,?_,?_⟩,hl.mono (fun x hx=>⟨x,(hmem x).2 (.inr hx),rfl⟩) rfl rfl rfl ?_ fun e he=>?_,?_,?_,fun x hx=>?_,fun h=>absurd h hk⟩
 ·rcases(hmem x).1 hx with rfl|hx
  ·have h1:=hs.len1;have h2:=hs.col _ (A1 (show 0<s.1.length by omega));have:=h2.1;have:=h2.2.1;exact⟨by show 1≤s.2.1+1;omega,by show s.2.1+1≤s.2.1+1;omega,hn,ht⟩
  ·obtain⟨g1,g2,g3,g4⟩:=hs.col x hx;exact⟨g1,by show x.1≤s.2.1+1;omega,g3,g4⟩
 ·refine f6n (by rw[htd];exact hs.df) fun x hx=>?_
  rw[htd] at hx;exact g2r hs hnm x hx
 ·show 1≤(s.1.take j++((s.2.1+1,nm,ty,())::s.1.drop j)).length;rw[hlen];omega
 ·show(s.1.take j++((s.2.1+1,nm,ty,())::s.1.drop j)).length≤6;rw[hlen];omega
 ·show s.2.1+1≤10000;omega
 ·show(l.2.2.2.1.take j++(1::l.2.2.2.1.drop j)).length=(s.1.take j++((s.2.1+1,nm,ty,())::s.1.drop j)).length;rw[hlen];have:=hl.enc;simp;omega
 ·rcases b4x.1 he with rfl|he
  ·exact .inr (by decide)
  ·rw[Bw] at he;exact .inl he
 ·show s.2.1≤s.2.1+1;omega
 ·show s.2.1+1≤s.2.1+1;omega
 ·rcases(hmem x).1 hx with rfl|hx
  ·exact .inl ⟨rfl,rfl⟩
  ·exact .inr (.inl hx)
theorem e3g(hs:May s)(hl:MayL s l)(hi:i<s.1.length){y:Cl}{t:Sch}(ht:t=(s.1.set i y,s.2.1,()))(hy:y.1=(s.1[i]'hi).1)(hn:a2q y.2.1=true)(hty:a4c y.2.2.1=true)
  (hnm:∀c,c∈s.1.take i++s.1.drop (i+1)→c.2.1≠y.2.1) (hid:(s.1[i]'hi).1=c.2.1) (hk:c.1≠2):Kept s l c t l:=by
 subst ht;have h3:=e2y s.1 i hi;have hpw:=hs.df;rw[h3] at hpw;have hset:=set3 s.1 i y hi;have hmem:∀x,x∈s.1.set i y→x=y∨x∈s.1.take i++s.1.drop (i+1):=fun x hx=>by
  rw[hset] at hx;exact b4x.1 hx
 have hold:∀x,x∈s.1.take i++s.1.drop (i+1)→x∈s.1:=fun x hx=>by
  rw[h3];exact b4x.2 (.inr hx)
 have hyid:=hs.col _ (A1 hi);refine⟨⟨fun x hx=>?_,?_,?_,?_,hs.last⟩,hl.mono (fun x hx=>?_) rfl rfl rfl ?_ fun e he=>.inl he,Bu _,?_,fun x hx=>?_,fun h=>absurd h hk⟩
 ·rcases hmem x hx with rfl|hx
  ·exact⟨by rw[hy];exact hyid.1,by rw[hy];exact hyid.2.1,hn,hty⟩
  ·exact hs.col x (hold x hx)
 ·show(s.1.set i y).Pairwise Df;rw[hset];refine f6n (f6p hpw) fun x hx=>⟨?_,hnm x hx⟩
  rw[hy];exact(e2x hpw x hx).1
 ·show 1≤(s.1.set i y).length;rw[Bx];exact hs.len1
 ·show(s.1.set i y).length≤6;rw[Bx];exact hs.len6
 ·rw[h3] at hx;rcases b4x.1 hx with rfl|hx
  ·exact⟨y,by show y∈s.1.set i y;rw[hset];exact b4x.2 (.inl rfl),hy⟩
  ·exact⟨x,by show x∈s.1.set i y;rw[hset];exact b4x.2 (.inr hx),rfl⟩
 ·show l.2.2.2.1.length=(s.1.set i y).length;rw[Bx];exact hl.enc
 ·show s.2.1≤s.2.1+1;omega
 ·rcases hmem x hx with rfl|hx
  ·exact .inr (.inr ⟨hy.trans hid,_,A1 hi,hy.symm⟩)
  ·exact .inr (.inl (hold x hx))
theorem e5u{nm:List Int}(h:b2a s nm none=0):a2q nm=true∧∀c,c∈s.1→c.2.1≠nm:=by
 unfold b2a at h;cases hn:a2q nm with
 |false=>simp[hn] at h
 |true =>
  rw[hn] at h;cases hb:a9i s.1 nm with
  |none=>exact⟨rfl,c1m hb⟩
  |some j=>simp[hb] at h
theorem e0a(hs:May s)(hi:i<s.1.length){nm:List Int}(h:b2a s nm (some i)=0):a2q nm=true∧∀c,c∈s.1.take i++s.1.drop (i+1)→c.2.1≠nm:=by
 unfold b2a at h;have h3:=e2y s.1 i hi;have hpw:=hs.df;rw[h3] at hpw;cases hn:a2q nm with
 |false=>simp[hn] at h
 |true =>
  rw[hn] at h;cases hb:a9i s.1 nm with
  |none=>exact⟨rfl,fun c hc=>c1m hb c (by rw[h3];exact b4x.2 (.inr hc))⟩
  |some j =>
   simp only[hb,Cd,if_false,Ad] at h;have hj:j=i:=by
    by_cases e:j=i
    ·exact e
    ·simp[e] at h
   subst hj;obtain⟨_,he⟩:=e0q hb;refine⟨rfl,fun c hc=>?_⟩;rw[←he];exact(e2x hpw c hc).2
theorem Ap.kept{t:Sch}{m:Lay}(hs:May s)(hl:MayL s l)(h:Ap s l c t m):Kept s l c t m:=by
 rcases h with⟨k,h1,h2,h3,h4,h⟩|⟨k,i,hb,h1,h2,rfl,rfl⟩|⟨k,i,hb,h1,rfl,rfl⟩|⟨k,i,ty,hb,h1,rfl,rfl⟩|⟨k,i,hb,h1,h2,h⟩|⟨k,h1,rfl,rfl⟩|⟨k,h1,h2,h3,rfl,rfl⟩|⟨k,rfl,rfl⟩|⟨k,i,hb,h1,rfl,rfl⟩
 ·exact e2d hs hl (Ar _) h1 h2 (c1m h3) h4 (by omega) h
 ·obtain⟨hi,hid⟩:=c2d hb;have h3:=e2y s.1 i hi;have hpw:=hs.df;rw[h3] at hpw;have hold:∀x,x∈s.1.take i++s.1.drop (i+1)→x∈s.1∧x.1≠c.2.1:=fun x hx=>⟨by rw[h3];exact b4x.2 (.inr hx),by rw[←hid];exact(e2x hpw x hx).1⟩
  have hlen:(s.1.take i++s.1.drop (i+1)).length=s.1.length - 1:=by simp;omega
  have hhas:∀{id:Int},Has s id→id≠c.2.1→Has (s.1.take i++s.1.drop (i+1),s.2.1,()) id:=fun hh hne=>by
   obtain⟨x,hx,rfl⟩:=hh;rw[h3] at hx;rcases b4x.1 hx with rfl|hx
   ·exact absurd hid hne
   ·exact⟨x,hx,rfl⟩
  have hheld:l.1≠c.2.1∧l.2.1≠c.2.1:=by
   unfold c4n at h2;simpa using h2
  have hs1:=hs.len1;have hs6:=hs.len6;have hle:=hl.enc;refine⟨⟨fun x hx=>hs.col x (hold x hx).1,f6p hpw,?_,?_,hs.last⟩,⟨hl.sort.imp (fun h=>hhas h hheld.1) id,hl.parts,hl.part.imp (fun h=>hhas h hheld.2) id,?_,fun e he=>hl.encs e ?_⟩,Bu _,?_,fun x hx=>.inr (.inl (hold x hx).1),fun _=>⟨⟨_,A1 hi,hid⟩,hold⟩⟩
  ·show 1≤(s.1.take i++s.1.drop (i+1)).length;rw[hlen];omega
  ·show(s.1.take i++s.1.drop (i+1)).length≤6;rw[hlen];omega
  ·show(l.2.2.2.1.take i++l.2.2.2.1.drop (i+1)).length=(s.1.take i++s.1.drop (i+1)).length;rw[hlen];simp;omega
  ·rcases Aq.1 he with he|he
   ·exact List.mem_of_mem_take he
   ·exact List.mem_of_mem_drop he
  ·show s.2.1≤s.2.1+1;omega
 ·obtain⟨hi,hid⟩:=c2d hb;obtain⟨g1,g2⟩:=e0a hs hi h1;have hc:=hs.col _ (A1 hi);refine e3g hs hl hi rfl ?_ g1 ?_ g2 hid (by omega)
  ·rw[a0h hi]
  ·rw[a0h hi];exact hc.2.2.2
 ·obtain⟨hi,hid⟩:=c2d hb;have hc:=hs.col _ (A1 hi);have h3:=e2y s.1 i hi;have hpw:=hs.df;rw[h3] at hpw;refine e3g hs hl hi rfl ?_ ?_ h1 (fun x hx=>?_) hid (by omega)
  ·rw[a0h hi]
  ·show a2q (s.1.getD i k0).2.1=true;rw[a0h hi];exact hc.2.2.1
  ·show x.2.1≠(s.1.getD i k0).2.1;rw[a0h hi];exact(e2x hpw x hx).2
 ·obtain⟨hi,hid⟩:=c2d hb;obtain⟨g1,g2⟩:=e5u h1;exact e2d hs hl hi g1 (by decide) g2 h2 (by omega) h
 ·refine⟨hs,⟨?_,hl.parts,hl.part,hl.enc,hl.encs⟩,Bu _,by omega,fun x hx=>.inr (.inl hx),fun h=>absurd h (by omega)⟩;exact(e1f.1 h1).imp id And.right
 ·refine⟨hs,⟨hl.sort,⟨h1,h2⟩,?_,hl.enc,hl.encs⟩,Bu _,by omega,fun x hx=>.inr (.inl hx),fun h=>absurd h (by omega)⟩;exact(e1f.1 h3).imp id fun h=>⟨of_decide_eq_true h.1,h.2⟩
 ·exact⟨hs,hl,Bu _,by omega,fun x hx=>.inr (.inl hx),fun h=>absurd h (by omega)⟩
 ·refine⟨hs,⟨hl.sort,hl.parts,hl.part,?_,fun e he=>?_⟩,Bu _,by omega,fun x hx=>.inr (.inl hx),fun h=>absurd h (by omega)⟩
  ·show(l.2.2.2.1.set i c.2.2.2.2.2.2.1).length=_;rw[Bx];exact hl.enc
  ·rcases List.mem_or_eq_of_mem_set he with he|rfl
   ·exact hl.encs e he
   ·exact h1
end Go.Rb.R7
