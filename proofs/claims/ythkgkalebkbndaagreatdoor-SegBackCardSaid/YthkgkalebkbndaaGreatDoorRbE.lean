/- Rb: heads: what is kept, packed, laid beside. Own work. -/
import Derived.Test.YthkgkalebkbndaaGreatDoorRbD
import Derived.LoopN
import Derived.Below
import Derived.Carry
import Derived.JoinedOf
import Derived.RowKit
import Derived.ProofKit
import Derived.Test.YthkgkalebkbndaaGreatDoorRbA
set_option autoImplicit false
set_option linter.unusedVariables false
set_option linter.unusedSimpArgs false
namespace Go.Rb
variable {A:Amb} {P:Program} {Z Z':Nat→Prop} {h h':Array Obj} {R:Type} {C C':Ctx} {B:Base} {e e':En} {a a':Act} {w w':World} {F F0:Nat→List Nat} {X X0:List Nat} {r:Nat→Ent} {o:Oper}
theorem d0c(ht:C'.ty=C.ty):∀{fs:List Field} {t:Ty} {o:Nat},a8h C fs t o→a8h C' fs t o
 |[],.unit,_,_=>trivial
 |f::fs,.pair a b,o,hf=>by
  obtain⟨h1,h2,h3,h4⟩:=hf
  exact⟨h1,by rw[ht];exact h2,h3,d0c ht h4⟩
 |[],.int _,_,hf=>hf.elim
 |[],.bool,_,hf=>hf.elim
 |[],.str,_,hf=>hf.elim
 |[],.err,_,hf=>hf.elim
 |[],.sl _ _ _,_,hf=>hf.elim
 |[],.slh _ _,_,hf=>hf.elim
 |[],.fn _ _,_,hf=>hf.elim
 |[],.fn2 _ _ _,_,hf=>hf.elim
 |[],.ptr _,_,hf=>hf.elim
 |[],.st _,_,hf=>hf.elim
 |[],.pair _ _,_,hf=>hf.elim
 |[],.arr _ _,_,hf=>hf.elim
 |[],.lf _,_,hf=>hf.elim
 |_::_,.unit,_,hf=>hf.elim
 |_::_,.int _,_,hf=>hf.elim
 |_::_,.bool,_,hf=>hf.elim
 |_::_,.str,_,hf=>hf.elim
 |_::_,.err,_,hf=>hf.elim
 |_::_,.sl _ _ _,_,hf=>hf.elim
 |_::_,.slh _ _,_,hf=>hf.elim
 |_::_,.fn _ _,_,hf=>hf.elim
 |_::_,.fn2 _ _ _,_,hf=>hf.elim
 |_::_,.ptr _,_,hf=>hf.elim
 |_::_,.st _,_,hf=>hf.elim
 |_::_,.arr _ _,_,hf=>hf.elim
 |_::_,.lf _,_,hf=>hf.elim
theorem f4k(ht:C'.ty=C.ty){d:TypeDesc}{t:Ty}(hk:a7d P C d t):a7d P C' d t:=by
 by_cases hlf:∃q,t=.lf q
 ·obtain⟨q,rfl⟩:=hlf
  cases d <;> cases q <;> first
   |exact hk.elim
   |exact hk
   |(obtain⟨h1,h2⟩:=hk;exact⟨h1,by rw[ht];exact h2⟩)
 cases d <;> cases t <;> first
  |exact absurd ⟨_,rfl⟩ hlf
  |exact hk.elim
  |exact hk
  |(obtain⟨h1,h2,h3⟩:=hk;exact⟨h1,by rw[ht];exact h2,h3⟩)
  |exact d0c ht hk
theorem d4g(ht:C'.ty=C.ty)(h:a3h P C):a3h P C':=by
 intro t ty hty
 rw[ht] at hty
 obtain⟨⟨i,d,h1,h2,h3,h4,h5⟩,h6,h7⟩:=h t ty hty
 exact⟨⟨i,d,h1,h2,h3,f4k ht h4,h5⟩,h6,h7⟩
theorem c8j(hg:C'.gl=C.gl)(h:GlobOK A P C Z h'):GlobOK A P C' Z h':=by
 exact⟨fun g t x hx=>h.var g t x (by rw[←hg];exact hx),h.amb⟩
theorem e3f(hf:C'.ft=C.ft)(hg:C'.gl=C.gl)(h:FtOK A P C):FtOK A P C':=by
 intro f sg G hG
 rw[hf] at hG
 obtain⟨h1,h2⟩:=h f sg G hG
 exact⟨h1,fun x y hy Z w vs fp hgl=>h2 x y hy Z w vs fp (c8j hg.symm hgl)⟩
theorem Rel.ctx(hrel:Rel A P C B e a w Z F X)(hn:C'.nt=C.nt)(hg:C'.gl=C.gl):Rel A P C' B e a w Z F X :=
 ⟨hrel.own,hrel.ref,hrel.nodup,hrel.disj,hrel.notZ,hrel.fb,hrel.fnew,hrel.xnodup,hrel.xdisj,hrel.xnotZ,hrel.xb,hrel.xnew,hrel.zb,hrel.z,hrel.znew,hrel.hs,hrel.keep,hrel.os,hrel.out,hrel.tape,hrel.defs,by rw[hn];exact hrel.nt,c8j hg hrel.glob,hrel.fix⟩
def b7o(e:En):Prop:=∀i,(e.get i).s.noRef
theorem a7i{i:Nat}{s:SV}{v c:Nat}(he:b7o e)(hs:s.noRef):b7o ((i,⟨v,c,s⟩)::e):=by
 intro j
 rw[b2a]
 split
 ·exact hs
 ·exact he j
theorem Rel.forget(hrel:Rel A P C B e a w Z F X):Rel A P C B [] a w Z (fun _=>[]) X :=
 { hrel with own:=fun i=>rfl,ref:=fun i=>trivial,nodup:=fun i=>List.nodup_nil,disj:=fun i j b hb=>by simp at hb,notZ:=fun i b hb=>by simp at hb,fb:=fun i b hb=>by simp at hb,fnew:=fun i b hb=>by simp at hb,xdisj:=fun i b hb=>by simp at hb }
theorem Rel.consTop(he:b7o e){f:List Nat}(hrel:Rel A P C B e a w Z F (f++X)){i v c:Nat}{s:SV}(own:Own A P Z w.heap s (a.tm i) f)(hs:s.noRef):Rel A P C B ((i,⟨v,c,s⟩)::e) a w Z (setF F i f) X:=by
 obtain⟨n1,n2,n3⟩:=List.nodup_append.1 hrel.xnodup
 have hF:∀j b,b∈setF F i f j→(j=i∧b∈f)∨(j≠i∧b∈F j):=by
  intro j b hb
  unfold setF at hb
  split at hb
  ·exact .inl ⟨‹_›,hb⟩
  ·exact .inr ⟨‹_›,hb⟩
 refine { hrel with own:=fun j=>?_,ref:=fun j=>?_,nodup:=fun j=>?_,disj:=fun j k b hj hk=>?_,notZ:=fun j b hb=>?_,fb:=fun j b hb=>?_,fnew:=fun j b hb=>?_,xnodup:=n2,xdisj:=fun j b hb=>?_,xnotZ:=fun b hb=>hrel.xnotZ b (List.mem_append_right _ hb),xb:=fun b hb=>hrel.xb b (List.mem_append_right _ hb),xnew:=fun b hb=>hrel.xnew b (List.mem_append_right _ hb) }
 ·rw[b2a]
  unfold setF
  by_cases hj:i=j
  ·subst hj;simpa using own
  ·rw[if_neg hj,if_neg (Ne.symm hj)];exact hrel.own j
 ·exact d0b (a7i he hs j)
 ·unfold setF;split
  ·exact n1
  ·exact hrel.nodup j
 ·rcases hF j b hj with⟨rfl,h1⟩|⟨h0,h1⟩ <;> rcases hF k b hk with⟨rfl,h2⟩|⟨h3,h2⟩
  ·rfl
  ·exact absurd (List.mem_append_left _ h1) (hrel.xdisj k b h2)
  ·exact absurd (List.mem_append_left _ h2) (hrel.xdisj j b h1)
  ·exact hrel.disj j k b h1 h2
 ·rcases hF j b hb with⟨rfl,h1⟩|⟨h0,h1⟩
  ·exact hrel.xnotZ b (List.mem_append_left _ h1)
  ·exact hrel.notZ j b h1
 ·rcases hF j b hb with⟨rfl,h1⟩|⟨h0,h1⟩
  ·exact hrel.xb b (List.mem_append_left _ h1)
  ·exact hrel.fb j b h1
 ·rcases hF j b hb with⟨rfl,h1⟩|⟨h0,h1⟩
  ·exact hrel.xnew b (List.mem_append_left _ h1)
  ·exact hrel.fnew j b h1
 ·rcases hF j b hb with⟨rfl,h1⟩|⟨h0,h1⟩
  ·intro hx;exact n3 b h1 b hx rfl
  ·intro hx;exact hrel.xdisj j b h1 (List.mem_append_right _ hx)
theorem Rel.bring{f:List Nat}(hrel:Rel A P C B e a w Z F (f++X)){i:Nat}{s:SV}(own:Own A P Z w.heap s (a.tm i) f)(hs:s.noRef):Rel A P C B (e.app [⟨i,.slot,s⟩]) a w Z (setF F i f) X:=by
 refine hrel.root (w':=w) (bp:=.slot) rfl rfl rfl rfl (fun _ _ _=>rfl) (fun b=>id) (fun b=>.inl) own hrel.xnodup (fun b hb=>.inr hb) hrel.xnotZ (d0b hs) fun j hj=>?_
 refine a8v (F:=F) hrel.own (hrel.ref j) (fun _ _ _ _ _ _=>rfl) fun p=>?_
 rw[a0r]
 by_cases hp:p=i
 ·subst hp;right;simp[Ent.bump]
 ·left;rw[if_neg (Ne.symm hp)];exact⟨rfl,rfl,fun _ _=>rfl⟩
theorem Rel.permX(hrel:Rel A P C B e a w Z F X){X':List Nat}(hp:X.Perm X'):Rel A P C B e a w Z F X' :=
 { hrel with xnodup:=hp.nodup_iff.1 hrel.xnodup,xdisj:=fun i b hb hx=>hrel.xdisj i b hb (hp.mem_iff.2 hx),xnotZ:=fun b hb=>hrel.xnotZ b (hp.mem_iff.2 hb),xb:=fun b hb=>hrel.xb b (hp.mem_iff.2 hb),xnew:=fun b hb=>hrel.xnew b (hp.mem_iff.2 hb) }
def b5w(B:Base)(a:Act)(l:List Nat):Nat→Option Value:=fun i=>if i∈l then some (a.tm i) else B.fix i
theorem f6k{l:List Nat}(hf:∀i v,B.fix i=some v→a.tm i=v)(i:Nat)(v:Value)(hv:b5w B a l i=some v):a.tm i=v:=by
 unfold b5w at hv
 split at hv
 ·exact Option.some.inj hv
 ·exact hf i v hv
theorem Rel.start(hrel:Rel A P C B e a w Z F X){l:List Nat}{fp0:Nat→Prop}(hF:∀i b,b∈F i→fp0 b)(hX:∀b,b∈X→fp0 b):Rel A P C ⟨Z,w,fp0,b5w B a l⟩ e a w Z F X :=
 { hrel with fnew:=fun i b hb=>.inl (hF i b hb),xnew:=fun b hb=>.inl (hX b hb),z:=fun b=>id,znew:=fun b=>.inl,hs:=Nat.le_refl _,keep:=fun _ _ _=>rfl,os:=rfl,out:=rfl,tape:=rfl,fix:=f6k hrel.fix }
theorem Rel.back(hout:Rel A P C B e a w Z F X){l fr:List Nat}{fp0:Nat→Prop}(hfp:∀b,fp0 b→b∈X∨∃i,i∉fr∧b∈F i){F':Nat→List Nat}{X' Y:List Nat}
  (hin:Rel A P C ⟨Z,w,fp0,b5w B a l⟩ e' a' w' Z' F' X') (hY:∀b,b∈Y→∃i,i∈fr∧b∈F i) (hYn:Y.Nodup) :
  Rel A P C B e' a' w' Z' F' (X'++Y)∧(∀b,b∈Y→w'.heap[b]?=w.heap[b]?):=by
 have hfo:∀b,fp0 b→B.fp0 b∨B.w0.heap.size≤b:=fun b hb=>by
  rcases hfp b hb with h|⟨i,_,h⟩
  ·exact hout.xnew b h
  ·exact hout.fnew i b h
 have hnew:∀b,fp0 b∨w.heap.size≤b→B.fp0 b∨B.w0.heap.size≤b:=fun b hb=>by
  rcases hb with h|h
  ·exact hfo b h
  ·exact .inr (Nat.le_trans hout.hs h)
 have hYf:∀b,b∈Y→¬fp0 b:=fun b hb hf=>by
  obtain⟨i,h1,h2⟩:=hY b hb
  rcases hfp b hf with h|⟨j,h3,h4⟩
  ·exact hout.xdisj i b h2 h
  ·exact h3 (hout.disj i j b h2 h4 ▸ h1)
 have hYb:∀b,b∈Y→b<w.heap.size:=fun b hb=>by
  obtain⟨i,h1,h2⟩:=hY b hb
  exact hout.fb i b h2
 have hYz:∀b,b∈Y→¬Z b:=fun b hb=>by
  obtain⟨i,h1,h2⟩:=hY b hb
  exact hout.notZ i b h2
 have hYnew:∀b,b∈Y→¬(fp0 b∨w.heap.size≤b):=fun b hb h=>by
  rcases h with h|h
  ·exact hYf b hb h
  ·have:=hYb b hb;omega
 refine⟨⟨hin.own,hin.ref,hin.nodup,hin.disj,hin.notZ,hin.fb,fun i b hb=>hnew b (hin.fnew i b hb),?_,fun i b hb hx=>?_,fun b hb=>?_,fun b hb=>?_,fun b hb=>?_,hin.zb,fun b hb=>hin.z b (hout.z b hb),fun b hb=>?_,Nat.le_trans hout.hs hin.hs,fun b hb hn=>?_,
  hin.os.trans hout.os,hin.out.trans hout.out,hin.tape.trans hout.tape,hin.defs,hin.nt,hin.glob,fun i v hv=>?_⟩,fun b hb=>hin.keep b (hYb b hb) (hYf b hb)⟩
 ·exact List.nodup_append.2 ⟨hin.xnodup,hYn,fun b hb b' hb' hbb=>by subst hbb;exact hYnew b hb' (hin.xnew b hb)⟩
 ·rcases List.mem_append.1 hx with h|h
  ·exact hin.xdisj i b hb h
  ·exact hYnew b h (hin.fnew i b hb)
 ·rcases List.mem_append.1 hb with h|h
  ·exact hin.xnotZ b h
  ·intro hz
   rcases hin.znew b hz with h1|h1
   ·exact hYz b h h1
   ·exact hYnew b h h1
 ·rcases List.mem_append.1 hb with h|h
  ·exact hin.xb b h
  ·exact Nat.lt_of_lt_of_le (hYb b h) hin.hs
 ·rcases List.mem_append.1 hb with h|h
  ·exact hnew b (hin.xnew b h)
  ·obtain⟨i,h1,h2⟩:=hY b h
   exact hout.fnew i b h2
 ·rcases hin.znew b hb with h1|h1
  ·exact hout.znew b h1
  ·exact .inr (hnew b h1)
 ·have hnf:¬fp0 b:=fun h=>by
   rcases hfo b h with h1|h1
   ·exact hn h1
   ·omega
  rw[hin.keep b (Nat.lt_of_lt_of_le hb hout.hs) hnf]
  exact hout.keep b hb hn
 ·have h1:=hout.fix i v hv
  have h2:b5w B a l i=some v:=by
   unfold b5w
   split
   ·rw[h1]
   ·exact hv
  exact hin.fix i v h2
theorem f5f{s:SV}{v:Value}{fp:List Nat}(ho:Own A P Z h s v fp):Own A P Z h (c9j s) v []:=by
 unfold c9j
 split
 ·rename_i t x
  split
  ·rename_i hp
   obtain⟨cs,h1,h2⟩:=ho
   obtain rfl:=a1o h2 hp
   exact⟨cs,h1,h2⟩
  ·exact rfl
 ·have h1:=ho.1;subst h1;exact ho
 ·have h1:=ho.1;subst h1;exact ho
 ·have h1:=ho.1;subst h1;exact ho
 ·have h1:=ho.1;subst h1;exact ho
 ·have h1:=ho.1;subst h1;exact ho
 ·have h1:=ho.1;subst h1;exact ho
 ·exact rfl
theorem c9k(s:SV):(c9j s).noRef:=by
 unfold c9j;repeat' split
 all_goals trivial
theorem g2y{s:SV}{v:Value}{fp:List Nat}(ho:Own A P Z h s v fp):∃fp',fp' ⊆ fp∧(fp.Nodup→fp'.Nodup)∧Own A P Z h (ownK s) v fp':=by
 unfold ownK
 split
 ·exact⟨fp,fun _=>id,id,ho⟩
 ·exact⟨fp,fun _=>id,id,ho⟩
 ·exact⟨[],by simp,fun _=>List.nodup_nil,rfl⟩
theorem c8m(s:SV):(ownK s).noRef:=by
 unfold ownK;split <;> trivial
theorem a3y(hfix:c5o C B):∀(l:List Nat) {e:En} {Z:Nat→Prop} {F:Nat→List Nat} {k:En→Option R} {res:R},Rel A P C B e a w Z F X→c2q e l k=some res→∃e1 Z1 F1,k e1=some res∧Rel A P C B e1 a w Z1 F1 X
 |[],e,Z,F,k,res,hrel,hk=>⟨e,Z,F,hk,hrel⟩
 |i::l,e,Z,F,k,res,hrel,hk=>by
  unfold c2q at hk
  split at hk
  ·rename_i t x hi
   split at hk
   ·exact a3y hfix l hrel hk
   ·obtain⟨hl,y,hy,hk⟩:=a2c hk
    have ho:=hrel.own i
    rw[hi] at ho
    obtain⟨cs,g1,g2⟩:=ho
    have hR:RootIs (e.get i).s t x:=by rw[hi];exact .val t x
    have hw:(e.get i).s.with t.imm y=.val t.imm y:=by rw[hi];rfl
    have hr2:Rel A P C B (e.app [⟨i,.no,.val t.imm y⟩]) a w (fun b=>Z b∨b∈F i) (setF F i (addB none [])) X:=by
     rw[←hw]
     refine b9q (cs1:=cs) (fp':=F i) hrel hR (by rw[hi];exact⟨g1,rfl⟩) (.inl ⟨rfl,rfl⟩) (c5n t) rfl (a5p hl (c3o t) hy g2) (by simpa using hrel.xnodup) (fun b hb=>.inr (by simpa using hb)) (fun b=>.inl)
      (fun b hb=>hb.imp id .inl) ?_ rfl rfl rfl rfl (fun _ _ _=>rfl) fun j hj=>e7h hrel.own hR (d0x hl) (hrel.ref j)
     intro b hb hzz
     have hb':b∈X:=by simpa using hb
     exact hzz.elim (hrel.xnotZ b hb') fun h=>hrel.xdisj i b h hb'
    exact a3y hfix l hr2 hk
  ·rename_i t x hi
   obtain⟨hl,y,hy,hk⟩:=a2c hk
   exact a3y hfix l (hrel.frzBox hi hl hy (c3o t)).1 hk
  ·exact a3y hfix l hrel hk
  ·exact a3y hfix l hrel hk
  ·exact a3y hfix l hrel hk
  ·exact a3y hfix l hrel hk
  ·exact a3y hfix l hrel hk
  ·exact a3y hfix l hrel hk
  ·rename_i p v c hi
   obtain⟨t0,x0,h1,h2,h3,hk⟩:=a8d hk
   have href:=hrel.ref i
   rw[hi] at href
   have hat:=href.2.2 h2 h3
   obtain⟨cs,base,fp',t1,cs0,ad,x1,fs,fr,g1,g2,g3,g4,g5,g6,g7,g8⟩:=b7t (hrel.own p.root) h1 hat hk
   rw[g6] at hk
   split at hk
   ·rename_i hp
    obtain rfl:=a1o g8 hp
    refine a3y hfix l (F:=setF F i []) (Z:=Z) ?_ hk
    refine hrel.root (w':=w) rfl rfl rfl rfl (fun _ _ _=>rfl) (fun b=>id) (fun b=>.inl) ⟨cs0,g5.1,g8⟩ (by simpa using hrel.xnodup) (fun b hb=>.inr (by simpa using hb)) (fun b hb=>hrel.xnotZ b (by simpa using hb)) trivial ?_
    intro j hj
    refine a8v (F:=F) hrel.own (hrel.ref j) (fun _ _ _ _ _ _=>rfl) fun q=>?_
    rw[a0r]
    by_cases hq:i=q
    ·subst hq;right;simp[Ent.bump]
    ·left;rw[if_neg hq];exact⟨rfl,rfl,fun _ _=>rfl⟩
   ·simp at hk
  ·simp at hk
def f6h(A:Amb)(P:Program)(Z:Nat→Prop)(h:Array Obj)(a:Act):(l:List (Nat×LH))→d7t l→List Nat→Prop
 |[],_,fp=>fp=[]
 |[(i,k)],x,fp=>Own A P Z h (lhSV k x) (a.tm i) fp
 |(i,k)::h'::l,x,fp=>∃f1 f2,Own A P Z h (lhSV k x.1) (a.tm i) f1∧f6h A P Z h a (h'::l) x.2 f2∧fp=f1++f2
theorem c2w(hft:FtOK A P C)(hrel:Rel A P C B e a w Z F X){i:Nat}{hd:LH}{k:hd.den→List Up→Option R}{res:R}(hk:d0e C e i hd k=some res) :
  ∃y us Z1 F1 f,k y us=some res∧Rel A P C B (e.app us) a w Z1 F1 (f++X)∧(∀b,Z b→Z1 b)∧Own A P Z1 w.heap (lhSV hd y) (a.tm i) f:=by
 cases hd with
 |val t =>
  obtain⟨y,us,hk,⟨⟨Z1,F1,fs,cs,g1,g2,g3,g4⟩,_⟩⟩:=a8r hft hrel Sub.refl (o:=.tmp i) (t:=t) (k:=k) hk
  exact⟨y,us,Z1,F1,fs,hk,g1,g2,cs,g3,g4⟩
 |box t =>
  unfold d0e at hk
  dsimp only at hk
  split at hk
  ·rename_i t' x hi
   obtain⟨hl,y,hy,hk⟩:=a2c hk
   have ho:=hrel.own i
   rw[hi] at ho
   obtain⟨b,c,fp',h1,h2,h3,h4⟩:=ho
   obtain⟨f1,fz,q1,q2⟩:=b6y hl hy h4
   have hd:=hrel.drop i
   have hX:(F i++X).Perm ((b::f1++X)++fz):=by
    rw[h3]
    refine List.Perm.cons b ?_
    show(fp'++X).Perm ((f1++X)++fz)
    refine(List.Perm.append_right X q1).trans ?_
    rw[List.append_assoc,List.append_assoc]
    exact List.Perm.append_left f1 List.perm_append_comm
   refine⟨y,_,_,_,b::f1,hk,hd.frzX hX,fun b=>.inl,b,c,f1,h1,h2,rfl,q2 _ (fun b=>.inl) fun b hb=>.inr hb⟩
  ·simp at hk
 |pv t =>
  unfold d0e at hk
  dsimp only at hk
  split at hk
  ·rename_i hp
   split at hk
   ·rename_i t' x hi
    obtain⟨hl,y,hy,hk⟩:=a2c hk
    have ho:=hrel.own i
    rw[hi] at ho
    obtain⟨_,ad,cs,h1,h2,h3,h4⟩:=ho
    exact⟨y,[],Z,F,[],hk,hrel,fun b=>id,rfl,ad,cs,h1,h2,by rw[←c5c hl];exact h3,a0m (a5p hl hp hy h4) (fun b hb=>by simpa using hb) fun _ _=>rfl⟩
   ·rename_i t' x hi
    obtain⟨hl,y,hy,hk⟩:=a2c hk
    obtain⟨h1,h2⟩:=hrel.frzBox hi hl hy hp
    exact⟨y,_,_,_,[],hk,h1,fun b=>.inl,h2⟩
   ·simp at hk
  ·simp at hk
theorem b6k(hft:FtOK A P C):∀(l:List (Nat×LH)) {e:En} {Z:Nat→Prop} {F:Nat→List Nat} {X:List Nat} {k:d7t l→En→Option R} {res:R},Rel A P C B e a w Z F X→e0d C e l k=some res →
  ∃y e' Z1 F1 f,k y e'=some res∧Rel A P C B e' a w Z1 F1 (f++X)∧(∀b,Z b→Z1 b)∧f6h A P Z1 w.heap a l y f
 |[],e,Z,F,X,k,res,hrel,hk=>⟨(),e,Z,F,[],hk,hrel,fun b=>id,rfl⟩
 |[(i,hd)],e,Z,F,X,k,res,hrel,hk=>by
  unfold e0d at hk
  obtain⟨y,us,Z1,F1,f,hk,g1,g2,g3⟩:=c2w hft hrel hk
  exact⟨y,_,Z1,F1,f,hk,g1,g2,g3⟩
 |(i,hd)::h'::l,e,Z,F,X,k,res,hrel,hk=>by
  unfold e0d at hk
  obtain⟨y,us,Z1,F1,f,hk,g1,g2,g3⟩:=c2w hft hrel hk
  obtain⟨z,e',Z2,F2,f2,hk,k1,k2,k3⟩:=b6k hft (h'::l) g1 hk
  refine⟨(y,z),e',Z2,F2,f++f2,hk,k1.permX ?_,fun b hb=>k2 b (g2 b hb),f,f2,b6n g3 k2 fun _ _=>rfl,k3,rfl⟩
  rw[←List.append_assoc]
  exact List.Perm.append_right X List.perm_append_comm
theorem c7i{hd:LH}{x:hd.den}:(lhSV hd x).noRef:=by cases hd <;> trivial
theorem b9h:∀(l:List (Nat×LH)) {e:En} {F:Nat→List Nat} {X:List Nat} {x:d7t l} {f:List Nat},b7o e→Rel A P C B e a w Z F (f++X)→f6h A P Z w.heap a l x f→∃F',Rel A P C B (unpack l x e) a w Z F' X∧b7o (unpack l x e)
 |[],e,F,X,x,f,he,hrel,hx=>by
  obtain rfl:f=[]:=hx
  exact⟨F,hrel,he⟩
 |[(i,hd)],e,F,X,x,f,he,hrel,hx=>⟨_,hrel.consTop he hx c7i,a7i he c7i⟩
 |(i,hd)::h'::l,e,F,X,x,f,he,hrel,hx=>by
  obtain⟨f1,f2,h1,h2,rfl⟩:=hx
  obtain⟨F',h3,h4⟩:=b9h (h'::l) (X:=f1++X) he (hrel.permX (by
   rw[←List.append_assoc]
   exact List.Perm.append_right X List.perm_append_comm)) h2
  exact⟨_,h3.consTop h4 h1 c7i,a7i h4 c7i⟩
theorem c4q{e0:En}:∀(l:List Nat) {e:En} {F:Nat→List Nat},b7o e→Rel A P C B e a w Z F X→(∀i,i∈l→Own A P Z w.heap (c9j (e0.get i).s) (a.tm i) [])→∃F',Rel A P C B (e0u e0 l e) a w Z F' X∧b7o (e0u e0 l e)
 |[],e,F,he,hrel,_=>⟨F,hrel,he⟩
 |i::l,e,F,he,hrel,ho=>by
  obtain⟨F',h1,h2⟩:=c4q l he hrel fun j hj=>ho j (by simp[hj])
  exact⟨_,Rel.consTop (f:=[]) h2 h1 (ho i (by simp)) (c9k _),a7i h2 (c9k _)⟩
def frB(G:Nat→List Nat)(l:List Nat):List Nat:=(l.map G).flatten
theorem d0r{e0:En}{G:Nat→List Nat}:∀(l:List Nat) {e:En} {F:Nat→List Nat} {X:List Nat},b7o e→Rel A P C B e a w Z F (frB G l++X)→(∀i,i∈l→Own A P Z w.heap (ownK (e0.get i).s) (a.tm i) (G i))→∃F',Rel A P C B (e4t e0 l e) a w Z F' X∧b7o (e4t e0 l e)
 |[],e,F,X,he,hrel,_=>⟨F,hrel,he⟩
 |i::l,e,F,X,he,hrel,ho=>by
  obtain⟨F',h1,h2⟩:=d0r l (X:=G i++X) he (hrel.permX (by
   show((G i++frB G l)++X).Perm _
   rw[←List.append_assoc]
   exact List.Perm.append_right X List.perm_append_comm)) fun j hj=>ho j (by simp[hj])
  exact⟨_,h1.consTop h2 (ho i (by simp)) (c8m _),a7i h2 (c8m _)⟩
theorem c6h{e0:En}{G:Nat→List Nat}:∀(l:List Nat) {e:En} {F:Nat→List Nat},Rel A P C B e a w Z F (frB G l++X)→(∀i,i∈l→Own A P Z w.heap (ownK (e0.get i).s) (a.tm i) (G i))→∃F',Rel A P C B (e.app (d3k e0 l)) a w Z F' X
 |[],e,F,hrel,_=>⟨F,hrel⟩
 |i::l,e,F,hrel,ho=>by
  have h1:=Rel.bring (f:=G i) (X:=frB G l++X) (i:=i) (by rw[←List.append_assoc];exact hrel) (ho i (by simp)) (c8m _)
  exact c6h l h1 fun j hj=>ho j (by simp[hj])
theorem d3j:∀(l:List Nat) {e:En} {F:Nat→List Nat} {X:List Nat},Rel A P C B e a w Z F X→∃F' X',Rel A P C B (e.app (g4i l)) a w Z F' X'∧(∀i b,b∈F' i→i∉l∧b∈F i)
 |[],e,F,X,hrel=>⟨F,X,hrel,fun i b hb=>⟨by simp,hb⟩⟩
 |i::l,e,F,X,hrel=>by
  obtain⟨F',X',h1,h2⟩:=d3j l (hrel.drop i)
  refine⟨F',X',h1,fun j b hb=>?_⟩
  obtain⟨h3,h4⟩:=h2 j b hb
  unfold setF at h4
  split at h4
  ·simp at h4
  ·rename_i hne
   exact⟨by simp[hne,h3],h4⟩
end Go.Rb

namespace Go.Rb
variable {A:Amb} {P:Program} {Z Z':Nat→Prop} {h h':Array Obj} {R:Type} {C C':Ctx} {B:Base} {e e':En} {a a':Act} {w w':World} {F F0:Nat→List Nat} {X X0:List Nat} {r:Nat→Ent} {o:Oper}
theorem Rel.dropX(hrel:Rel A P C B e a w Z F X):Rel A P C B e a w Z F [] :=
 { hrel with xnodup:=List.nodup_nil,xdisj:=fun _ _ _=>by simp,xnotZ:=by simp,xb:=by simp,xnew:=by simp }
theorem e1b{G:Nat→List Nat}(hrel:Rel A P C B e a w Z F X)(hs:∀i,G i ⊆ F i)(hn:∀i,(G i).Nodup):∀{l:List Nat},d0w l=true→(frB G l).Nodup
 |[],_=>List.nodup_nil
 |i::l,hl=>by
  simp only[d0w,Bool.and_eq_true,Bool.not_eq_true',List.contains_eq_mem,decide_eq_false_iff_not] at hl
  refine List.nodup_append.2 ⟨hn i,e1b hrel hs hn hl.2,fun b hb b' hb' hbb=>?_⟩
  subst hbb
  obtain⟨j,h1,h2⟩:=a3n.1 hb'
  exact hl.1 (hrel.disj i j b (hs i hb) (hs j h2) ▸ h1)
theorem c8y{e0:En}(hout:Rel A P C B e0 a w Z F X){keep fr:List Nat}(hfr:d0w fr=true){fp0:Nat→Prop}(hfp:∀b,fp0 b→b∈X∨∃i,i∉fr∧b∈F i){F':Nat→List Nat}{X':List Nat}
  (hin:Rel A P C ⟨Z,w,fp0,b5w B a (keep++fr)⟩ e' a' w' Z' F' X') :
  ∃G,Rel A P C B e' a' w' Z' F' (X'++frB G fr)∧(∀i,i∈fr→Own A P Z' w'.heap (ownK (e0.get i).s) (a'.tm i) (G i))∧∀i,i∈keep→Own A P Z' w'.heap (c9j (e0.get i).s) (a'.tm i) []:=by
 have hch:∀i,∃fp',fp' ⊆ F i∧fp'.Nodup∧Own A P Z w.heap (ownK (e0.get i).s) (a.tm i) fp':=fun i=>by
  obtain⟨fp',h1,h2,h3⟩:=g2y (hout.own i)
  exact⟨fp',h1,h2 (hout.nodup i),h3⟩
 have hG:∃G:Nat→List Nat,∀i,G i ⊆ F i∧(G i).Nodup∧Own A P Z w.heap (ownK (e0.get i).s) (a.tm i) (G i):=⟨fun i=>Classical.choose (hch i),fun i=>Classical.choose_spec (hch i)⟩
 obtain⟨G,hG⟩:=hG
 have hY:∀b,b∈frB G fr→∃i,i∈fr∧b∈F i:=fun b hb=>by
  obtain⟨i,h1,h2⟩:=a3n.1 hb
  exact⟨i,h1,(hG i).1 h2⟩
 obtain⟨h1,h2⟩:=hout.back hfp hin hY (e1b hout (fun i=>(hG i).1) (fun i=>(hG i).2.1) hfr)
 have htm:∀i,i∈keep++fr→a'.tm i=a.tm i:=fun i hi=>hin.fix i _ (by show b5w B a (keep++fr) i=_;unfold b5w;rw[if_pos hi])
 have hZh:∀b,Z b→w'.heap[b]?=w.heap[b]?:=fun b hb=>hin.keep b (hout.zb b hb) fun hf=>by
  rcases hfp b hf with h|⟨i,_,h⟩
  ·exact hout.xnotZ b h hb
  ·exact hout.notZ i b h hb
 refine⟨G,h1,fun i hi=>?_,fun i hi=>?_⟩
 ·rw[htm i (List.mem_append_right _ hi)]
  exact b6n (hG i).2.2 hin.z fun b hb=>hb.elim (hZh b) fun hb=>h2 b (a3n.2 ⟨i,hi,hb⟩)
 ·rw[htm i (List.mem_append_left _ hi)]
  exact b6n (f5f (hout.own i)) hin.z fun b hb=>hb.elim (hZh b) (by simp)
structure KOK (A:Amb) (P:Program) (C:Ctx) (B:Base) (ks:Ks R) (Q:Exit→Act→World→Prop) (res:R):Prop where
 norm:∀e a w Z F,ks.norm e=some res→Rel A P C B e a w Z F []→Q .normal a w
 ret:∀e a w Z F,ks.ret e=some res→Rel A P C B e a w Z F []→Q .ret a w
 exits:∀id k,b1z ks.exits id=some k→∀e a w Z F,k e=some res→Rel A P C B e a w Z F []→Q (.exit id) a w
theorem c5p{fr:List Up}:∀{l:List (Nat×(En→Option R))} {id:Nat} {k:En→Option R},b1z (l.map fun x=>(x.1,fun e=>x.2 (e.app fr))) id=some k→∃k0,b1z l id=some k0∧k=fun e=>k0 (e.app fr)
 |[],id,k,hk=>by simp[b1z] at hk
 |(j,k0)::l,id,k,hk=>by
  simp only[List.map_cons,b1z] at hk ⊢
  cases hb:Nat.beq j id with
  |true =>
   rw[hb] at hk
   exact⟨k0,rfl,(Option.some.inj hk).symm⟩
  |false =>
   rw[hb] at hk
   exact c5p hk
theorem d0m(hfix:c5o C B){l:List Nat}{Z:Nat→Prop}{w:World}{fp0:Nat→Prop}:c5o (C.guardS l) ⟨Z,w,fp0,b5w B a l⟩:=by
 intro i v hv
 show i∈l++C.prot
 have hv':b5w B a l i=some v:=hv
 unfold b5w at hv'
 split at hv'
 ·exact List.mem_append_left _ ‹_›
 ·exact List.mem_append_right _ (hfix i v hv')
theorem d3f{e0:En}(hout:Rel A P C B e0 a w Z F X){keep fr:List Nat}(hfr:d0w fr=true){fp0:Nat→Prop}(hfp:∀b,fp0 b→b∈X∨∃i,i∉fr∧b∈F i){ks:Ks R}{Q Q':Exit→Act→World→Prop}{res:R}
  (hk:KOK A P C B ks Q res) (hret:Q' .ret=Q .ret) (hex:∀id,Q' (.exit id)=Q (.exit id)) {norm:En→Option R}
  (hn:∀e1 a1 w1 Z1 F1,norm e1=some res→Rel A P C ⟨Z,w,fp0,b5w B a (keep++fr)⟩ e1 a1 w1 Z1 F1 []→Q' .normal a1 w1) :
  KOK A P (C.guardS (keep++fr)) ⟨Z,w,fp0,b5w B a (keep++fr)⟩ (ks.framed (d3k e0 fr) norm) Q' res:=by
 have hleave:∀{k0:En→Option R} {e1:En} {a1:Act} {w1:World} {Z1:Nat→Prop} {F1:Nat→List Nat} {Q1:Act→World→Prop},(∀e a w Z F,k0 e=some res→Rel A P C B e a w Z F []→Q1 a w)→k0 (e1.app (d3k e0 fr))=some res →
   Rel A P (C.guardS (keep++fr)) ⟨Z,w,fp0,b5w B a (keep++fr)⟩ e1 a1 w1 Z1 F1 []→Q1 a1 w1:=by
  intro k0 e1 a1 w1 Z1 F1 Q1 hq hk0 hr
  obtain⟨G,h1,h2,_⟩:=c8y hout hfr hfp (hr.ctx (C':=C) rfl rfl)
  obtain⟨F2,h3⟩:=c6h fr (X:=[]) (by simpa using h1) h2
  exact hq _ _ _ _ _ hk0 h3
 refine⟨fun e1 a1 w1 Z1 F1 h1 h2=>hn e1 a1 w1 Z1 F1 h1 (h2.ctx rfl rfl),fun e1 a1 w1 Z1 F1 h1 h2=>?_,fun id k hf e1 a1 w1 Z1 F1 h1 h2=>?_⟩
 ·rw[hret]
  exact hleave hk.ret h1 h2
 ·obtain⟨k0,g1,rfl⟩:=c5p hf
  rw[hex]
  exact hleave (hk.exits id k0 g1) h1 h2
theorem c4e:b7o []:=fun _=>trivial
theorem e9t(hmix:P.follows .mixedOrders=true){H:Hints}{n:Nat}:∀(c:Code) {C:Ctx} {B:Base} {e:En} {a:Act} {w:World} {Z:Nat→Prop} {F:Nat→List Nat} {ks:Ks R} {Q:Exit→Act→World→Prop} {res:R},
  a3h P C→FtOK A P C→c5o C B→Rel A P C B e a w Z F []→KOK A P C B ks Q res→exec C H n c e ks=some res→c.wp P Q a w:=by
 intro c
 induction c with
 |skip=>intro C B e a w Z F ks Q res htab hft hfix hrel hks hk;exact wp_skip (hks.norm e a w Z F hk hrel)
 |ret=>intro C B e a w Z F ks Q res htab hft hfix hrel hks hk;exact wp_ret (hks.ret e a w Z F hk hrel)
 |region id ops draw =>
  intro C B e a w Z F ks Q res htab hft hfix hrel hks hk
  unfold exec at hk
  cases draw with
  |true=>exact e9u hmix htab hft hfix hrel hk fun e a w Z F h1 h2=>hks.norm e a w Z F h1 h2
  |false =>
   refine wp_region ?_
   have:=c6m htab hft hfix (ops:=ops) (Q:=Q) (fun e a w Z F h1 h2=>hks.norm e a w Z F h1 h2) ops.toList 0 e a w Z F rfl hrel hk
   rw[List.range_eq_range']
   simpa using this
 |seq x y ihx ihy =>
  intro C B e a w Z F ks Q res htab hft hfix hrel hks hk
  unfold exec at hk
  refine wp_seq ?_
  split at hk
  ·exact ihx (ks:={ ks with norm:=fun e'=>exec C H n y e' ks }) (Q:=Exit.then (y.wp P Q) Q) htab hft hfix hrel ⟨fun e1 a1 w1 Z1 F1 h1 h2=>ihy htab hft hfix h2 hks h1,hks.ret,hks.exits⟩ hk
  ·rename_i hh _
   split at hk
   ·rename_i hfr
    obtain⟨e1,Z1,F1,hk,h1⟩:=a3y hfix hh.keep hrel hk
    unfold b3q at hk
    obtain⟨F2,X2,h2,h3⟩:=d3j hh.frame h1
    have h4:=(h2.dropX.start (l:=hh.keep++hh.frame) (fp0:=fun b=>∃i,b∈F2 i) (fun i b hb=>⟨i,hb⟩) (by simp)).ctx (C':=C.guardS (hh.keep++hh.frame)) rfl rfl
    have hfp:∀b,(∃i,b∈F2 i)→b∈([]:List Nat)∨∃i,i∉hh.frame∧b∈F1 i:=fun b ⟨i,hb⟩=>.inr ⟨i,h3 i b hb⟩
    refine ihx (C:=C.guardS (hh.keep++hh.frame)) (d4g (C:=C) rfl htab) (e3f (C:=C) rfl rfl hft) (d0m hfix) h4 (d3f (keep:=hh.keep) (Q':=Exit.then (y.wp P Q) Q) h1 hfr hfp hks rfl (fun _=>rfl) (fun e3 a3 w3 Z3 F3 g1 g2=>?_)) hk
    obtain⟨y1,e4,Z4,F4,f4,g3,g4,g5,g6⟩:=b6k hft hh.h g2 g1
    obtain⟨G,q1,q2,q3⟩:=c8y h1 hfr hfp g4
    have q4:=q1.permX (X':=frB G hh.frame++f4) (by
     rw[List.append_nil]
     exact List.perm_append_comm)
    obtain⟨F5,q5,q6⟩:=d0r hh.frame c4e q4.forget q2
    obtain⟨F6,q7,q8⟩:=c4q hh.keep q6 q5 q3
    obtain⟨F7,q9,_⟩:=b9h hh.h (X:=[]) (x:=y1) (f:=f4) q8 (by rw[List.append_nil];exact q7) g6
    exact ihy htab hft hfix q9 hks g3
   ·simp at hk
 |cond c x y ihx ihy =>
  intro C B e a w Z F ks Q res htab hft hfix hrel hks hk
  unfold exec at hk
  obtain⟨t,v,org,hk,hv⟩:=a1a hrel Sub.refl hk
  split at hk
  ·rename_i b
   obtain⟨cs,fp,h1,h2⟩:=a5q hrel hv
   obtain⟨_,rfl⟩:=h2
   have hb:a.eval c=.bool b:=a1d rfl h1
   refine wp_cond_split hb (fun ht=>?_) fun hf=>?_
   ·rw[if_pos ht] at hk
    obtain⟨F',h3⟩:=c3r hrel (b:=true) (by rw[←ht];exact hb)
    exact ihx htab hft hfix h3 hks hk
   ·rw[if_neg (by rw[hf];simp)] at hk
    obtain⟨F',h3⟩:=c3r hrel (b:=false) (by rw[←hf];exact hb)
    exact ihy htab hft hfix h3 hks hk
  ·simp at hk
 |block id c ih =>
  intro C B e a w Z F ks Q res htab hft hfix hrel hks hk
  unfold exec at hk
  refine wp_block (ih (ks:={ ks with exits:=(id,ks.norm)::ks.exits,cur:=id }) (Q:=Exit.inBlock id Q) htab hft hfix hrel ⟨hks.norm,hks.ret,fun id' k hf e1 a1 w1 Z1 F1 h1 h2=>?_⟩ hk)
  simp only[b1z] at hf
  cases hb:Nat.beq id id' with
  |true =>
   rw[hb] at hf
   obtain rfl:=Option.some.inj hf
   have:=a1s hb
   subst this
   show(if id=id then Q .normal a1 w1 else _)
   rw[if_pos rfl]
   exact hks.norm _ _ _ _ _ h1 h2
  |false =>
   rw[hb] at hf
   show(if id'=id then _ else Q (.exit id') a1 w1)
   rw[if_neg (Ne.symm (b1d hb))]
   exact hks.exits id' k hf _ _ _ _ _ h1 h2
 |exit id =>
  intro C B e a w Z F ks Q res htab hft hfix hrel hks hk
  unfold exec at hk
  split at hk
  ·rename_i k hf
   exact wp_exit (hks.exits id k hf e a w Z F hk hrel)
  ·simp at hk
 |loop c ih =>
  intro C B e a w Z F ks Q res htab hft hfix hrel hks hk
  unfold exec at hk
  split at hk
  ·rename_i m0 _
   have rounds:∀(m:Nat) (e:En) (a:Act) (w:World) (Z:Nat→Prop) (F:Nat→List Nat),a0x (fun rec e'=>exec C H n c e' { ks with norm:=rec }) m e=some res→Rel A P C B e a w Z F []→Code.rounds P c Q m a w:=by
    intro m
    induction m with
    |zero=>intro e a w Z F hi;simp[a0x] at hi
    |succ m ihm =>
     intro e a w Z F hi hr
     simp only[a0x] at hi
     rw[rounds_succ]
     exact ih (ks:={ ks with norm:=a0x (fun rec e'=>exec C H n c e' { ks with norm:=rec }) m }) (Q:=Exit.then (Code.rounds P c Q m) Q) htab hft hfix hr ⟨fun e1 a1 w1 Z1 F1 h1 h2=>ihm e1 a1 w1 Z1 F1 h1 h2,hks.ret,hks.exits⟩ hi
   exact wp_loop_rounds m0 (rounds m0 e a w Z F hk hrel)
  split at hk
  ·rename_i hh _
   split at hk
   ·rename_i hfr
    obtain⟨e1,Z1,F1,hk,h1⟩:=a3y hfix hh.keep hrel hk
    obtain⟨x0,e2,Z2,F2,f2,hk,h2,_,h3⟩:=b6k hft hh.h h1 hk
    rw[List.append_nil] at h2
    have hfp:∀b,b∈f2→b∈f2∨∃i,i∉hh.frame∧b∈F2 i:=fun b hb=>.inl hb
    have h4:Rel A P C ⟨Z2,w,fun b=>b∈f2,b5w B a (hh.keep++hh.frame)⟩ [] a w Z2 (fun _=>[]) f2:=h2.forget.start (fun i b hb=>by simp at hb) fun b=>id
    have head:∀{x:d7t hh.h} {e3:En} {a3:Act} {w3:World} {Z3:Nat→Prop} {F3:Nat→List Nat} {f3:List Nat},Rel A P C ⟨Z2,w,fun b=>b∈f2,b5w B a (hh.keep++hh.frame)⟩ e3 a3 w3 Z3 F3 f3→f6h A P Z3 w3.heap a3 hh.h x f3 →
      ∃F4,Rel A P (C.guardS (hh.keep++hh.frame)) ⟨Z2,w,fun b=>b∈f2,b5w B a (hh.keep++hh.frame)⟩ (unpack hh.h x (e0u e2 hh.keep [])) a3 w3 Z3 F4 []:=by
     intro x e3 a3 w3 Z3 F3 f3 g1 g2
     obtain⟨G,_,_,q3⟩:=c8y h2 hfr hfp g1
     obtain⟨F6,q7,q8⟩:=c4q hh.keep c4e g1.forget q3
     obtain⟨F7,q9,_⟩:=b9h hh.h (X:=[]) (x:=x) (f:=f3) q8 (by rw[List.append_nil];exact q7) g2
     exact⟨F7,q9.ctx rfl rfl⟩
    have rounds:∀(m:Nat) (x:d7t hh.h) (a3:Act) (w3:World) (Z3:Nat→Prop) (F3:Nat→List Nat),
      a0x (fun rec x=>exec (C.guardS (hh.keep++hh.frame)) H n c (unpack hh.h x (e0u e2 hh.keep [])) (ks.framed (d3k e2 hh.frame) fun e'=>e0d C e' hh.h fun y _=>rec y)) m x=some res →
      Rel A P (C.guardS (hh.keep++hh.frame)) ⟨Z2,w,fun b=>b∈f2,b5w B a (hh.keep++hh.frame)⟩ (unpack hh.h x (e0u e2 hh.keep [])) a3 w3 Z3 F3 []→Code.rounds P c Q m a3 w3:=by
     intro m
     induction m with
     |zero=>intro x a3 w3 Z3 F3 hi;simp[a0x] at hi
     |succ m ihm =>
      intro x a3 w3 Z3 F3 hi hr
      simp only[a0x] at hi
      rw[rounds_succ]
      refine ih (C:=C.guardS (hh.keep++hh.frame)) (d4g (C:=C) rfl htab) (e3f (C:=C) rfl rfl hft) (d0m hfix) hr (d3f (keep:=hh.keep) (Q':=Exit.then (Code.rounds P c Q m) Q) h2 hfr hfp hks rfl (fun _=>rfl) (fun e4 a4 w4 Z4 F4 g1 g2=>?_)) hi
      obtain⟨y1,e5,Z5,F5,f5,g3,g4,g5,g6⟩:=b6k hft hh.h g2 g1
      rw[List.append_nil] at g4
      obtain⟨F6,q1⟩:=head g4 g6
      exact ihm y1 a4 w4 Z5 F6 g3 q1
    obtain⟨F4,h5⟩:=head h4 h3
    exact wp_loop_rounds n (rounds n x0 a w Z2 F4 hk h5)
   ·simp at hk
  ·simp at hk
 |_=>intros;rename_i hk;simp[exec] at hk
end Go.Rb

namespace Go.Rb
variable {A:Amb} {P:Program} {Z Z':Nat→Prop} {h h':Array Obj} {R:Type} {C C':Ctx} {B:Base} {e e':En} {a a':Act} {w w':World} {F F0:Nat→List Nat} {X X0:List Nat} {r:Nat→Ent} {o:Oper}
def d0q(tmps:Array Value)(r:ResultVar):Sem Value :=
 match r with
 |.tmp t=>pure (tmps.getD t undef)
 |.cell a t=>do loadVar t (←asAddr (tmps.getD a undef))
def e7d(P:Program)(w:World)(tmps:Array Value):List ResultVar→List Value→Prop
 |[],vs=>vs=[]
 |r::rs,vs=>∃v vs',vs=v::vs'∧(d0q tmps r).run P w=.ok v w∧e7d P w tmps rs vs'
theorem f4i{tmps:Array Value}:∀{l:List ResultVar} {vs:List Value},e7d P w tmps l vs→(l.mapM (d0q tmps)).run P w=.ok vs w
 |[],vs,h=>by
  obtain rfl:vs=[]:=h
  rfl
 |r::l,vs,h=>by
  obtain⟨v,vs',rfl,h1,h2⟩:=h
  rw[List.mapM_cons]
  simp only[Sem.run_bind,h1,Result.andThen_ok,f4i h2]
  rfl
theorem c1e{fn:Func}{tmps:Array Value}{vs:List Value}(h:e7d P w tmps fn.results.toList vs):(results fn tmps).run P w=.ok (if hv:vs.toArray.size=1 then vs.toArray[0] else .tuple vs.toArray) w:=by
 have h1:(fn.results.mapM (d0q tmps)).run P w=.ok vs.toArray w:=by
  have:fn.results=fn.results.toList.toArray:=rfl
  rw[this,List.mapM_toArray]
  simp only[map_eq_pure_bind,Sem.run_bind,f4i h,Result.andThen_ok]
  rfl
 have h2:results fn tmps=(do let vs ←fn.results.mapM (d0q tmps);pure (if h:vs.size=1 then vs[0] else .tuple vs)):=by
  unfold results d0q
  rfl
 rw[h2]
 simp only[Sem.run_bind,h1,Result.andThen_ok]
 rfl
theorem c0j(htab:a3h P C)(hft:FtOK A P C):∀(rs:List RS) (vars:List ResultVar) {e:En} {Z:Nat→Prop} {F:Nat→List Nat} {X:List Nat} {k:b3o rs→En→Option R} {res:R},
  Rel A P C B e a w Z F X→rsOf C rs vars e k=some res →
  ∃y e' Z1 F1 f vs,k y e'=some res∧Rel A P C B e' a w Z1 F1 (f++X)∧(∀b,Z b→Z1 b)∧c6w A P Z1 w.heap rs vs y f∧e7d P w a.tmps vars vs
 |[],[],e,Z,F,X,k,res,hrel,hk=>⟨(),e,Z,F,[],[],hk,hrel,fun b=>id,⟨rfl,rfl⟩,rfl⟩
 |.val t::rs,.tmp i::vars,e,Z,F,X,k,res,hrel,hk=>by
  unfold rsOf at hk
  obtain⟨y,us,hk,⟨⟨Z1,F1,fs,cs,g1,g2,g3,g4⟩,_⟩⟩:=a8r hft hrel Sub.refl hk
  obtain⟨z,e',Z2,F2,f2,vs,hk,k1,k2,k3,k4⟩:=c0j htab hft rs vars g1 hk
  refine⟨(y,z),e',Z2,F2,fs++f2,a.tm i::vs,hk,k1.permX ?_,fun b hb=>k2 b (g2 b hb),⟨_,_,fs,f2,rfl,⟨cs,g3,a0m g4 k2 fun _ _=>rfl⟩,k3,rfl⟩,⟨_,_,rfl,rfl,k4⟩⟩
  rw[←List.append_assoc]
  exact List.Perm.append_right X List.perm_append_comm
 |.val t::rs,.cell i tt::vars,e,Z,F,X,k,res,hrel,hk=>by
  unfold rsOf at hk
  split at hk
  ·rename_i t' x hi
   split at hk
   ·rename_i hlay
    obtain⟨hl,y,hy,hk⟩:=a2c hk
    have ho:=hrel.own i
    rw[hi] at ho
    obtain⟨b,c,fp',h1,h2,h3,h4⟩:=ho
    obtain⟨f1,fz,q1,q2⟩:=b6y hl hy h4
    obtain⟨t1,ht1,him,hag⟩:=b3t hlay
    obtain⟨v,hv⟩:=c2n h4 hag
    have hrow:Row w.heap ⟨b,0,none⟩ t1.size c.toList:=by
     have hsz:t1.size=c.size:=by rw[a3w him,←a1q h4];simp
     have:=h2.row (n:=t1.size) (by omega)
     rwa [List.take_of_length_le (by simp;omega)] at this
    have hrun:(d0q a.tmps (.cell i tt)).run P w=.ok v w:=by
     have hld:=a4r (htab _ _ ht1) (w:=w) hrow (a8o him.symm hv)
     have htm:a.tmps.getD i undef=.pointer (some ⟨b,0,none⟩):=h1
     simp[d0q,htm,asAddr,hld]
    have hX:(F i++X).Perm ((f1++X)++(b::fz)):=by
     rw[h3]
     have h5:(fp'++X).Perm ((f1++X)++fz):=by
      refine(List.Perm.append_right X q1).trans ?_
      rw[List.append_assoc,List.append_assoc]
      exact List.Perm.append_left f1 List.perm_append_comm
     exact(List.Perm.cons b h5).trans List.perm_middle.symm
    have g1:=(hrel.drop i).frzX hX
    obtain⟨z,e',Z2,F2,f2,vs,hk,k1,k2,k3,k4⟩:=c0j htab hft rs vars g1 hk
    refine⟨(y,z),e',Z2,F2,f1++f2,v::vs,hk,k1.permX ?_,fun b hb=>k2 b (.inl hb),⟨_,_,f1,f2,rfl,⟨c.toList,a8o (c0w hl) hv,q2 Z2 (fun b hb=>k2 b (.inl hb)) fun b hb=>k2 b (.inr (List.mem_cons_of_mem _ hb))⟩,k3,rfl⟩,⟨_,_,rfl,hrun,k4⟩⟩
    rw[←List.append_assoc]
    exact List.Perm.append_right X List.perm_append_comm
   ·simp at hk
  ·simp at hk
 |.box t::rs,.tmp i::vars,e,Z,F,X,k,res,hrel,hk=>by
  unfold rsOf at hk
  rcases a9i hrel Sub.refl hk with⟨t',x,hk,_⟩|⟨p,v,c,t',x,hk,hl⟩
  ·simp at hk
  ·split at hk
   ·rename_i tb xb hw hrb
    obtain⟨t0',x0',cs,base,fp',cs0,ad,fs,fr,m1,m2,m3,m4,m5,m6,m7,m8,m9⟩:=b4g hrel hl
    have hix:p.ix=none∧p.p1=[]:=by
     unfold Pl.whole at hw
     split at hw
     ·exact⟨‹_›,‹_›⟩
     ·simp at hw
    rw[hrb] at m1 m2
    cases m1
    obtain⟨b,cc,n1,n2,rfl,rfl⟩:=m2
    have hgx:(⟨t',x⟩:Dyn)=⟨tb,xb⟩:=by
     have:=m6 fun t x=>some (⟨t,x⟩:Dyn)
     unfold a3k at this
     rw[hix.2] at this
     simp only[b1w,hix.1] at this
     exact(Option.some.inj this).symm
    cases hgx
    have had:a.tm i=a.tm p.root:=by
     have m9':a.tm i=.pointer (some ad):=m9
     rw[m9',n1]
     unfold Loc at m5
     rw[hix.1] at m5
     obtain⟨o1,u1,u2,u3⟩:=m5
     rw[hix.2] at u1
     simp only[a1u,Option.some.injEq,Prod.mk.injEq] at u1
     rw[←u1.1] at u3
     simpa using u3
    have hF:F p.root=b::fp':=by
     rcases m4 with⟨h,_⟩|⟨b',h,h2⟩
     ·simp at h
     ·obtain rfl:=Option.some.inj h;exact h2
    obtain⟨hle,y,hy,hk⟩:=a2c hk
    obtain⟨f1,fz,q1,q2⟩:=b6y hle hy m3
    have hX:(F p.root++X).Perm ((b::f1++X)++fz):=by
     rw[hF]
     refine List.Perm.cons b ?_
     show(fp'++X).Perm ((f1++X)++fz)
     refine(List.Perm.append_right X q1).trans ?_
     rw[List.append_assoc,List.append_assoc]
     exact List.Perm.append_left f1 List.perm_append_comm
    have g1:=(hrel.drop p.root).frzX hX
    obtain⟨z,e',Z2,F2,f2,vs,hk,k1,k2,k3,k4⟩:=c0j htab hft rs vars g1 hk
    refine⟨(y,z),e',Z2,F2,(b::f1)++f2,a.tm i::vs,hk,k1.permX ?_,fun b hb=>k2 b (.inl hb),⟨_,_,b::f1,f2,rfl,⟨b,cc,f1,by rw[had];exact n1,n2,q2 Z2 (fun b hb=>k2 b (.inl hb)) fun b hb=>k2 b (.inr hb),rfl⟩,k3,rfl⟩,⟨_,_,rfl,rfl,k4⟩⟩
    rw[←List.append_assoc]
    exact List.Perm.append_right X List.perm_append_comm
   ·simp at hk
 |[],_::_,e,Z,F,X,k,res,hrel,hk=>by simp[rsOf] at hk
 |.val _::_,[],e,Z,F,X,k,res,hrel,hk=>by simp[rsOf] at hk
 |.box _::_,[],e,Z,F,X,k,res,hrel,hk=>by simp[rsOf] at hk
 |.box _::_,.cell _ _::_,e,Z,F,X,k,res,hrel,hk=>by simp[rsOf] at hk
def b6x(a:Act):Nat→List PS→List Value→Prop
 |_,[],_=>True
 |i,.val _::ps,vs=>b6x a (i+1) ps vs.tail
 |i,.io _::ps,vs=>vs.head?=some (a.tm i)∧b6x a (i+1) ps vs.tail
 |i,.sio _::ps,vs=>vs.head?=some (a.tm i)∧b6x a (i+1) ps vs.tail
theorem b6x.same:∀{ps:List PS} {i:Nat} {vs:List Value},(∀j,j∈b7b i ps→a'.tm j=a.tm j)→b6x a i ps vs→b6x a' i ps vs
 |[],_,_,_,_=>trivial
 |.val _::ps,i,vs,hs,hh=>b6x.same (ps:=ps) hs hh
 |.io _::ps,i,vs,hs,hh=>⟨by rw[hs i (by simp[b7b])];exact hh.1,b6x.same (ps:=ps) (fun j hj=>hs j (by simp[b7b,hj])) hh.2⟩
 |.sio _::ps,i,vs,hs,hh=>⟨by rw[hs i (by simp[b7b])];exact hh.1,b6x.same (ps:=ps) (fun j hj=>hs j (by simp[b7b,hj])) hh.2⟩
theorem b5v:∀(ps:List PS) {i:Nat} {vs:List Value} {e:En} {Z:Nat→Prop} {F:Nat→List Nat} {X:List Nat} {k:b0c ps→Option R} {res:R},
  Rel A P C B e a w Z F X→b6x a i ps vs→d7s e i ps k=some res→∃y e' Z1 F1 f,k y=some res∧Rel A P C B e' a w Z1 F1 (f++X)∧(∀b,Z b→Z1 b)∧b1e A P Z1 w.heap ps vs y f
 |[],i,vs,e,Z,F,X,k,res,hrel,hh,hk=>⟨(),e,Z,F,[],hk,hrel,fun b=>id,rfl⟩
 |.val _::ps,i,vs,e,Z,F,X,k,res,hrel,hh,hk=>b5v ps (i:=i+1) hrel hh hk
 |.io t::ps,i,vs,e,Z,F,X,k,res,hrel,hh,hk=>by
  unfold d7s at hk
  split at hk
  ·rename_i t' x hi
   obtain⟨hl,y,hy,hk⟩:=a2c hk
   have ho:=hrel.own i
   rw[hi] at ho
   obtain⟨b,c,fp',h1,h2,h3,h4⟩:=ho
   obtain⟨f1,fz,q1,q2⟩:=b6y hl hy h4
   have hX:(F i++X).Perm ((b::f1++X)++fz):=by
    rw[h3]
    refine List.Perm.cons b ?_
    show(fp'++X).Perm ((f1++X)++fz)
    refine(List.Perm.append_right X q1).trans ?_
    rw[List.append_assoc,List.append_assoc]
    exact List.Perm.append_left f1 List.perm_append_comm
   obtain⟨z,e',Z2,F2,f2,hk,k1,k2,k3⟩:=b5v ps ((hrel.drop i).frzX hX) hh.2 hk
   refine⟨(y,z),e',Z2,F2,(b::f1)++f2,hk,k1.permX ?_,fun b hb=>k2 b (.inl hb),b,c,f1,f2,by rw[hh.1,h1],h2,q2 Z2 (fun b hb=>k2 b (.inl hb)) fun b hb=>k2 b (.inr hb),k3,rfl⟩
   rw[←List.append_assoc]
   exact List.Perm.append_right X List.perm_append_comm
  ·simp at hk
 |.sio t::ps,i,vs,e,Z,F,X,k,res,hrel,hh,hk=>by
  unfold d7s at hk
  split at hk
  ·rename_i t' x hi
   obtain⟨hl,y,hy,hk⟩:=a2c hk
   have ho:=hrel.own i
   rw[hi] at ho
   obtain⟨cs,h1,h4⟩:=ho
   obtain⟨f1,fz,q1,q2⟩:=b6y hl hy h4
   have hX:(F i++X).Perm ((f1++X)++fz):=by
    refine(List.Perm.append_right X q1).trans ?_
    rw[List.append_assoc,List.append_assoc]
    exact List.Perm.append_left f1 List.perm_append_comm
   obtain⟨z,e',Z2,F2,f2,hk,k1,k2,k3⟩:=b5v ps ((hrel.drop i).frzX hX) hh.2 hk
   refine⟨(y,z),e',Z2,F2,f1++f2,hk,k1.permX ?_,fun b hb=>k2 b (.inl hb),a.tm i,cs,f1,f2,hh.1,a8o (c0w hl) h1,q2 Z2 (fun b hb=>k2 b (.inl hb)) fun b hb=>k2 b (.inr hb),k3,rfl⟩
   rw[←List.append_assoc]
   exact List.Perm.append_right X List.perm_append_comm
  ·simp at hk
theorem b5b:∀{ps:List PS} {vs:List Value} {x:a2q ps} {fp:List Nat},a6k A P Z h ps vs x fp→∀b,b∈fp→b<h.size
 |[],_,_,_,hr=>by obtain⟨_,rfl⟩:=hr;simp
 |.val t::ps,_,_,_,hr=>by
  obtain⟨v,vs',cs,f1,f2,_,_,h3,h4,rfl⟩:=hr
  intro b hb
  rcases List.mem_append.1 hb with h|h
  ·exact b6v h3 b h
  ·exact b5b h4 b h
 |.io t::ps,_,_,_,hr=>by
  obtain⟨v,vs',b0,c,f1,f2,_,_,h2,h3,h4,rfl⟩:=hr
  intro b hb
  rcases List.mem_append.1 hb with h|h
  ·rcases List.mem_cons.1 h with rfl|h
   ·exact h2.lt
   ·exact b6v h3 b h
  ·exact b5b h4 b h
 |.sio t::ps,_,_,_,hr=>by
  obtain⟨v,vs',cs,f1,f2,_,_,h3,h4,rfl⟩:=hr
  intro b hb
  rcases List.mem_append.1 hb with h|h
  ·exact b6v h3 b h
  ·exact b5b h4 b h
theorem e2e{t:Ty}{x:t.den}{v:Value}{cs:List Value}{fp:List Nat}(hv:VC t v cs)(hr:Rep A P t Z h cs x fp):Own A P Z h (e4o t x) v fp∧(e4o t x).noRef:=by
 cases t with
 |ptr t =>
  obtain⟨rfl,ad,cells,rfl,h1,h2,h3⟩:=hr
  exact⟨⟨rfl,ad,cells,a1d rfl hv,h1,h2,h3⟩,trivial⟩
 |_=>exact⟨⟨cs,hv,hr⟩,trivial⟩
theorem b9o:∀(ps:List PS) {i:Nat} {vs:List Value} {x:a2q ps} {fp X:List Nat},a6k A P Z w.heap ps vs x fp→(∀j v,vs[j]?=some v→a.tm (i+j)=v)→Rel A P C B [] a w Z (fun _=>[]) (fp++X) →
  ∃F,Rel A P C B (d2k i ps x) a w Z F X∧b7o (d2k i ps x)∧b6x a i ps vs
 |[],i,vs,x,fp,X,hr,hv,hrel=>by
  obtain⟨_,rfl⟩:=hr
  exact⟨_,hrel,c4e,trivial⟩
 |.val t::ps,i,vs,x,fp,X,hr,hv,hrel=>by
  obtain⟨v,vs',cs,f1,f2,rfl,h2,h3,h4,rfl⟩:=hr
  obtain⟨F,g1,g2,g3⟩:=b9o ps (i:=i+1) (X:=f1++X) h4 (fun j u hj=>by have:=hv (j+1) u (by simpa using hj);rwa [show i+(j+1)=i+1+j by omega] at this) (hrel.permX (by
   rw[←List.append_assoc]
   exact List.Perm.append_right X List.perm_append_comm))
  have htm:a.tm i=v:=hv 0 v rfl
  obtain⟨h5,h6⟩:=e2e h2 h3
  exact⟨_,g1.consTop g2 (by rw[htm];exact h5) h6,a7i g2 h6,g3⟩
 |.io t::ps,i,vs,x,fp,X,hr,hv,hrel=>by
  obtain⟨v,vs',b,c,f1,f2,rfl,h2,h3,h4,h5,rfl⟩:=hr
  obtain⟨F,g1,g2,g3⟩:=b9o ps (i:=i+1) (X:=(b::f1)++X) h5 (fun j u hj=>by have:=hv (j+1) u (by simpa using hj);rwa [show i+(j+1)=i+1+j by omega] at this) (hrel.permX (by
   rw[←List.append_assoc]
   exact List.Perm.append_right X List.perm_append_comm))
  have htm:a.tm i=v:=hv 0 v rfl
  exact⟨_,g1.consTop g2 (s:=.box t x.1) ⟨b,c,f1,by rw[htm];exact h2,h3,rfl,h4⟩ trivial,a7i g2 trivial,by rw[htm];rfl,g3⟩
 |.sio t::ps,i,vs,x,fp,X,hr,hv,hrel=>by
  obtain⟨v,vs',cs,f1,f2,rfl,h2,h3,h4,rfl⟩:=hr
  obtain⟨F,g1,g2,g3⟩:=b9o ps (i:=i+1) (X:=f1++X) h4 (fun j u hj=>by have:=hv (j+1) u (by simpa using hj);rwa [show i+(j+1)=i+1+j by omega] at this) (hrel.permX (by
   rw[←List.append_assoc]
   exact List.Perm.append_right X List.perm_append_comm))
  have htm:a.tm i=v:=hv 0 v rfl
  exact⟨_,g1.consTop g2 (s:=.val t x.1) ⟨cs,by rw[htm];exact h2,h3⟩ trivial,a7i g2 trivial,by rw[htm];rfl,g3⟩
theorem d8b(hmix:P.follows .mixedOrders=true)(htab:a3h P C)(hft:FtOK A P C){H:Hints}{n:Nat}{f:FuncId}{fn:Func}(hf:P.funcs[f]?=some fn){sg:Sig}{G:sg.arg→Option sg.res}(hG:∀x y,G x=some y→e4x C H n fn sg x=some y) :
  a8z A P C f sg G:=by
 intro x y hy Z w vs fp hglob hzb hargs hnd hdis
 have hk:=hG x y hy
 unfold e4x at hk
 split at hk
 ·rename_i c hb
  dsimp only at hk
  have hC:∃C':Ctx,C'=⟨fn.ntmps,C.ty,C.ft,C.gl,b7b 0 sg.ps,C.frz,C.el⟩:=⟨_,rfl⟩
  obtain⟨C',hC'⟩:=hC
  rw[←hC'] at hk
  have htab':a3h P C':=d4g (C:=C) (by rw[hC']) htab
  have hft':FtOK A P C':=e3f (C:=C) (by rw[hC']) (by rw[hC']) hft
  refine calls_of_wp hf hb ?_
  have ha:∃a0:Act,a0={ tmps:=vs++Array.replicate (fn.ntmps - vs.size) undef,defers:=[] }:=⟨_,rfl⟩
  obtain⟨a0,ha0⟩:=ha
  rw[←ha0]
  have htm:∀j v,vs.toList[j]?=some v→a0.tm (0+j)=v:=by
   intro j v hj
   rw[Array.getElem?_toList] at hj
   have hjs:j<vs.size:=by
    rcases Nat.lt_or_ge j vs.size with h|h
    ·exact h
    ·rw[Array.getElem?_eq_none h] at hj;simp at hj
   rw[ha0,Nat.zero_add]
   unfold Act.tm
   rw[Array.getD_eq_getD_getElem?,Array.getElem?_append_left hjs,hj]
   rfl
  have h0:Rel A P C' ⟨Z,w,fun b=>b∈fp,fun i=>if i∈b7b 0 sg.ps then some (a0.tm i) else none⟩ [] a0 w Z (fun _=>[]) (fp++[]):=by
   rw[List.append_nil]
   refine⟨fun i=>rfl,fun i=>trivial,fun i=>List.nodup_nil,fun i j b hb=>by simp at hb,fun i b hb=>by simp at hb,fun i b hb=>by simp at hb,fun i b hb=>by simp at hb,hnd,fun i b hb=>by simp at hb,hdis,b5b hargs,fun b hb=>.inl hb,hzb,fun b=>id,fun b=>.inl,
    Nat.le_refl _,fun _ _ _=>rfl,rfl,rfl,rfl,by rw[ha0],?_,c8j (C:=C) (by rw[hC']) hglob,fun i v hv=>?_⟩
   ·rw[hC',ha0];simp;omega
   ·dsimp only at hv
    split at hv
    ·exact Option.some.inj hv
    ·simp at hv
  obtain⟨F,h1,_,h2⟩:=b9o sg.ps (i:=0) hargs htm h0
  have hfix:c5o C' ⟨Z,w,fun b=>b∈fp,fun i=>if i∈b7b 0 sg.ps then some (a0.tm i) else none⟩:=by
   intro i v hv
   dsimp only at hv
   split at hv
   ·rw[hC'];assumption
   ·simp at hv
  have hend:∀(e1:En) (a1:Act) (w1:World) (Z1:Nat→Prop) (F1:Nat→List Nat),(rsOf C' sg.rs fn.results.toList e1 fun y e'=>d7s e' 0 sg.ps fun z=>some (y,z))=some y→Rel A P C' ⟨Z,w,fun b=>b∈fp,fun i=>if i∈b7b 0 sg.ps then some (a0.tm i) else none⟩ e1 a1 w1 Z1 F1 [] →
    a1.defers=[]∧∃v,(results fn a1.tmps).run P w1=.ok v w1∧∃v' Z' fr fi,Ending.returned v=.returned v'∧d1n A P Z' w1.heap sg.rs v' y.1 fr∧b1e A P Z' w1.heap sg.ps vs.toList y.2 fi∧Step Z w fp Z' w1 (fr++fi):=by
   intro e1 a1 w1 Z1 F1 hk1 hr1
   obtain⟨y1,e2,Z2,F2,fr,us,hk2,g1,g2,g3,g4⟩:=c0j htab' hft' sg.rs fn.results.toList hr1 hk1
   have hheld:b6x a1 0 sg.ps vs.toList:=h2.same fun j hj=>hr1.fix j _ (by simp[hj])
   obtain⟨y2,e3,Z3,F3,fi,hk3,k1,k2,k3⟩:=b5v sg.ps g1 hheld hk2
   simp only[Option.some.injEq] at hk3
   subst hk3
   refine⟨hr1.defs,_,c1e g4,_,Z3,fr,fi,rfl,⟨us,?_,rfl⟩,k3,?_⟩
   ·have:∀{rs:List RS} {us:List Value} {y:b3o rs} {f:List Nat},c6w A P Z2 w1.heap rs us y f→c6w A P Z3 w1.heap rs us y f:=by
     intro rs
     induction rs with
     |nil=>intro us y f h;exact h
     |cons p rs ih =>
      intro us y f h
      obtain⟨v,vs',f1,f2,q1,q2,q3,q4⟩:=h
      refine⟨v,vs',f1,f2,q1,?_,ih q3,q4⟩
      cases p with
      |val t=>obtain⟨cs,u1,u2⟩:=q2;exact⟨cs,u1,a0m u2 k2 fun _ _=>rfl⟩
      |box t=>obtain⟨b,c,f3,u1,u2,u3,u4⟩:=q2;exact⟨b,c,f3,u1,u2,a0m u3 k2 fun _ _=>rfl,u4⟩
    exact this g3
   ·rw[List.append_nil] at k1
    have hp:(fi++fr).Perm (fr++fi):=List.perm_append_comm
    have k1':=k1.permX hp
    exact⟨fun b hb=>k1.z b hb,k1.hs,fun b hb hn=>k1.keep b hb hn,fun b hb=>k1.znew b hb,fun b hb=>k1'.xnew b hb,k1.os,k1.out,k1.tape,k1.zb,k1'.xb,k1'.xnotZ,k1'.xnodup⟩
  refine e9t hmix c htab' hft' hfix h1 ⟨fun e1 a1 w1 Z1 F1 q1 q2=>?_,fun e1 a1 w1 Z1 F1 q1 q2=>?_,fun id k hfe=>by simp[b1z] at hfe⟩ hk
  ·exact hend e1 a1 w1 Z1 F1 q1 q2
  ·exact hend e1 a1 w1 Z1 F1 q1 q2
 ·simp at hk
end Go.Rb

namespace Go.Rb
open Go.RowKit
variable {A:Amb} {P:Program} {Z Z':Nat→Prop} {h h':Array Obj} {R:Type} {C C':Ctx} {w w':World} {H:Type} {enc:TypeId×Value→H} {sp:Nat→Bool}
theorem Step.below{B:Nat}{fp':List Nat}(hs:Step (fun b=>b<w.heap.size) w [] Z' w' fp')(hB:B≤w.heap.size):Below B w w' :=
 ⟨hs.os,hs.tape,hs.out,hs.size,fun k hk=>hs.keep k (by omega) (by simp)⟩
def Ty.data:Ty→Bool
 |.int _|.bool|.str|.unit=>true
 |.sl .imm _ t=>t.data
 |.st t=>t.data
 |.pair a b=>a.data&&b.data
 |.arr _ t=>t.data
 |_=>false
theorem b1y{α β:Type}{f:α→Option β}:∀{l:List α} {r:List β},l.mapM f=some r→r.length=l.length∧∀i (h1:i<l.length) (h2:i<r.length),f l[i]=some r[i]
 |[],r,h=>by
  simp at h
  subst h
  exact⟨rfl,fun i h1=>by simp at h1⟩
 |x::l,r,h=>by
  rw[List.mapM_cons] at h
  simp only[Option.bind_eq_bind,Option.bind_eq_some_iff,Option.pure_def,Option.some.injEq] at h
  obtain⟨y,h1,ys,h2,rfl⟩:=h
  obtain⟨h3,h4⟩:=b1y h2
  refine⟨by simp[h3],fun i g1 g2=>?_⟩
  cases i with
  |zero=>exact h1
  |succ i=>exact h4 i (by simpa using g1) (by simpa using g2)
theorem e6v{a:Addr}(hs:a.spot=none){j:Nat}:a.add j=⟨a.block,a.off+j,none⟩:=by
 unfold Addr.add
 split
 ·rename_i hj
  subst hj
  cases a
  simp at hs
  subst hs
  rfl
 ·cases a
  simp at hs
  subst hs
  rfl
theorem d6z{a:Addr}{n:Nat}{cs:List Value}(hc:w.cells? 0 a n=some cs)(hn:1≤n):Row w.heap a n cs∧a.block<w.heap.size:=by
 unfold World.cells? at hc
 simp only[Nat.zero_le,if_true] at hc
 obtain⟨h1,h2⟩:=b1y hc
 simp only[List.length_range] at h1
 have hcell:∀i (hi:i<n),w.cell? (a.add i)=some (cs[i]'(by omega)):=fun i hi=>by
  have:=h2 i (by simpa using hi) (by omega)
  simpa using this
 have h0:=hcell 0 (by omega)
 unfold World.cell? at h0
 split at h0
 ·rename_i c el fr hb
  split at h0
  ·simp at h0
  ·rename_i hs
   have hs':a.spot=none:=by simpa[Addr.add] using hs
   have hb':w.heap[a.block]?=some (.cells c el fr):=by simpa[Addr.add] using hb
   refine⟨⟨hs',h1,c,el,fr,hb',fun j hj=>?_⟩,?_⟩
   ·have:=hcell j hj
    rw[e6v hs'] at this
    unfold World.cell? at this
    simp only[hb'] at this
    rw[List.getElem?_eq_getElem (by omega)]
    simpa using this
   ·rcases Nat.lt_or_ge a.block w.heap.size with h|h
    ·exact h
    ·rw[Array.getElem?_eq_none h] at hb';simp at hb'
 ·simp at h0
theorem f1o{a:Addr}{n m:Nat}(hm:1≤m)(hn:1≤n){f:Nat→List Value}(hc:∀i,i<n→w.cells? 0 (a.add (i*m)) m=some (f i)) :
  a.spot=none∧a.block<w.heap.size∧∃cells,Row w.heap a (n*m) cells∧∀i,i<n→seg cells (i*m) m=f i:=by
 obtain⟨⟨h1,h2,c,el,fr,h3,h4⟩,h5⟩:=d6z (hc 0 (by omega)) hm
 rw[Nat.zero_mul] at h1 h3 h4 h5
 have hz:a.add 0=a:=by unfold Addr.add;simp
 rw[hz] at h1 h3 h4 h5
 have hrow:∀i,i<n→(f i).length=m∧∀j,j<m→c[a.off+(i*m+j)]?=(f i)[j]?:=by
  intro i hi
  obtain⟨⟨_,g2,c',el',fr',g3,g4⟩,_⟩:=d6z (hc i hi) hm
  rw[e6v h1] at g3 g4
  rw[h3] at g3
  simp only[Option.some.injEq,Obj.cells.injEq] at g3
  obtain⟨rfl,_,_⟩:=g3
  exact⟨g2,fun j hj=>by rw[←g4 j hj,←Nat.add_assoc]⟩
 have hsz:a.off+n*m≤c.size:=by
  obtain⟨g1,g2⟩:=hrow (n - 1) (by omega)
  have:=g2 (m - 1) (by omega)
  rw[List.getElem?_eq_getElem (by omega)] at this
  obtain⟨hlt,_⟩:=Array.getElem?_eq_some_iff.1 this
  have:(n - 1)*m+m=n*m:=by
   obtain⟨k,rfl⟩:∃k,n=k+1:=⟨n - 1,by omega⟩
   simp[Nat.succ_mul]
  omega
 refine⟨h1,h5,(c.toList.drop a.off).take (n*m),⟨h1,by simp;omega,c,el,fr,h3,fun j hj=>?_⟩,fun i hi=>?_⟩
 ·rw[List.getElem?_take_of_lt hj,List.getElem?_drop,Array.getElem?_toList]
 ·obtain⟨g1,g2⟩:=hrow i hi
  have hle:i*m+m≤n*m:=by
   have:=Nat.mul_le_mul_right m (show i+1≤n from hi)
   rwa [Nat.succ_mul] at this
  refine List.ext_getElem? fun j=>?_
  unfold seg
  by_cases hj:j<m
  ·rw[List.getElem?_take_of_lt hj,List.getElem?_drop,List.getElem?_take_of_lt (by omega),List.getElem?_drop,Array.getElem?_toList,g2 j hj]
  ·rw[List.getElem?_eq_none (by simp;omega),List.getElem?_eq_none (by omega)]
theorem b9x{t:TypeId}{ty:Ty}(ht:TyFact P C t ty):P.cellsOf t=ty.size:=by
 obtain⟨i,d,h1,_,h3,_⟩:=ht.ex
 simp[Program.cellsOf,h1,h3]
theorem e4n{te:Ty}{Q:Nat→te.den→Prop}:∀(n:Nat),(∀i,i<n→∃x,Q i x)→∃l:List te.den,l.length=n∧∀i (hi:i<l.length),Q i l[i]
 |0,_=>⟨[],rfl,fun i hi=>by simp at hi⟩
 |n+1,h=>by
  obtain⟨l,h1,h2⟩:=e4n n fun i hi=>h i (by omega)
  obtain⟨x,hx⟩:=h n (by omega)
  refine⟨l++[x],by simp[h1],fun i hi=>?_⟩
  by_cases hil:i<l.length
  ·rw[List.getElem_append_left hil];exact h2 i hil
  ·have:i=n:=by simp at hi;omega
   subst this
   rw[List.getElem_append_right (by omega)]
   simpa[h1] using hx
theorem b4q{e:TypeId}:∀{l:List (DataW H)},(DataW.weightsAll P e l).all (·≤reachBytes)=true→∀d,d∈l→(d.weights P e).all (·≤reachBytes)=true
 |[],_,d,hd=>by simp at hd
 |x::l,h,d,hd=>by
  rw[DataW.weightsAll,List.all_append,Bool.and_eq_true] at h
  rcases List.mem_cons.1 hd with rfl|hd
  ·exact h.1
  ·exact b4q h.2 d hd
theorem d2u:reachBytes≤room:=by decide
theorem d2w(htab:a3h P C){fuel:Nat}{Z:Nat→Prop}(ih:∀(ty:Ty) (t:TypeId) (cs:List Value) (d:DataW H) (ps:List MemPlace),ty.data=true→C.ty t=some ty→DataW.trod enc P w 0 sp true fuel t cs=some (d,ps)→(d.weights P t).all (·≤reachBytes)=true→∃x,Rep A P ty Z w.heap cs x []) :
  ∀(fs:List Field) (p:Ty) (o:Nat) (cs:List Value) (xs:List (DataW H×List MemPlace)),p.data=true→a8h C fs p o→cs.length=o+p.size→fs.mapM (fun f=>DataW.trod enc P w 0 sp true fuel f.type ((cs.drop f.offset).take (P.cellsOf f.type)))=some xs →
   (DataW.weightsEach P (fs.map (·.type)) (xs.map (·.1))).all (·≤reachBytes)=true→∃x,Rep A P p Z w.heap (cs.drop o) x []
 |[],p,o,cs,xs,hd,hf,hl,hx,hw=>by
  cases p <;> simp only[a8h] at hf
  refine⟨(),?_,rfl⟩
  simp[Ty.size] at hl
  exact List.drop_eq_nil_of_le (by omega)
 |f::fs,p,o,cs,xs,hd,hf,hl,hx,hw=>by
  cases p <;> simp only[a8h] at hf
  rename_i a b
  obtain⟨h1,h2,h3,h4⟩:=hf
  simp only[Ty.data,Bool.and_eq_true] at hd
  simp only[Ty.size] at hl
  rw[List.mapM_cons] at hx
  simp only[Option.bind_eq_bind,Option.bind_eq_some_iff,Option.pure_def,Option.some.injEq] at hx
  obtain⟨y,g1,ys,g2,rfl⟩:=hx
  simp only[List.map_cons,DataW.weightsEach,List.all_append,Bool.and_eq_true] at hw
  rw[b9x (htab _ _ h2),h1] at g1
  obtain⟨x1,k1⟩:=ih a f.type _ y.1 y.2 hd.1 h2 g1 hw.1
  obtain⟨x2,k2⟩:=d2w htab ih fs b (o+a.size) cs ys hd.2 h4 (by omega) g2 hw.2
  refine⟨(x1,x2),_,_,[],[],?_,rfl,k1,k2⟩
  rw[←List.drop_drop,List.take_append_drop]
end Go.Rb

namespace Go.Rb
open Go.RowKit
variable {A:Amb} {P:Program} {C:Ctx} {w:World} {H:Type} {enc:TypeId×Value→H} {sp:Nat→Bool}
theorem f5q{fuel:Nat}{t:TypeId}{k:IntKind}{cs:List Value}{d:DataW H}{ps:List MemPlace}(hu:P.underlying t=some (.int k))(hr:DataW.trod enc P w 0 sp true (fuel+1) t cs=some (d,ps)) :
  ∃n,cs=[.int k n]∧(Lit.int k n).wf=true∧d=.lit (.int k n):=by
 unfold DataW.trod at hr
 rw[hu] at hr
 split at hr <;> rename_i h <;> try (first|(cases h;done)|(simp at h;done))
 all_goals first
  |(simp at hr;done)
  |(
    cases h
    split at hr
    ·rename_i h2
     obtain⟨rfl,h3⟩:=h2
     simp at hr
     exact⟨_,rfl,h3,hr.1.symm⟩
    ·simp at hr)
theorem f2e{fuel:Nat}{t:TypeId}{cs:List Value}{d:DataW H}{ps:List MemPlace}(hu:P.underlying t=some .bool)(hr:DataW.trod enc P w 0 sp true (fuel+1) t cs=some (d,ps)) :
  ∃b,cs=[.bool b]∧d=.lit (.bool b):=by
 unfold DataW.trod at hr
 rw[hu] at hr
 split at hr <;> rename_i h <;> try (first|(cases h;done)|(simp at h;done))
 all_goals first
  |(simp at hr;done)
  |(
    simp at hr
    exact⟨_,rfl,hr.1.symm⟩)
theorem f6g{fuel:Nat}{t:TypeId}{cs:List Value}{d:DataW H}{ps:List MemPlace}(hu:P.underlying t=some .string)(hr:DataW.trod enc P w 0 sp true (fuel+1) t cs=some (d,ps)) :
  ∃s:ByteArray,cs=[.string s]∧d=.lit (.string s.data.toList):=by
 unfold DataW.trod at hr
 rw[hu] at hr
 split at hr <;> rename_i h <;> try (first|(cases h;done)|(simp at h;done))
 all_goals first
  |(simp at hr;done)
  |(
    simp at hr
    exact⟨_,rfl,hr.2.1.symm⟩)
theorem e9a{fuel:Nat}{t e:TypeId}{cs:List Value}{d:DataW H}{ps:List MemPlace}(hu:P.underlying t=some (.slice e))(hr:DataW.trod enc P w 0 sp true (fuel+1) t cs=some (d,ps)) :
  (cs=[.slice none 0 0]∧d=.nil)∨∃a len cap,∃(elems rest:List (DataW H×List MemPlace)),cs=[.slice (some a) len cap]∧len≤cap ∧
   ((List.range len).mapM fun i=>(w.cells? 0 (a.add (i*P.cellsOf e)) (P.cellsOf e)).bind (DataW.trod enc P w 0 sp true fuel e))=some elems∧d=.slice (elems.map (·.1)) (rest.map (·.1)):=by
 unfold DataW.trod at hr
 rw[hu] at hr
 split at hr <;> rename_i h <;> try (first|(cases h;done)|(simp at h;done))
 all_goals first
  |(simp at hr;done)
  |skip
 ·simp at hr
  exact .inl ⟨rfl,hr.1.symm⟩
 ·cases h
  right
  simp only[Nat.zero_le,true_and] at hr
  split at hr
  ·rename_i h1
   simp only[Option.bind_eq_some_iff,Option.map_eq_some_iff] at hr
   obtain⟨elems,h2,rest,h3,h4⟩:=hr
   simp only[Prod.mk.injEq] at h4
   exact⟨_,_,_,elems,rest,rfl,h1.1,h2,h4.1.symm⟩
  ·simp at hr
theorem e3e{fuel:Nat}{t:TypeId}{fs:Array Field}{cs:List Value}{d:DataW H}{ps:List MemPlace}(hu:P.underlying t=some (.struct fs))(hr:DataW.trod enc P w 0 sp true (fuel+1) t cs=some (d,ps)) :
  cs.length=P.cellsOf t∧∃xs:List (DataW H×List MemPlace),(fs.toList.mapM fun f=>DataW.trod enc P w 0 sp true fuel f.type ((cs.drop f.offset).take (P.cellsOf f.type)))=some xs∧d=.agg (xs.map (·.1)):=by
 unfold DataW.trod at hr
 rw[hu] at hr
 dsimp only at hr
 split at hr
 ·rename_i h1
  simp only[Option.map_eq_some_iff] at hr
  obtain⟨xs,h2,h3⟩:=hr
  simp only[Prod.mk.injEq] at h3
  exact⟨h1,xs,h2,h3.1.symm⟩
 ·simp at hr
theorem e9z{fuel:Nat}{t e:TypeId}{n:Nat}{cs:List Value}{d:DataW H}{ps:List MemPlace}(hu:P.underlying t=some (.array n e))(hr:DataW.trod enc P w 0 sp true (fuel+1) t cs=some (d,ps)) :
  cs.length=P.cellsOf t∧∃xs:List (DataW H×List MemPlace),((List.range n).mapM fun i=>DataW.trod enc P w 0 sp true fuel e ((cs.drop (i*P.cellsOf e)).take (P.cellsOf e)))=some xs∧d=.agg (xs.map (·.1)):=by
 unfold DataW.trod at hr
 rw[hu] at hr
 dsimp only at hr
 split at hr
 ·rename_i h1
  simp only[Option.map_eq_some_iff] at hr
  obtain⟨xs,h2,h3⟩:=hr
  simp only[Prod.mk.injEq] at h3
  exact⟨h1,xs,h2,h3.1.symm⟩
 ·simp at hr
theorem d0a(htab:a3h P C):∀(fuel:Nat) (ty:Ty) (t:TypeId) (cs:List Value) (d:DataW H) (ps:List MemPlace),ty.data=true→C.ty t=some ty→DataW.trod enc P w 0 sp true fuel t cs=some (d,ps)→(d.weights P t).all (·≤reachBytes)=true →
  ∃x,Rep A P ty (fun b=>b<w.heap.size) w.heap cs x []
 |0,ty,t,cs,d,ps,hd,ht,hr,hw=>by simp[DataW.trod] at hr
 |fuel+1,ty,t,cs,d,ps,hd,ht,hr,hw=>by
  have ih:=d0a htab fuel
  have htf:=htab t ty ht
  have hsz:=b9x htf
  obtain⟨i,desc,_,hu,_,hkind,_⟩:=htf.ex
  cases ty with
  |int k =>
   cases desc <;> simp only[a7d] at hkind
   subst hkind
   obtain⟨n,rfl,h1,_⟩:=f5q hu hr
   simp[Lit.wf] at h1
   exact⟨_,rfl,rfl,h1⟩
  |bool =>
   cases desc <;> simp only[a7d] at hkind
   obtain⟨b,rfl,_⟩:=f2e hu hr
   exact⟨_,rfl,rfl⟩
  |str =>
   cases desc <;> simp only[a7d] at hkind
   obtain⟨s,rfl,rfl⟩:=f6g hu hr
   simp only[DataW.weights,List.all_cons,List.all_nil,Bool.and_true,decide_eq_true_eq,Array.length_toList] at hw
   exact⟨_,rfl,_,rfl,rfl,Nat.le_trans hw d2u⟩
  |unit=>cases desc <;> simp only[a7d] at hkind
  |pair a b=>cases desc <;> simp only[a7d] at hkind
  |st p =>
   cases desc <;> simp only[a7d] at hkind
   rename_i fs
   obtain⟨h1,xs,h2,rfl⟩:=e3e hu hr
   simp only[DataW.weights,hu] at hw
   obtain⟨x,hx⟩:=d2w (A:=A) htab ih fs.toList p 0 cs xs hd hkind (by rw[h1,hsz];simp[Ty.size]) h2 hw
   exact⟨x,hx⟩
  |arr n te =>
   cases desc <;> simp only[a7d] at hkind
   rename_i n' el
   obtain⟨rfl,hte,hpure,hts⟩:=hkind
   obtain⟨h1,xs,h2,rfl⟩:=e9z hu hr
   have hce:=b9x (htab el te hte)
   rw[hce] at h2
   obtain⟨h3,h4⟩:=b1y h2
   simp only[List.length_range] at h3
   simp only[DataW.weights,hu] at hw
   obtain⟨l,hl,hq⟩:=e4n (te:=te) (Q:=fun i x=>Rep A P te (fun b=>b<w.heap.size) w.heap (seg cs (i*te.size) te.size) x []) n' fun i hi=>by
    have h5:=h4 i (by simpa using hi) (by omega)
    simp only[List.getElem_range] at h5
    exact ih te el _ (xs[i]'(by omega)).1 (xs[i]'(by omega)).2 hd hte h5 (b4q hw _ (List.mem_map.2 ⟨_,List.getElem_mem _,rfl⟩))
   exact⟨l,rfl,hpure,hl,by rw[h1,hsz];rfl,hq⟩
  |sl m e te =>
   cases desc <;> simp only[a7d] at hkind
   rename_i el
   obtain⟨rfl,hte,rfl,he1,hpure,hts⟩:=hkind
   rcases e9a hu hr with⟨rfl,rfl⟩|⟨a,n,cap,elems,rest,rfl,hnc,hel,rfl⟩
   ·exact⟨([]:List te.den),none,0,0,rfl,rfl,rfl,Nat.le_refl 0,by simp,by simp,.inl rfl⟩
   have hce:=b9x (htab el te hte)
   rw[hce] at hel
   obtain⟨h3,h4⟩:=b1y hel
   simp only[List.length_range] at h3
   simp only[DataW.weights,hu,List.all_cons,List.all_append,Bool.and_eq_true,decide_eq_true_eq,List.length_map] at hw
   obtain⟨hw1,hw2,_⟩:=hw
   have hb:n*P.bytesOf el≤room:=by
    refine Nat.le_trans ?_ (Nat.le_trans hw1 d2u)
    exact Nat.mul_le_mul_right _ (by omega)
   have hnr:n≤room:=Nat.le_trans (by have:=Nat.mul_le_mul_left n he1;omega) hb
   rcases Nat.eq_zero_or_pos n with rfl|hn
   ·exact⟨([]:List te.den),some a,0,cap,rfl,rfl,rfl,hnc,hb,hnr,.inl rfl⟩
   have h5:∀i (hi:i<n),∃c,w.cells? 0 (a.add (i*te.size)) te.size=some c∧DataW.trod enc P w 0 sp true fuel el c=some (elems[i]'(by omega)):=fun i hi=>by
    have:=h4 i (by simpa using hi) (by omega)
    simp only[List.getElem_range,Option.bind_eq_some_iff] at this
    exact this
   obtain⟨k1,k2,cells,k3,k4⟩:=f1o (w:=w) (a:=a) (n:=n) (m:=te.size) hts hn (f:=fun i=>(w.cells? 0 (a.add (i*te.size)) te.size).getD []) fun i hi=>by
    obtain⟨c,hc,_⟩:=h5 i hi
    simp only[hc,Option.getD_some]
   obtain⟨l,hl,hq⟩:=e4n (te:=te) (Q:=fun i x=>Rep A P te (fun b=>b<w.heap.size) w.heap (seg cells (i*te.size) te.size) x []) n fun i hi=>by
    obtain⟨c,hc,hc2⟩:=h5 i hi
    rw[k4 i hi]
    simp only[hc,Option.getD_some]
    exact ih te el c (elems[i]'(by omega)).1 (elems[i]'(by omega)).2 hd hte hc2 (b4q hw2 _ (List.mem_map.2 ⟨_,List.getElem_mem _,rfl⟩))
   exact⟨l,some a,n,cap,rfl,rfl,hl.symm,hnc,hb,hnr,.inr ⟨a,cells,rfl,k2,k3,hq⟩⟩
  |_=>simp[Ty.data] at hd
end Go.Rb

namespace Go.Rb
variable {A:Amb} {P:Program} {C C':Ctx}
def find?{α:Type}:List (Nat×α)→Nat→Option α
 |[],_=>none
 |(j,x)::l,i=>match Nat.beq j i with
  |true=>some x
  |false=>find? l i
theorem b3x{α:Type}{i:Nat}{x:α}:∀{l:List (Nat×α)},find? l i=some x→(i,x)∈l
 |[],h=>by simp[find?] at h
 |(j,y)::l,h=>by
  unfold find? at h
  split at h
  ·rename_i hb
   obtain rfl:=Nat.eq_of_beq_eq_true hb
   obtain rfl:=Option.some.inj h
   exact List.mem_cons_self
  ·exact List.mem_cons_of_mem _ (b3x h)
def tyIs(T:Nat→Option Ty)(i:Nat)(t:Ty):Bool:=match T i with
 |some t'=>decide (t'=t)
 |none=>false
theorem d6g{T:Nat→Option Ty}{i:Nat}{t:Ty}(h:tyIs T i t=true):T i=some t:=by
 unfold tyIs at h
 split at h
 ·rename_i t' ht
  rw[ht,of_decide_eq_true h]
 ·simp at h
def d0v(T:Nat→Option Ty):List Field→Ty→Nat→Bool
 |[],.unit,_=>true
 |f::fs,.pair a b,o=>Nat.beq f.offset o&&tyIs T f.type a&&Nat.ble 1 a.size&&d0v T fs b (o+a.size)
 |_,_,_=>false
theorem d2g:∀{fs:List Field} {p:Ty} {o:Nat},d0v C.ty fs p o=true→a8h C fs p o
 |[],p,o,h=>by cases p <;> simp[d0v,a8h] at *
 |f::fs,p,o,h=>by
  cases p <;> simp only[d0v,a8h,Bool.and_eq_true,Bool.false_eq_true] at *
  obtain⟨⟨⟨h1,h2⟩,h3⟩,h4⟩:=h
  exact⟨Nat.eq_of_beq_eq_true h1,d6g h2,Nat.le_of_ble_eq_true h3,d2g h4⟩
def g4m:Md→Bool
 |.imm=>true
 |_=>false
def f6c(P:Program)(T:Nat→Option Ty):TypeDesc→Ty→Bool
 |.int k,.int k'=>decide (k=k')
 |.bool,.bool=>true
 |.string,.str=>true
 |.slice el,.sl m e te=>g4m m&&tyIs T el te&&Nat.beq (P.bytesOf el) e&&Nat.ble 1 e&&te.pure&&Nat.ble 1 te.size
 |.struct fs,.st p=>d0v T fs.toList p 0
 |.array n el,.arr m te=>Nat.beq n m&&tyIs T el te&&te.pure&&Nat.ble 1 te.size
 |.interface _,.err=>true
 |.func _ _ _,.fn _ _=>true
 |.func _ _ _,.fn2 _ _ _=>true
 |.func _ _ _,.lf (.cfs _)=>true
 |.map k el,.lf (.fmap l)=>(match P.underlying k with|some (.int .i64)=>true|_=>false)&&tyIs T el (b7d l)
 |.pointer _,.ptr _=>true
 |_,_=>false
theorem f6a{d:TypeDesc}{ty:Ty}(h:f6c P C.ty d ty=true):a7d P C d ty:=by
 by_cases hlf:∃q,ty=.lf q
 ·obtain⟨q,rfl⟩:=hlf
  cases d <;> cases q <;> simp only[f6c,a7d,Bool.and_eq_true,Bool.false_eq_true] at *
  obtain⟨h1,h2⟩:=h
  refine⟨?_,d6g h2⟩
  split at h1
  ·assumption
  ·cases h1
 cases d <;> cases ty <;> try (exact absurd ⟨_,rfl⟩ hlf)
 all_goals simp only[f6c,a7d,Bool.and_eq_true,decide_eq_true_eq,Bool.false_eq_true] at *
 all_goals first
  |trivial
  |assumption
  |exact d2g h
  |(
    obtain⟨⟨⟨⟨⟨h1,h2⟩,h3⟩,h4⟩,h5⟩,h6⟩:=h
    refine⟨?_,d6g h2,Nat.eq_of_beq_eq_true h3,Nat.le_of_ble_eq_true h4,h5,Nat.le_of_ble_eq_true h6⟩
    rename_i m _ _
    cases m <;> simp[g4m] at h1 ⊢)
  |(
    obtain⟨⟨⟨h1,h2⟩,h3⟩,h4⟩:=h
    exact⟨Nat.eq_of_beq_eq_true h1,d6g h2,h3,Nat.le_of_ble_eq_true h4⟩)
def e6u:Value→Value→Bool
 |.int k n,.int k' n'=>decide (k=k')&&decide (n=n')
 |.bool b,.bool b'=>decide (b=b')
 |.string s,.string s'=>s.data.toList.isEmpty&&s'.data.toList.isEmpty
 |.slice none a b,.slice none a' b'=>Nat.beq a a'&&Nat.beq b b'
 |.nilIface,.nilIface=>true
 |.nilFunc,.nilFunc=>true
 |_,_=>false
theorem d6v{v u:Value}(h:e6u v u=true):v=u∧∀a,v≠.agg a:=by
 unfold e6u at h
 split at h
 ·simp only[Bool.and_eq_true,decide_eq_true_eq] at h
  obtain⟨rfl,rfl⟩:=h
  exact⟨rfl,by simp⟩
 ·simp only[decide_eq_true_eq] at h
  subst h
  exact⟨rfl,by simp⟩
 ·rename_i s s'
  simp only[Bool.and_eq_true,List.isEmpty_iff] at h
  obtain⟨h1,h2⟩:=h
  refine⟨?_,by simp⟩
  cases s with|mk a=>cases s' with|mk b =>
  cases a;cases b
  simp at h1 h2
  subst h1 h2
  rfl
 ·simp only[Bool.and_eq_true] at h
  obtain⟨h1,h2⟩:=h
  obtain rfl:=Nat.eq_of_beq_eq_true h1
  obtain rfl:=Nat.eq_of_beq_eq_true h2
  exact⟨rfl,by simp⟩
 ·exact⟨rfl,by simp⟩
 ·exact⟨rfl,by simp⟩
 ·simp at h
def d3m:List Value→List Value→Bool
 |[],[]=>true
 |v::l,u::r=>e6u v u&&d3m l r
 |_,_=>false
theorem e0h:∀{l r:List Value},d3m l r=true→l=r
 |[],[],_=>rfl
 |v::l,u::r,h=>by
  simp only[d3m,Bool.and_eq_true] at h
  rw[(d6v h.1).1,e0h h.2]
 |[],_::_,h=>by simp[d3m] at h
 |_::_,[],h=>by simp[d3m] at h
def vcB(agg:Bool)(v:Value)(z:List Value):Bool:=match agg with
 |true=>match v with
  |.agg a=>d3m a.toList z
  |_=>false
 |false=>match z with
  |[u]=>e6u v u
  |_=>false
theorem g5m{ty:Ty}{v:Value}{z:List Value}(h:vcB ty.agg v z=true):VC ty v z:=by
 unfold vcB at h
 unfold VC
 split at h
 ·rename_i hb
  rw[hb,if_pos rfl]
  split at h
  ·rw[←e0h h]
  ·simp at h
 ·rename_i hb
  rw[hb,if_neg (by simp)]
  split at h
  ·obtain⟨rfl,h2⟩:=d6v h
   exact⟨rfl,h2⟩
  ·simp at h
def g4g(ty:Ty)(i:Option Value):Bool:=match zeroCells ty with
 |none=>true
 |some z=>match i with
  |some v=>vcB ty.agg v z
  |none=>false
def eqB(P:Program)(t:TypeId)(ty:Ty)(d:TypeDesc):Bool:=match ty.eqOK with
 |false=>true
 |true=>match d with
  | .struct fs => (match P.stoodInHeld t with | true => false | false => true) && (match P.eqGuardType P.depth t with | true => false | false => true) && fs.toList.all fun f => (match decide (f.name = "_") with | true => false | false => true)
  |_=>true
def ptrB(ty:Ty)(z:Option Value):Bool:=match ty with
 |.ptr _=>match z with
  |some (.pointer none)=>true
  |_=>false
 |_=>true
def tyB(P:Program)(T:Nat→Option Ty)(t:TypeId)(ty:Ty):Bool:=match P.info? t,P.underlying t with
 |some i,some d=>Nat.beq i.size ty.size&&f6c P T d ty&&g4g ty i.zero&&eqB P t ty d&&ptrB ty i.zero
 |_,_=>false
theorem g4e{t:TypeId}{ty:Ty}(h:tyB P C.ty t ty=true):TyFact P C t ty:=by
 unfold tyB at h
 split at h
 ·rename_i i d h1 h2
  simp only[Bool.and_eq_true] at h
  obtain⟨⟨⟨⟨h3,h4⟩,h5⟩,h6⟩,hp⟩:=h
  refine⟨⟨i,d,h1,h2,Nat.eq_of_beq_eq_true h3,f6a h4,fun z hz=>?_⟩,fun he fs hfs=>?_,fun te hte=>?_⟩
  ·unfold g4g at h5
   rw[hz] at h5
   dsimp only at h5
   split at h5
   ·rename_i v hv
    exact⟨v,hv,g5m h5⟩
   ·simp at h5
  ·rw[h2] at hfs
   obtain rfl:=Option.some.inj hfs
   unfold eqB at h6
   rw[he] at h6
   simp only[Bool.and_eq_true] at h6
   obtain⟨⟨h7,h8⟩,h9⟩:=h6
   refine⟨?_,?_,fun f hf=>?_⟩
   ·split at h7
    ·simp at h7
    ·assumption
   ·split at h8
    ·simp at h8
    ·assumption
   ·have:=List.all_eq_true.1 h9 f hf
    split at this
    ·simp at this
    ·rename_i h10
     exact of_decide_eq_false h10
  ·subst hte
   unfold ptrB at hp
   dsimp only at hp
   split at hp
   ·rename_i hz
    exact⟨i,h1,hz⟩
   ·simp at hp
 ·simp at h
def tabB(P:Program)(T:Nat→Option Ty):List (Nat×Ty)→Bool
 |[]=>true
 |(t,ty)::l=>tyB P T t ty&&tabB P T l
theorem e6y{T:Nat→Option Ty}{t:Nat}{ty:Ty}:∀{l:List (Nat×Ty)},tabB P T l=true→(t,ty)∈l→tyB P T t ty=true
 |(t',ty')::l,h,hm=>by
  simp only[tabB,Bool.and_eq_true] at h
  rcases List.mem_cons.1 hm with hm|hm
  ·cases hm;exact h.1
  ·exact e6y h.2 hm
 |[],_,hm=>by simp at hm
theorem g5o{l:List (Nat×Ty)}(h:tabB P (find? l) l=true)(hC:C.ty=find? l):a3h P C:=fun t ty ht=>by
 rw[hC] at ht
 have:=e6y h (b3x ht)
 rw[←hC] at this
 exact g4e this
theorem a8z.of{f:FuncId}{sg:Sig}{G:sg.arg→Option sg.res}(h:a8z A P C f sg G)(hg:C'.gl=C.gl):a8z A P C' f sg G:=fun x y hy Z w vs fp hgl=>h x y hy Z w vs fp ⟨fun g t x' hx=>hgl.var g t x' (by rw[hg];exact hx),hgl.amb⟩
def a0s(A:Amb)(P:Program)(C:Ctx)(p:Nat×FEnt):Prop:=a5h P p.1∧a8z A P C p.1 p.2.sig p.2.fn
theorem g6o{l:List (Nat×FEnt)}(hC:C.ft=find? l)(h:∀p,p∈l→a0s A P C p):FtOK A P C:=fun f sg G hf=>by
 rw[hC] at hf
 exact h _ (b3x hf)
def c6v(A:Amb)(P:Program)(C:Ctx):List (Nat×FEnt)→Prop
 |[]=>True
 |p::l=>a0s A P C p∧c6v A P C l
theorem c6v.mem:∀{l:List (Nat×FEnt)},c6v A P C l→∀p,p∈l→a0s A P C p
 |[],_,p,hp=>by simp at hp
 |_::l,h,p,hp=>by
  rcases List.mem_cons.1 hp with rfl|hp
  ·exact h.1
  ·exact c6v.mem h.2 p hp
theorem c6v.of{C':Ctx}(hg:C'.gl=C.gl):∀{l:List (Nat×FEnt)},c6v A P C l→c6v A P C' l
 |[],h=>h
 |_::_,h=>⟨⟨h.1.1,h.1.2.of hg⟩,c6v.of hg h.2⟩
theorem g4u{l:List (Nat×FEnt)}(hC:C.ft=find? l)(h:c6v A P C l):FtOK A P C:=g6o hC (c6v.mem h)
def g3j(P:Program)(f:FuncId):Bool:=match P.funcs[f]? with
 | some fn => (match fn.name == "runtime.NumGoroutine" with | true => false | false => true) && (match fn.body.isNone with | true => false | false => true)
 |none=>false
theorem a9o{f:FuncId}(h:g3j P f=true):a5h P f:=by
 unfold g3j at h
 split at h
 ·rename_i fn hfn
  simp only[Bool.and_eq_true] at h
  obtain⟨h1,h2⟩:=h
  refine⟨fn,hfn,?_,?_⟩
  ·split at h1
   ·simp at h1
   ·assumption
  ·split at h2
   ·simp at h2
   ·assumption
 ·simp at h
end Go.Rb

namespace Go.Rb
variable {R S:Type}
def Gets(o:Option R)(Q:R→Prop):Prop:=∃y,o=some y∧Q y
theorem Gets.some{y:R}{Q:R→Prop}(h:Q y):Gets (some y) Q:=⟨y,rfl,h⟩
theorem Gets.mono{o:Option R}{Q Q':R→Prop}(h:Gets o Q)(hq:∀y,Q y→Q' y):Gets o Q':=by
 obtain⟨y,h1,h2⟩:=h
 exact⟨y,h1,hq y h2⟩
theorem Gets.bind{o:Option S}{f:S→Option R}{Q:R→Prop}{Q':S→Prop}(h:Gets o Q')(hf:∀y,Q' y→Gets (f y) Q):Gets (o.bind f) Q:=by
 obtain⟨y,rfl,h2⟩:=h
 exact hf y h2
theorem Gets.atI{i:Int}{n:Nat}{x:Option R}{Q:R→Prop}(h0:0≤i)(h1:i<n)(h:Gets x Q):Gets (atI i n x) Q:=by
 unfold Rb.atI
 rw[if_pos ⟨h0,h1⟩]
 exact h
theorem Gets.neg{c:Prop}[Decidable c]{x y:Option R}{Q:R→Prop}(hc:¬c)(h:Gets y Q):Gets (if c then x else y) Q:=by
 rw[if_neg hc];exact h
theorem Gets.ite{c:Prop}[Decidable c]{x y:Option R}{Q:R→Prop}(h1:c→Gets x Q)(h2:¬c→Gets y Q):Gets (if c then x else y) Q:=by
 split
 ·exact h1 ‹_›
 ·exact h2 ‹_›
theorem Gets.dec{c:Prop}[Decidable c]{x y:Option R}{Q:R→Prop}(h1:c→Gets x Q)(h2:¬c→Gets y Q):Gets (if(decide c)=true then x else y) Q :=
 .ite (fun h=>h1 (of_decide_eq_true h)) (fun h=>h2 (fun hc=>h (decide_eq_true hc)))
theorem Gets.not{b:Bool}{x y:Option R}{Q:R→Prop}(h1:b=false→Gets x Q)(h2:b=true→Gets y Q):Gets (if(!b)=true then x else y) Q:=by
 cases b
 ·exact h1 rfl
 ·exact h2 rfl
theorem Gets.join{σ:Type}{f:σ→Option R}{g:(σ→Option R)→Option R}{Q:R→Prop}(I:σ→Prop)(h1:∀s,I s→Gets (f s) Q)(h2:∀J:σ→Option R,(∀s,I s→Gets (J s) Q)→Gets (g J) Q):Gets (b3q f g) Q:=h2 f h1
theorem e5t{σ:Type}{Q:Option R→Prop}{f:(σ→Option R)→σ→Option R}(I:σ→Prop)(μ:σ→Nat)(hf:∀rec s,I s→(∀s',I s'→μ s'<μ s→Q (rec s'))→Q (f rec s)) :
  ∀(n:Nat) (s:σ),I s→μ s<n→Q (a0x f n s)
 |0,s,_,h=>absurd h (by omega)
 |n+1,s,hi,h=>hf _ s hi fun s' hi' hlt=>e5t I μ hf n s' hi' (by omega)
theorem Gets.iter{σ:Type}{Q:R→Prop}{f:(σ→Option R)→σ→Option R}{n:Nat}{s:σ}(I:σ→Prop)(μ:σ→Nat)(hi:I s)(hn:μ s<n)(hf:∀rec s,I s→(∀s',I s'→μ s'<μ s→Gets (rec s') Q)→Gets (f rec s) Q):Gets (a0x f n s) Q :=
 e5t (Q:=fun o=>Gets o Q) I μ hf n s hi hn
theorem a0j{x:Int}(h1:-9223372036854775808≤x)(h2:x≤9223372036854775807):IntKind.i64.wrap x=x:=by
 simp only[IntKind.wrap,IntKind.bits,IntKind.signed,if_true]
 simp
 split <;> omega
theorem d5i{x:Int}(h1:0≤x)(h2:x≤18446744073709551615):IntKind.u64.wrap x=x:=by
 simp only[IntKind.wrap,IntKind.bits,IntKind.signed]
 simp
 omega
theorem a8k{x:Int}(h1:0≤x)(h2:x≤255):IntKind.u8.wrap x=x:=by
 simp only[IntKind.wrap,IntKind.bits,IntKind.signed]
 simp
 omega
theorem f1e(x:Int):0≤IntKind.u64.wrap x∧IntKind.u64.wrap x≤18446744073709551615:=by
 simp only[IntKind.wrap,IntKind.bits,IntKind.signed]
 simp
 omega
theorem c9o(x:Int):-9223372036854775808≤IntKind.i64.wrap x∧IntKind.i64.wrap x≤9223372036854775807:=by
 simp only[IntKind.wrap,IntKind.bits,IntKind.signed]
 simp
 split <;> omega
theorem a0e{i:Nat}(h:i<9223372036854775807):IntKind.i64.wrap ((i:Int)+1)=((i+1:Nat):Int):=by
 rw[a0j (by omega) (by omega)];simp
end Go.Rb
