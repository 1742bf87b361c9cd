/- Rb: heads: what is kept, packed, laid beside. Own work. -/
import Derived.Test.YthkgkalebkbndaaGreatDoorRbD
import Derived.LoopN
import Derived.Below
import Derived.Carry
import Derived.JoinedOf
import Derived.RowKit
import Derived.ProofKit
import Derived.Test.YthkgkalebkbndaaGreatDoorRbA
set_option autoImplicit false
set_option linter.unusedVariables false
set_option linter.unusedSimpArgs false
namespace Go.Rb
variable {A:Amb} {P:Program} {Z Z':Nat→Prop} {h h':Array Obj} {R:Type} {C C':Ctx} {B:Base} {e e':En} {a a':Act} {w w':World} {F F0:Nat→List Nat} {X X0:List Nat} {r:Nat→Ent} {o:Oper}
theorem b9b(ht:C'.ty=C.ty):∀{fs:List Field} {t:Ty} {o:Nat},a4z C fs t o→a4z C' fs t o
 |[],.unit,_,_=>trivial
 |f::fs,.pair a b,o,hf=>by
  obtain⟨h1,h2,h3,h4⟩:=hf
  exact⟨h1,by rw[ht];exact h2,h3,b9b ht h4⟩
 |[],.int _,_,hf=>hf.elim
 |[],.bool,_,hf=>hf.elim
 |[],.str,_,hf=>hf.elim
 |[],.err,_,hf=>hf.elim
 |[],.sl _ _ _,_,hf=>hf.elim
 |[],.slh _ _,_,hf=>hf.elim
 |[],.fn _ _,_,hf=>hf.elim
 |[],.fn2 _ _ _,_,hf=>hf.elim
 |[],.ptr _,_,hf=>hf.elim
 |[],.st _,_,hf=>hf.elim
 |[],.pair _ _,_,hf=>hf.elim
 |[],.arr _ _,_,hf=>hf.elim
 |[],.lf _,_,hf=>hf.elim
 |_::_,.unit,_,hf=>hf.elim
 |_::_,.int _,_,hf=>hf.elim
 |_::_,.bool,_,hf=>hf.elim
 |_::_,.str,_,hf=>hf.elim
 |_::_,.err,_,hf=>hf.elim
 |_::_,.sl _ _ _,_,hf=>hf.elim
 |_::_,.slh _ _,_,hf=>hf.elim
 |_::_,.fn _ _,_,hf=>hf.elim
 |_::_,.fn2 _ _ _,_,hf=>hf.elim
 |_::_,.ptr _,_,hf=>hf.elim
 |_::_,.st _,_,hf=>hf.elim
 |_::_,.arr _ _,_,hf=>hf.elim
 |_::_,.lf _,_,hf=>hf.elim
theorem d5w(ht:C'.ty=C.ty){d:TypeDesc}{t:Ty}(hk:a4f P C d t):a4f P C' d t:=by
 by_cases hlf:∃q,t=.lf q
 ·obtain⟨q,rfl⟩:=hlf
  cases d <;> cases q <;> first
   |exact hk.elim
   |exact hk
   |(obtain⟨h1,h2⟩:=hk;exact⟨h1,by rw[ht];exact h2⟩)
 cases d <;> cases t <;> first
  |exact absurd ⟨_,rfl⟩ hlf
  |exact hk.elim
  |exact hk
  |(obtain⟨h1,h2,h3⟩:=hk;exact⟨h1,by rw[ht];exact h2,h3⟩)
  |exact b9b ht hk
theorem c4a(ht:C'.ty=C.ty)(h:a2d P C):a2d P C':=by
 intro t ty hty
 rw[ht] at hty
 obtain⟨⟨i,d,h1,h2,h3,h4,h5⟩,h6,h7⟩:=h t ty hty
 exact⟨⟨i,d,h1,h2,h3,d5w ht h4,h5⟩,h6,h7⟩
theorem b8n(hg:C'.gl=C.gl)(h:GlobOK A P C Z h'):GlobOK A P C' Z h':=by
 exact⟨fun g t x hx=>h.var g t x (by rw[←hg];exact hx),h.amb⟩
theorem c7t(hf:C'.ft=C.ft)(hg:C'.gl=C.gl)(h:FtOK A P C):FtOK A P C':=by
 intro f sg G hG
 rw[hf] at hG
 obtain⟨h1,h2⟩:=h f sg G hG
 exact⟨h1,fun x y hy Z w vs fp hgl=>h2 x y hy Z w vs fp (b8n hg.symm hgl)⟩
theorem Rel.ctx(hrel:Rel A P C B e a w Z F X)(hn:C'.nt=C.nt)(hg:C'.gl=C.gl):Rel A P C' B e a w Z F X :=
 ⟨hrel.own,hrel.ref,hrel.nodup,hrel.disj,hrel.notZ,hrel.fb,hrel.fnew,hrel.xnodup,hrel.xdisj,hrel.xnotZ,hrel.xb,hrel.xnew,hrel.zb,hrel.z,hrel.znew,hrel.hs,hrel.keep,hrel.os,hrel.out,hrel.tape,hrel.defs,by rw[hn];exact hrel.nt,b8n hg hrel.glob,hrel.fix⟩
def b1p(e:En):Prop:=∀i,(e.get i).s.noRef
theorem a4k{i:Nat}{s:SV}{v c:Nat}(he:b1p e)(hs:s.noRef):b1p ((i,⟨v,c,s⟩)::e):=by
 intro j
 rw[a7c]
 split
 ·exact hs
 ·exact he j
theorem Rel.forget(hrel:Rel A P C B e a w Z F X):Rel A P C B [] a w Z (fun _=>[]) X :=
 { hrel with own:=fun i=>rfl,ref:=fun i=>trivial,nodup:=fun i=>List.nodup_nil,disj:=fun i j b hb=>by simp at hb,notZ:=fun i b hb=>by simp at hb,fb:=fun i b hb=>by simp at hb,fnew:=fun i b hb=>by simp at hb,xdisj:=fun i b hb=>by simp at hb }
theorem Rel.consTop(he:b1p e){f:List Nat}(hrel:Rel A P C B e a w Z F (f++X)){i v c:Nat}{s:SV}(own:Own A P Z w.heap s (a.tm i) f)(hs:s.noRef):Rel A P C B ((i,⟨v,c,s⟩)::e) a w Z (setF F i f) X:=by
 obtain⟨n1,n2,n3⟩:=List.nodup_append.1 hrel.xnodup
 have hF:∀j b,b∈setF F i f j→(j=i∧b∈f)∨(j≠i∧b∈F j):=by
  intro j b hb
  unfold setF at hb
  split at hb
  ·exact .inl ⟨‹_›,hb⟩
  ·exact .inr ⟨‹_›,hb⟩
 refine { hrel with own:=fun j=>?_,ref:=fun j=>?_,nodup:=fun j=>?_,disj:=fun j k b hj hk=>?_,notZ:=fun j b hb=>?_,fb:=fun j b hb=>?_,fnew:=fun j b hb=>?_,xnodup:=n2,xdisj:=fun j b hb=>?_,xnotZ:=fun b hb=>hrel.xnotZ b (List.mem_append_right _ hb),xb:=fun b hb=>hrel.xb b (List.mem_append_right _ hb),xnew:=fun b hb=>hrel.xnew b (List.mem_append_right _ hb) }
 ·rw[a7c]
  unfold setF
  by_cases hj:i=j
  ·subst hj;simpa using own
  ·rw[if_neg hj,if_neg (Ne.symm hj)];exact hrel.own j
 ·exact b8w (a4k he hs j)
 ·unfold setF;split
  ·exact n1
  ·exact hrel.nodup j
 ·rcases hF j b hj with⟨rfl,h1⟩|⟨h0,h1⟩ <;> rcases hF k b hk with⟨rfl,h2⟩|⟨h3,h2⟩
  ·rfl
  ·exact absurd (List.mem_append_left _ h1) (hrel.xdisj k b h2)
  ·exact absurd (List.mem_append_left _ h2) (hrel.xdisj j b h1)
  ·exact hrel.disj j k b h1 h2
 ·rcases hF j b hb with⟨rfl,h1⟩|⟨h0,h1⟩
  ·exact hrel.xnotZ b (List.mem_append_left _ h1)
  ·exact hrel.notZ j b h1
 ·rcases hF j b hb with⟨rfl,h1⟩|⟨h0,h1⟩
  ·exact hrel.xb b (List.mem_append_left _ h1)
  ·exact hrel.fb j b h1
 ·rcases hF j b hb with⟨rfl,h1⟩|⟨h0,h1⟩
  ·exact hrel.xnew b (List.mem_append_left _ h1)
  ·exact hrel.fnew j b h1
 ·rcases hF j b hb with⟨rfl,h1⟩|⟨h0,h1⟩
  ·intro hx;exact n3 b h1 b hx rfl
  ·intro hx;exact hrel.xdisj j b h1 (List.mem_append_right _ hx)
theorem Rel.bring{f:List Nat}(hrel:Rel A P C B e a w Z F (f++X)){i:Nat}{s:SV}(own:Own A P Z w.heap s (a.tm i) f)(hs:s.noRef):Rel A P C B (e.app [⟨i,.slot,s⟩]) a w Z (setF F i f) X:=by
 refine hrel.root (w':=w) (bp:=.slot) rfl rfl rfl rfl (fun _ _ _=>rfl) (fun b=>id) (fun b=>.inl) own hrel.xnodup (fun b hb=>.inr hb) hrel.xnotZ (b8w hs) fun j hj=>?_
 refine a5h (F:=F) hrel.own (hrel.ref j) (fun _ _ _ _ _ _=>rfl) fun p=>?_
 rw[a0g]
 by_cases hp:p=i
 ·subst hp;right;simp[Ent.bump]
 ·left;rw[if_neg (Ne.symm hp)];exact⟨rfl,rfl,fun _ _=>rfl⟩
theorem Rel.permX(hrel:Rel A P C B e a w Z F X){X':List Nat}(hp:X.Perm X'):Rel A P C B e a w Z F X' :=
 { hrel with xnodup:=hp.nodup_iff.1 hrel.xnodup,xdisj:=fun i b hb hx=>hrel.xdisj i b hb (hp.mem_iff.2 hx),xnotZ:=fun b hb=>hrel.xnotZ b (hp.mem_iff.2 hb),xb:=fun b hb=>hrel.xb b (hp.mem_iff.2 hb),xnew:=fun b hb=>hrel.xnew b (hp.mem_iff.2 hb) }
def a9y(B:Base)(a:Act)(l:List Nat):Nat→Option Value:=fun i=>if i∈l then some (a.tm i) else B.fix i
theorem d9c{l:List Nat}(hf:∀i v,B.fix i=some v→a.tm i=v)(i:Nat)(v:Value)(hv:a9y B a l i=some v):a.tm i=v:=by
 unfold a9y at hv
 split at hv
 ·exact Option.some.inj hv
 ·exact hf i v hv
theorem Rel.start(hrel:Rel A P C B e a w Z F X){l:List Nat}{fp0:Nat→Prop}(hF:∀i b,b∈F i→fp0 b)(hX:∀b,b∈X→fp0 b):Rel A P C ⟨Z,w,fp0,a9y B a l⟩ e a w Z F X :=
 { hrel with fnew:=fun i b hb=>.inl (hF i b hb),xnew:=fun b hb=>.inl (hX b hb),z:=fun b=>id,znew:=fun b=>.inl,hs:=Nat.le_refl _,keep:=fun _ _ _=>rfl,os:=rfl,out:=rfl,tape:=rfl,fix:=d9c hrel.fix }
theorem Rel.back(hout:Rel A P C B e a w Z F X){l fr:List Nat}{fp0:Nat→Prop}(hfp:∀b,fp0 b→b∈X∨∃i,i∉fr∧b∈F i){F':Nat→List Nat}{X' Y:List Nat}
  (hin:Rel A P C ⟨Z,w,fp0,a9y B a l⟩ e' a' w' Z' F' X') (hY:∀b,b∈Y→∃i,i∈fr∧b∈F i) (hYn:Y.Nodup) :
  Rel A P C B e' a' w' Z' F' (X'++Y)∧(∀b,b∈Y→w'.heap[b]?=w.heap[b]?):=by
 have hfo:∀b,fp0 b→B.fp0 b∨B.w0.heap.size≤b:=fun b hb=>by
  rcases hfp b hb with h|⟨i,_,h⟩
  ·exact hout.xnew b h
  ·exact hout.fnew i b h
 have hnew:∀b,fp0 b∨w.heap.size≤b→B.fp0 b∨B.w0.heap.size≤b:=fun b hb=>by
  rcases hb with h|h
  ·exact hfo b h
  ·exact .inr (Nat.le_trans hout.hs h)
 have hYf:∀b,b∈Y→¬fp0 b:=fun b hb hf=>by
  obtain⟨i,h1,h2⟩:=hY b hb
  rcases hfp b hf with h|⟨j,h3,h4⟩
  ·exact hout.xdisj i b h2 h
  ·exact h3 (hout.disj i j b h2 h4 ▸ h1)
 have hYb:∀b,b∈Y→b<w.heap.size:=fun b hb=>by
  obtain⟨i,h1,h2⟩:=hY b hb
  exact hout.fb i b h2
 have hYz:∀b,b∈Y→¬Z b:=fun b hb=>by
  obtain⟨i,h1,h2⟩:=hY b hb
  exact hout.notZ i b h2
 have hYnew:∀b,b∈Y→¬(fp0 b∨w.heap.size≤b):=fun b hb h=>by
  rcases h with h|h
  ·exact hYf b hb h
  ·have:=hYb b hb;omega
 refine⟨⟨hin.own,hin.ref,hin.nodup,hin.disj,hin.notZ,hin.fb,fun i b hb=>hnew b (hin.fnew i b hb),?_,fun i b hb hx=>?_,fun b hb=>?_,fun b hb=>?_,fun b hb=>?_,hin.zb,fun b hb=>hin.z b (hout.z b hb),fun b hb=>?_,Nat.le_trans hout.hs hin.hs,fun b hb hn=>?_,
  hin.os.trans hout.os,hin.out.trans hout.out,hin.tape.trans hout.tape,hin.defs,hin.nt,hin.glob,fun i v hv=>?_⟩,fun b hb=>hin.keep b (hYb b hb) (hYf b hb)⟩
 ·exact List.nodup_append.2 ⟨hin.xnodup,hYn,fun b hb b' hb' hbb=>by subst hbb;exact hYnew b hb' (hin.xnew b hb)⟩
 ·rcases List.mem_append.1 hx with h|h
  ·exact hin.xdisj i b hb h
  ·exact hYnew b h (hin.fnew i b hb)
 ·rcases List.mem_append.1 hb with h|h
  ·exact hin.xnotZ b h
  ·intro hz
   rcases hin.znew b hz with h1|h1
   ·exact hYz b h h1
   ·exact hYnew b h h1
 ·rcases List.mem_append.1 hb with h|h
  ·exact hin.xb b h
  ·exact Nat.lt_of_lt_of_le (hYb b h) hin.hs
 ·rcases List.mem_append.1 hb with h|h
  ·exact hnew b (hin.xnew b h)
  ·obtain⟨i,h1,h2⟩:=hY b h
   exact hout.fnew i b h2
 ·rcases hin.znew b hb with h1|h1
  ·exact hout.znew b h1
  ·exact .inr (hnew b h1)
 ·have hnf:¬fp0 b:=fun h=>by
   rcases hfo b h with h1|h1
   ·exact hn h1
   ·omega
  rw[hin.keep b (Nat.lt_of_lt_of_le hb hout.hs) hnf]
  exact hout.keep b hb hn
 ·have h1:=hout.fix i v hv
  have h2:a9y B a l i=some v:=by
   unfold a9y
   split
   ·rw[h1]
   ·exact hv
  exact hin.fix i v h2
theorem d4w{s:SV}{v:Value}{fp:List Nat}(ho:Own A P Z h s v fp):Own A P Z h (b9n s) v []:=by
 unfold b9n
 split
 ·rename_i t x
  split
  ·rename_i hp
   obtain⟨cs,h1,h2⟩:=ho
   obtain rfl:=a0x h2 hp
   exact⟨cs,h1,h2⟩
  ·exact rfl
 ·have h1:=ho.1;subst h1;exact ho
 ·have h1:=ho.1;subst h1;exact ho
 ·have h1:=ho.1;subst h1;exact ho
 ·have h1:=ho.1;subst h1;exact ho
 ·have h1:=ho.1;subst h1;exact ho
 ·have h1:=ho.1;subst h1;exact ho
 ·exact rfl
theorem c0i(s:SV):(b9n s).noRef:=by
 unfold b9n;repeat' split
 all_goals trivial
theorem e3c{s:SV}{v:Value}{fp:List Nat}(ho:Own A P Z h s v fp):∃fp',fp' ⊆ fp∧(fp.Nodup→fp'.Nodup)∧Own A P Z h (ownK s) v fp':=by
 unfold ownK
 split
 ·exact⟨fp,fun _=>id,id,ho⟩
 ·exact⟨fp,fun _=>id,id,ho⟩
 ·exact⟨[],by simp,fun _=>List.nodup_nil,rfl⟩
theorem b7w(s:SV):(ownK s).noRef:=by
 unfold ownK;split <;> trivial
theorem a2s(hfix:b5g C B):∀(l:List Nat) {e:En} {Z:Nat→Prop} {F:Nat→List Nat} {k:En→Option R} {res:R},Rel A P C B e a w Z F X→b4j e l k=some res→∃e1 Z1 F1,k e1=some res∧Rel A P C B e1 a w Z1 F1 X
 |[],e,Z,F,k,res,hrel,hk=>⟨e,Z,F,hk,hrel⟩
 |i::l,e,Z,F,k,res,hrel,hk=>by
  unfold b4j at hk
  split at hk
  ·rename_i t x hi
   split at hk
   ·exact a2s hfix l hrel hk
   ·obtain⟨hl,y,hy,hk⟩:=a1o hk
    have ho:=hrel.own i
    rw[hi] at ho
    obtain⟨cs,g1,g2⟩:=ho
    have hR:RootIs (e.get i).s t x:=by rw[hi];exact .val t x
    have hw:(e.get i).s.with t.imm y=.val t.imm y:=by rw[hi];rfl
    have hr2:Rel A P C B (e.app [⟨i,.no,.val t.imm y⟩]) a w (fun b=>Z b∨b∈F i) (setF F i (addB none [])) X:=by
     rw[←hw]
     refine b2q (cs1:=cs) (fp':=F i) hrel hR (by rw[hi];exact⟨g1,rfl⟩) (.inl ⟨rfl,rfl⟩) (b6f t) rfl (a3n hl (b4e t) hy g2) (by simpa using hrel.xnodup) (fun b hb=>.inr (by simpa using hb)) (fun b=>.inl)
      (fun b hb=>hb.imp id .inl) ?_ rfl rfl rfl rfl (fun _ _ _=>rfl) fun j hj=>d0g hrel.own hR (b7z hl) (hrel.ref j)
     intro b hb hzz
     have hb':b∈X:=by simpa using hb
     exact hzz.elim (hrel.xnotZ b hb') fun h=>hrel.xdisj i b h hb'
    exact a2s hfix l hr2 hk
  ·rename_i t x hi
   obtain⟨hl,y,hy,hk⟩:=a1o hk
   exact a2s hfix l (hrel.frzBox hi hl hy (b4e t)).1 hk
  ·exact a2s hfix l hrel hk
  ·exact a2s hfix l hrel hk
  ·exact a2s hfix l hrel hk
  ·exact a2s hfix l hrel hk
  ·exact a2s hfix l hrel hk
  ·exact a2s hfix l hrel hk
  ·rename_i p v c hi
   obtain⟨t0,x0,h1,h2,h3,hk⟩:=a4x hk
   have href:=hrel.ref i
   rw[hi] at href
   have hat:=href.2.2 h2 h3
   obtain⟨cs,base,fp',t1,cs0,ad,x1,fs,fr,g1,g2,g3,g4,g5,g6,g7,g8⟩:=b1a (hrel.own p.root) h1 hat hk
   rw[g6] at hk
   split at hk
   ·rename_i hp
    obtain rfl:=a0x g8 hp
    refine a2s hfix l (F:=setF F i []) (Z:=Z) ?_ hk
    refine hrel.root (w':=w) rfl rfl rfl rfl (fun _ _ _=>rfl) (fun b=>id) (fun b=>.inl) ⟨cs0,g5.1,g8⟩ (by simpa using hrel.xnodup) (fun b hb=>.inr (by simpa using hb)) (fun b hb=>hrel.xnotZ b (by simpa using hb)) trivial ?_
    intro j hj
    refine a5h (F:=F) hrel.own (hrel.ref j) (fun _ _ _ _ _ _=>rfl) fun q=>?_
    rw[a0g]
    by_cases hq:i=q
    ·subst hq;right;simp[Ent.bump]
    ·left;rw[if_neg hq];exact⟨rfl,rfl,fun _ _=>rfl⟩
   ·simp at hk
  ·simp at hk
def d8y(A:Amb)(P:Program)(Z:Nat→Prop)(h:Array Obj)(a:Act):(l:List (Nat×LH))→c4d l→List Nat→Prop
 |[],_,fp=>fp=[]
 |[(i,k)],x,fp=>Own A P Z h (lhSV k x) (a.tm i) fp
 |(i,k)::h'::l,x,fp=>∃f1 f2,Own A P Z h (lhSV k x.1) (a.tm i) f1∧d8y A P Z h a (h'::l) x.2 f2∧fp=f1++f2
theorem b4i(hft:FtOK A P C)(hrel:Rel A P C B e a w Z F X){i:Nat}{hd:LH}{k:hd.den→List Up→Option R}{res:R}(hk:b9d C e i hd k=some res) :
  ∃y us Z1 F1 f,k y us=some res∧Rel A P C B (e.app us) a w Z1 F1 (f++X)∧(∀b,Z b→Z1 b)∧Own A P Z1 w.heap (lhSV hd y) (a.tm i) f:=by
 cases hd with
 |val t =>
  obtain⟨y,us,hk,⟨⟨Z1,F1,fs,cs,g1,g2,g3,g4⟩,_⟩⟩:=a5e hft hrel Sub.refl (o:=.tmp i) (t:=t) (k:=k) hk
  exact⟨y,us,Z1,F1,fs,hk,g1,g2,cs,g3,g4⟩
 |box t =>
  unfold b9d at hk
  dsimp only at hk
  split at hk
  ·rename_i t' x hi
   obtain⟨hl,y,hy,hk⟩:=a1o hk
   have ho:=hrel.own i
   rw[hi] at ho
   obtain⟨b,c,fp',h1,h2,h3,h4⟩:=ho
   obtain⟨f1,fz,q1,q2⟩:=b0h hl hy h4
   have hd:=hrel.drop i
   have hX:(F i++X).Perm ((b::f1++X)++fz):=by
    rw[h3]
    refine List.Perm.cons b ?_
    show(fp'++X).Perm ((f1++X)++fz)
    refine(List.Perm.append_right X q1).trans ?_
    rw[List.append_assoc,List.append_assoc]
    exact List.Perm.append_left f1 List.perm_append_comm
   refine⟨y,_,_,_,b::f1,hk,hd.frzX hX,fun b=>.inl,b,c,f1,h1,h2,rfl,q2 _ (fun b=>.inl) fun b hb=>.inr hb⟩
  ·simp at hk
 |pv t =>
  unfold b9d at hk
  dsimp only at hk
  split at hk
  ·rename_i hp
   split at hk
   ·rename_i t' x hi
    obtain⟨hl,y,hy,hk⟩:=a1o hk
    have ho:=hrel.own i
    rw[hi] at ho
    obtain⟨_,ad,cs,h1,h2,h3,h4⟩:=ho
    exact⟨y,[],Z,F,[],hk,hrel,fun b=>id,rfl,ad,cs,h1,h2,by rw[←b5f hl];exact h3,a0e (a3n hl hp hy h4) (fun b hb=>by simpa using hb) fun _ _=>rfl⟩
   ·rename_i t' x hi
    obtain⟨hl,y,hy,hk⟩:=a1o hk
    obtain⟨h1,h2⟩:=hrel.frzBox hi hl hy hp
    exact⟨y,_,_,_,[],hk,h1,fun b=>.inl,h2⟩
   ·simp at hk
  ·simp at hk
theorem b0f(hft:FtOK A P C):∀(l:List (Nat×LH)) {e:En} {Z:Nat→Prop} {F:Nat→List Nat} {X:List Nat} {k:c4d l→En→Option R} {res:R},Rel A P C B e a w Z F X→c6i C e l k=some res →
  ∃y e' Z1 F1 f,k y e'=some res∧Rel A P C B e' a w Z1 F1 (f++X)∧(∀b,Z b→Z1 b)∧d8y A P Z1 w.heap a l y f
 |[],e,Z,F,X,k,res,hrel,hk=>⟨(),e,Z,F,[],hk,hrel,fun b=>id,rfl⟩
 |[(i,hd)],e,Z,F,X,k,res,hrel,hk=>by
  unfold c6i at hk
  obtain⟨y,us,Z1,F1,f,hk,g1,g2,g3⟩:=b4i hft hrel hk
  exact⟨y,_,Z1,F1,f,hk,g1,g2,g3⟩
 |(i,hd)::h'::l,e,Z,F,X,k,res,hrel,hk=>by
  unfold c6i at hk
  obtain⟨y,us,Z1,F1,f,hk,g1,g2,g3⟩:=b4i hft hrel hk
  obtain⟨z,e',Z2,F2,f2,hk,k1,k2,k3⟩:=b0f hft (h'::l) g1 hk
  refine⟨(y,z),e',Z2,F2,f++f2,hk,k1.permX ?_,fun b hb=>k2 b (g2 b hb),f,f2,a9m g3 k2 fun _ _=>rfl,k3,rfl⟩
  rw[←List.append_assoc]
  exact List.Perm.append_right X List.perm_append_comm
theorem b7n{hd:LH}{x:hd.den}:(lhSV hd x).noRef:=by cases hd <;> trivial
theorem b0r:∀(l:List (Nat×LH)) {e:En} {F:Nat→List Nat} {X:List Nat} {x:c4d l} {f:List Nat},b1p e→Rel A P C B e a w Z F (f++X)→d8y A P Z w.heap a l x f→∃F',Rel A P C B (unpack l x e) a w Z F' X∧b1p (unpack l x e)
 |[],e,F,X,x,f,he,hrel,hx=>by
  obtain rfl:f=[]:=hx
  exact⟨F,hrel,he⟩
 |[(i,hd)],e,F,X,x,f,he,hrel,hx=>⟨_,hrel.consTop he hx b7n,a4k he b7n⟩
 |(i,hd)::h'::l,e,F,X,x,f,he,hrel,hx=>by
  obtain⟨f1,f2,h1,h2,rfl⟩:=hx
  obtain⟨F',h3,h4⟩:=b0r (h'::l) (X:=f1++X) he (hrel.permX (by
   rw[←List.append_assoc]
   exact List.Perm.append_right X List.perm_append_comm)) h2
  exact⟨_,h3.consTop h4 h1 b7n,a4k h4 b7n⟩
theorem b5k{e0:En}:∀(l:List Nat) {e:En} {F:Nat→List Nat},b1p e→Rel A P C B e a w Z F X→(∀i,i∈l→Own A P Z w.heap (b9n (e0.get i).s) (a.tm i) [])→∃F',Rel A P C B (c7j e0 l e) a w Z F' X∧b1p (c7j e0 l e)
 |[],e,F,he,hrel,_=>⟨F,hrel,he⟩
 |i::l,e,F,he,hrel,ho=>by
  obtain⟨F',h1,h2⟩:=b5k l he hrel fun j hj=>ho j (by simp[hj])
  exact⟨_,Rel.consTop (f:=[]) h2 h1 (ho i (by simp)) (c0i _),a4k h2 (c0i _)⟩
def frB(G:Nat→List Nat)(l:List Nat):List Nat:=(l.map G).flatten
theorem b7y{e0:En}{G:Nat→List Nat}:∀(l:List Nat) {e:En} {F:Nat→List Nat} {X:List Nat},b1p e→Rel A P C B e a w Z F (frB G l++X)→(∀i,i∈l→Own A P Z w.heap (ownK (e0.get i).s) (a.tm i) (G i))→∃F',Rel A P C B (d0v e0 l e) a w Z F' X∧b1p (d0v e0 l e)
 |[],e,F,X,he,hrel,_=>⟨F,hrel,he⟩
 |i::l,e,F,X,he,hrel,ho=>by
  obtain⟨F',h1,h2⟩:=b7y l (X:=G i++X) he (hrel.permX (by
   show((G i++frB G l)++X).Perm _
   rw[←List.append_assoc]
   exact List.Perm.append_right X List.perm_append_comm)) fun j hj=>ho j (by simp[hj])
  exact⟨_,h1.consTop h2 (ho i (by simp)) (b7w _),a4k h2 (b7w _)⟩
theorem b6r{e0:En}{G:Nat→List Nat}:∀(l:List Nat) {e:En} {F:Nat→List Nat},Rel A P C B e a w Z F (frB G l++X)→(∀i,i∈l→Own A P Z w.heap (ownK (e0.get i).s) (a.tm i) (G i))→∃F',Rel A P C B (e.app (c1b e0 l)) a w Z F' X
 |[],e,F,hrel,_=>⟨F,hrel⟩
 |i::l,e,F,hrel,ho=>by
  have h1:=Rel.bring (f:=G i) (X:=frB G l++X) (i:=i) (by rw[←List.append_assoc];exact hrel) (ho i (by simp)) (b7w _)
  exact b6r l h1 fun j hj=>ho j (by simp[hj])
theorem c1i:∀(l:List Nat) {e:En} {F:Nat→List Nat} {X:List Nat},Rel A P C B e a w Z F X→∃F' X',Rel A P C B (e.app (e4d l)) a w Z F' X'∧(∀i b,b∈F' i→i∉l∧b∈F i)
 |[],e,F,X,hrel=>⟨F,X,hrel,fun i b hb=>⟨by simp,hb⟩⟩
 |i::l,e,F,X,hrel=>by
  obtain⟨F',X',h1,h2⟩:=c1i l (hrel.drop i)
  refine⟨F',X',h1,fun j b hb=>?_⟩
  obtain⟨h3,h4⟩:=h2 j b hb
  unfold setF at h4
  split at h4
  ·simp at h4
  ·rename_i hne
   exact⟨by simp[hne,h3],h4⟩
end Go.Rb

namespace Go.Rb
variable {A:Amb} {P:Program} {Z Z':Nat→Prop} {h h':Array Obj} {R:Type} {C C':Ctx} {B:Base} {e e':En} {a a':Act} {w w':World} {F F0:Nat→List Nat} {X X0:List Nat} {r:Nat→Ent} {o:Oper}
theorem Rel.dropX(hrel:Rel A P C B e a w Z F X):Rel A P C B e a w Z F [] :=
 { hrel with xnodup:=List.nodup_nil,xdisj:=fun _ _ _=>by simp,xnotZ:=by simp,xb:=by simp,xnew:=by simp }
theorem c4k{G:Nat→List Nat}(hrel:Rel A P C B e a w Z F X)(hs:∀i,G i ⊆ F i)(hn:∀i,(G i).Nodup):∀{l:List Nat},b8p l=true→(frB G l).Nodup
 |[],_=>List.nodup_nil
 |i::l,hl=>by
  simp only[b8p,Bool.and_eq_true,Bool.not_eq_true',List.contains_eq_mem,decide_eq_false_iff_not] at hl
  refine List.nodup_append.2 ⟨hn i,c4k hrel hs hn hl.2,fun b hb b' hb' hbb=>?_⟩
  subst hbb
  obtain⟨j,h1,h2⟩:=a2k.1 hb'
  exact hl.1 (hrel.disj i j b (hs i hb) (hs j h2) ▸ h1)
theorem b8g{e0:En}(hout:Rel A P C B e0 a w Z F X){keep fr:List Nat}(hfr:b8p fr=true){fp0:Nat→Prop}(hfp:∀b,fp0 b→b∈X∨∃i,i∉fr∧b∈F i){F':Nat→List Nat}{X':List Nat}
  (hin:Rel A P C ⟨Z,w,fp0,a9y B a (keep++fr)⟩ e' a' w' Z' F' X') :
  ∃G,Rel A P C B e' a' w' Z' F' (X'++frB G fr)∧(∀i,i∈fr→Own A P Z' w'.heap (ownK (e0.get i).s) (a'.tm i) (G i))∧∀i,i∈keep→Own A P Z' w'.heap (b9n (e0.get i).s) (a'.tm i) []:=by
 have hch:∀i,∃fp',fp' ⊆ F i∧fp'.Nodup∧Own A P Z w.heap (ownK (e0.get i).s) (a.tm i) fp':=fun i=>by
  obtain⟨fp',h1,h2,h3⟩:=e3c (hout.own i)
  exact⟨fp',h1,h2 (hout.nodup i),h3⟩
 have hG:∃G:Nat→List Nat,∀i,G i ⊆ F i∧(G i).Nodup∧Own A P Z w.heap (ownK (e0.get i).s) (a.tm i) (G i):=⟨fun i=>Classical.choose (hch i),fun i=>Classical.choose_spec (hch i)⟩
 obtain⟨G,hG⟩:=hG
 have hY:∀b,b∈frB G fr→∃i,i∈fr∧b∈F i:=fun b hb=>by
  obtain⟨i,h1,h2⟩:=a2k.1 hb
  exact⟨i,h1,(hG i).1 h2⟩
 obtain⟨h1,h2⟩:=hout.back hfp hin hY (c4k hout (fun i=>(hG i).1) (fun i=>(hG i).2.1) hfr)
 have htm:∀i,i∈keep++fr→a'.tm i=a.tm i:=fun i hi=>hin.fix i _ (by show a9y B a (keep++fr) i=_;unfold a9y;rw[if_pos hi])
 have hZh:∀b,Z b→w'.heap[b]?=w.heap[b]?:=fun b hb=>hin.keep b (hout.zb b hb) fun hf=>by
  rcases hfp b hf with h|⟨i,_,h⟩
  ·exact hout.xnotZ b h hb
  ·exact hout.notZ i b h hb
 refine⟨G,h1,fun i hi=>?_,fun i hi=>?_⟩
 ·rw[htm i (List.mem_append_right _ hi)]
  exact a9m (hG i).2.2 hin.z fun b hb=>hb.elim (hZh b) fun hb=>h2 b (a2k.2 ⟨i,hi,hb⟩)
 ·rw[htm i (List.mem_append_left _ hi)]
  exact a9m (d4w (hout.own i)) hin.z fun b hb=>hb.elim (hZh b) (by simp)
structure KOK (A:Amb) (P:Program) (C:Ctx) (B:Base) (ks:Ks R) (Q:Exit→Act→World→Prop) (res:R):Prop where
 norm:∀e a w Z F,ks.norm e=some res→Rel A P C B e a w Z F []→Q .normal a w
 ret:∀e a w Z F,ks.ret e=some res→Rel A P C B e a w Z F []→Q .ret a w
 exits:∀id k,a7d ks.exits id=some k→∀e a w Z F,k e=some res→Rel A P C B e a w Z F []→Q (.exit id) a w
theorem b7a{fr:List Up}:∀{l:List (Nat×(En→Option R))} {id:Nat} {k:En→Option R},a7d (l.map fun x=>(x.1,fun e=>x.2 (e.app fr))) id=some k→∃k0,a7d l id=some k0∧k=fun e=>k0 (e.app fr)
 |[],id,k,hk=>by simp[a7d] at hk
 |(j,k0)::l,id,k,hk=>by
  simp only[List.map_cons,a7d] at hk ⊢
  cases hb:Nat.beq j id with
  |true =>
   rw[hb] at hk
   exact⟨k0,rfl,(Option.some.inj hk).symm⟩
  |false =>
   rw[hb] at hk
   exact b7a hk
theorem b8d(hfix:b5g C B){l:List Nat}{Z:Nat→Prop}{w:World}{fp0:Nat→Prop}:b5g (C.guardS l) ⟨Z,w,fp0,a9y B a l⟩:=by
 intro i v hv
 show i∈l++C.prot
 have hv':a9y B a l i=some v:=hv
 unfold a9y at hv'
 split at hv'
 ·exact List.mem_append_left _ ‹_›
 ·exact List.mem_append_right _ (hfix i v hv')
theorem c1t{e0:En}(hout:Rel A P C B e0 a w Z F X){keep fr:List Nat}(hfr:b8p fr=true){fp0:Nat→Prop}(hfp:∀b,fp0 b→b∈X∨∃i,i∉fr∧b∈F i){ks:Ks R}{Q Q':Exit→Act→World→Prop}{res:R}
  (hk:KOK A P C B ks Q res) (hret:Q' .ret=Q .ret) (hex:∀id,Q' (.exit id)=Q (.exit id)) {norm:En→Option R}
  (hn:∀e1 a1 w1 Z1 F1,norm e1=some res→Rel A P C ⟨Z,w,fp0,a9y B a (keep++fr)⟩ e1 a1 w1 Z1 F1 []→Q' .normal a1 w1) :
  KOK A P (C.guardS (keep++fr)) ⟨Z,w,fp0,a9y B a (keep++fr)⟩ (ks.framed (c1b e0 fr) norm) Q' res:=by
 have hleave:∀{k0:En→Option R} {e1:En} {a1:Act} {w1:World} {Z1:Nat→Prop} {F1:Nat→List Nat} {Q1:Act→World→Prop},(∀e a w Z F,k0 e=some res→Rel A P C B e a w Z F []→Q1 a w)→k0 (e1.app (c1b e0 fr))=some res →
   Rel A P (C.guardS (keep++fr)) ⟨Z,w,fp0,a9y B a (keep++fr)⟩ e1 a1 w1 Z1 F1 []→Q1 a1 w1:=by
  intro k0 e1 a1 w1 Z1 F1 Q1 hq hk0 hr
  obtain⟨G,h1,h2,_⟩:=b8g hout hfr hfp (hr.ctx (C':=C) rfl rfl)
  obtain⟨F2,h3⟩:=b6r fr (X:=[]) (by simpa using h1) h2
  exact hq _ _ _ _ _ hk0 h3
 refine⟨fun e1 a1 w1 Z1 F1 h1 h2=>hn e1 a1 w1 Z1 F1 h1 (h2.ctx rfl rfl),fun e1 a1 w1 Z1 F1 h1 h2=>?_,fun id k hf e1 a1 w1 Z1 F1 h1 h2=>?_⟩
 ·rw[hret]
  exact hleave hk.ret h1 h2
 ·obtain⟨k0,g1,rfl⟩:=b7a hf
  rw[hex]
  exact hleave (hk.exits id k0 g1) h1 h2
theorem b5d:b1p []:=fun _=>trivial
theorem d3i(hmix:P.follows .mixedOrders=true){H:Hints}{n:Nat}:∀(c:Code) {C:Ctx} {B:Base} {e:En} {a:Act} {w:World} {Z:Nat→Prop} {F:Nat→List Nat} {ks:Ks R} {Q:Exit→Act→World→Prop} {res:R},
  a2d P C→FtOK A P C→b5g C B→Rel A P C B e a w Z F []→KOK A P C B ks Q res→exec C H n c e ks=some res→c.wp P Q a w:=by
 intro c
 induction c with
 |skip=>intro C B e a w Z F ks Q res htab hft hfix hrel hks hk;exact wp_skip (hks.norm e a w Z F hk hrel)
 |ret=>intro C B e a w Z F ks Q res htab hft hfix hrel hks hk;exact wp_ret (hks.ret e a w Z F hk hrel)
 |region id ops draw =>
  intro C B e a w Z F ks Q res htab hft hfix hrel hks hk
  unfold exec at hk
  cases draw with
  |true=>exact d2s hmix htab hft hfix hrel hk fun e a w Z F h1 h2=>hks.norm e a w Z F h1 h2
  |false =>
   refine wp_region ?_
   have:=b6s htab hft hfix (ops:=ops) (Q:=Q) (fun e a w Z F h1 h2=>hks.norm e a w Z F h1 h2) ops.toList 0 e a w Z F rfl hrel hk
   rw[List.range_eq_range']
   simpa using this
 |seq x y ihx ihy =>
  intro C B e a w Z F ks Q res htab hft hfix hrel hks hk
  unfold exec at hk
  refine wp_seq ?_
  split at hk
  ·exact ihx (ks:={ ks with norm:=fun e'=>exec C H n y e' ks }) (Q:=Exit.then (y.wp P Q) Q) htab hft hfix hrel ⟨fun e1 a1 w1 Z1 F1 h1 h2=>ihy htab hft hfix h2 hks h1,hks.ret,hks.exits⟩ hk
  ·rename_i hh _
   split at hk
   ·rename_i hfr
    obtain⟨e1,Z1,F1,hk,h1⟩:=a2s hfix hh.keep hrel hk
    unfold b7d at hk
    obtain⟨F2,X2,h2,h3⟩:=c1i hh.frame h1
    have h4:=(h2.dropX.start (l:=hh.keep++hh.frame) (fp0:=fun b=>∃i,b∈F2 i) (fun i b hb=>⟨i,hb⟩) (by simp)).ctx (C':=C.guardS (hh.keep++hh.frame)) rfl rfl
    have hfp:∀b,(∃i,b∈F2 i)→b∈([]:List Nat)∨∃i,i∉hh.frame∧b∈F1 i:=fun b ⟨i,hb⟩=>.inr ⟨i,h3 i b hb⟩
    refine ihx (C:=C.guardS (hh.keep++hh.frame)) (c4a (C:=C) rfl htab) (c7t (C:=C) rfl rfl hft) (b8d hfix) h4 (c1t (keep:=hh.keep) (Q':=Exit.then (y.wp P Q) Q) h1 hfr hfp hks rfl (fun _=>rfl) (fun e3 a3 w3 Z3 F3 g1 g2=>?_)) hk
    obtain⟨y1,e4,Z4,F4,f4,g3,g4,g5,g6⟩:=b0f hft hh.h g2 g1
    obtain⟨G,q1,q2,q3⟩:=b8g h1 hfr hfp g4
    have q4:=q1.permX (X':=frB G hh.frame++f4) (by
     rw[List.append_nil]
     exact List.perm_append_comm)
    obtain⟨F5,q5,q6⟩:=b7y hh.frame b5d q4.forget q2
    obtain⟨F6,q7,q8⟩:=b5k hh.keep q6 q5 q3
    obtain⟨F7,q9,_⟩:=b0r hh.h (X:=[]) (x:=y1) (f:=f4) q8 (by rw[List.append_nil];exact q7) g6
    exact ihy htab hft hfix q9 hks g3
   ·simp at hk
 |cond c x y ihx ihy =>
  intro C B e a w Z F ks Q res htab hft hfix hrel hks hk
  unfold exec at hk
  obtain⟨t,v,org,hk,hv⟩:=a0p hrel Sub.refl hk
  split at hk
  ·rename_i b
   obtain⟨cs,fp,h1,h2⟩:=a3o hrel hv
   obtain⟨_,rfl⟩:=h2
   have hb:a.eval c=.bool b:=a0r rfl h1
   refine wp_cond_split hb (fun ht=>?_) fun hf=>?_
   ·rw[if_pos ht] at hk
    obtain⟨F',h3⟩:=b4k hrel (b:=true) (by rw[←ht];exact hb)
    exact ihx htab hft hfix h3 hks hk
   ·rw[if_neg (by rw[hf];simp)] at hk
    obtain⟨F',h3⟩:=b4k hrel (b:=false) (by rw[←hf];exact hb)
    exact ihy htab hft hfix h3 hks hk
  ·simp at hk
 |block id c ih =>
  intro C B e a w Z F ks Q res htab hft hfix hrel hks hk
  unfold exec at hk
  refine wp_block (ih (ks:={ ks with exits:=(id,ks.norm)::ks.exits,cur:=id }) (Q:=Exit.inBlock id Q) htab hft hfix hrel ⟨hks.norm,hks.ret,fun id' k hf e1 a1 w1 Z1 F1 h1 h2=>?_⟩ hk)
  simp only[a7d] at hf
  cases hb:Nat.beq id id' with
  |true =>
   rw[hb] at hf
   obtain rfl:=Option.some.inj hf
   have:=a1c hb
   subst this
   show(if id=id then Q .normal a1 w1 else _)
   rw[if_pos rfl]
   exact hks.norm _ _ _ _ _ h1 h2
  |false =>
   rw[hb] at hf
   show(if id'=id then _ else Q (.exit id') a1 w1)
   rw[if_neg (Ne.symm (a6p hb))]
   exact hks.exits id' k hf _ _ _ _ _ h1 h2
 |exit id =>
  intro C B e a w Z F ks Q res htab hft hfix hrel hks hk
  unfold exec at hk
  split at hk
  ·rename_i k hf
   exact wp_exit (hks.exits id k hf e a w Z F hk hrel)
  ·simp at hk
 |loop c ih =>
  intro C B e a w Z F ks Q res htab hft hfix hrel hks hk
  unfold exec at hk
  split at hk
  ·rename_i m0 _
   have rounds:∀(m:Nat) (e:En) (a:Act) (w:World) (Z:Nat→Prop) (F:Nat→List Nat),a1x (fun rec e'=>exec C H n c e' { ks with norm:=rec }) m e=some res→Rel A P C B e a w Z F []→Code.rounds P c Q m a w:=by
    intro m
    induction m with
    |zero=>intro e a w Z F hi;simp[a1x] at hi
    |succ m ihm =>
     intro e a w Z F hi hr
     simp only[a1x] at hi
     rw[rounds_succ]
     exact ih (ks:={ ks with norm:=a1x (fun rec e'=>exec C H n c e' { ks with norm:=rec }) m }) (Q:=Exit.then (Code.rounds P c Q m) Q) htab hft hfix hr ⟨fun e1 a1 w1 Z1 F1 h1 h2=>ihm e1 a1 w1 Z1 F1 h1 h2,hks.ret,hks.exits⟩ hi
   exact wp_loop_rounds m0 (rounds m0 e a w Z F hk hrel)
  split at hk
  ·rename_i hh _
   split at hk
   ·rename_i hfr
    obtain⟨e1,Z1,F1,hk,h1⟩:=a2s hfix hh.keep hrel hk
    obtain⟨x0,e2,Z2,F2,f2,hk,h2,_,h3⟩:=b0f hft hh.h h1 hk
    rw[List.append_nil] at h2
    have hfp:∀b,b∈f2→b∈f2∨∃i,i∉hh.frame∧b∈F2 i:=fun b hb=>.inl hb
    have h4:Rel A P C ⟨Z2,w,fun b=>b∈f2,a9y B a (hh.keep++hh.frame)⟩ [] a w Z2 (fun _=>[]) f2:=h2.forget.start (fun i b hb=>by simp at hb) fun b=>id
    have head:∀{x:c4d hh.h} {e3:En} {a3:Act} {w3:World} {Z3:Nat→Prop} {F3:Nat→List Nat} {f3:List Nat},Rel A P C ⟨Z2,w,fun b=>b∈f2,a9y B a (hh.keep++hh.frame)⟩ e3 a3 w3 Z3 F3 f3→d8y A P Z3 w3.heap a3 hh.h x f3 →
      ∃F4,Rel A P (C.guardS (hh.keep++hh.frame)) ⟨Z2,w,fun b=>b∈f2,a9y B a (hh.keep++hh.frame)⟩ (unpack hh.h x (c7j e2 hh.keep [])) a3 w3 Z3 F4 []:=by
     intro x e3 a3 w3 Z3 F3 f3 g1 g2
     obtain⟨G,_,_,q3⟩:=b8g h2 hfr hfp g1
     obtain⟨F6,q7,q8⟩:=b5k hh.keep b5d g1.forget q3
     obtain⟨F7,q9,_⟩:=b0r hh.h (X:=[]) (x:=x) (f:=f3) q8 (by rw[List.append_nil];exact q7) g2
     exact⟨F7,q9.ctx rfl rfl⟩
    have rounds:∀(m:Nat) (x:c4d hh.h) (a3:Act) (w3:World) (Z3:Nat→Prop) (F3:Nat→List Nat),
      a1x (fun rec x=>exec (C.guardS (hh.keep++hh.frame)) H n c (unpack hh.h x (c7j e2 hh.keep [])) (ks.framed (c1b e2 hh.frame) fun e'=>c6i C e' hh.h fun y _=>rec y)) m x=some res →
      Rel A P (C.guardS (hh.keep++hh.frame)) ⟨Z2,w,fun b=>b∈f2,a9y B a (hh.keep++hh.frame)⟩ (unpack hh.h x (c7j e2 hh.keep [])) a3 w3 Z3 F3 []→Code.rounds P c Q m a3 w3:=by
     intro m
     induction m with
     |zero=>intro x a3 w3 Z3 F3 hi;simp[a1x] at hi
     |succ m ihm =>
      intro x a3 w3 Z3 F3 hi hr
      simp only[a1x] at hi
      rw[rounds_succ]
      refine ih (C:=C.guardS (hh.keep++hh.frame)) (c4a (C:=C) rfl htab) (c7t (C:=C) rfl rfl hft) (b8d hfix) hr (c1t (keep:=hh.keep) (Q':=Exit.then (Code.rounds P c Q m) Q) h2 hfr hfp hks rfl (fun _=>rfl) (fun e4 a4 w4 Z4 F4 g1 g2=>?_)) hi
      obtain⟨y1,e5,Z5,F5,f5,g3,g4,g5,g6⟩:=b0f hft hh.h g2 g1
      rw[List.append_nil] at g4
      obtain⟨F6,q1⟩:=head g4 g6
      exact ihm y1 a4 w4 Z5 F6 g3 q1
    obtain⟨F4,h5⟩:=head h4 h3
    exact wp_loop_rounds n (rounds n x0 a w Z2 F4 hk h5)
   ·simp at hk
  ·simp at hk
 |_=>intros;rename_i hk;simp[exec] at hk
end Go.Rb

namespace Go.Rb
variable {A:Amb} {P:Program} {Z Z':Nat→Prop} {h h':Array Obj} {R:Type} {C C':Ctx} {B:Base} {e e':En} {a a':Act} {w w':World} {F F0:Nat→List Nat} {X X0:List Nat} {r:Nat→Ent} {o:Oper}
def b8z(tmps:Array Value)(r:ResultVar):Sem Value :=
 match r with
 |.tmp t=>pure (tmps.getD t undef)
 |.cell a t=>do loadVar t (←asAddr (tmps.getD a undef))
def d0r(P:Program)(w:World)(tmps:Array Value):List ResultVar→List Value→Prop
 |[],vs=>vs=[]
 |r::rs,vs=>∃v vs',vs=v::vs'∧(b8z tmps r).run P w=.ok v w∧d0r P w tmps rs vs'
theorem d7b{tmps:Array Value}:∀{l:List ResultVar} {vs:List Value},d0r P w tmps l vs→(l.mapM (b8z tmps)).run P w=.ok vs w
 |[],vs,h=>by
  obtain rfl:vs=[]:=h
  rfl
 |r::l,vs,h=>by
  obtain⟨v,vs',rfl,h1,h2⟩:=h
  rw[List.mapM_cons]
  simp only[Sem.run_bind,h1,Result.andThen_ok,d7b h2]
  rfl
theorem b3h{fn:Func}{tmps:Array Value}{vs:List Value}(h:d0r P w tmps fn.results.toList vs):(results fn tmps).run P w=.ok (if hv:vs.toArray.size=1 then vs.toArray[0] else .tuple vs.toArray) w:=by
 have h1:(fn.results.mapM (b8z tmps)).run P w=.ok vs.toArray w:=by
  have:fn.results=fn.results.toList.toArray:=rfl
  rw[this,List.mapM_toArray]
  simp only[map_eq_pure_bind,Sem.run_bind,d7b h,Result.andThen_ok]
  rfl
 have h2:results fn tmps=(do let vs ←fn.results.mapM (b8z tmps);pure (if h:vs.size=1 then vs[0] else .tuple vs)):=by
  unfold results b8z
  rfl
 rw[h2]
 simp only[Sem.run_bind,h1,Result.andThen_ok]
 rfl
theorem b2m(htab:a2d P C)(hft:FtOK A P C):∀(rs:List RS) (vars:List ResultVar) {e:En} {Z:Nat→Prop} {F:Nat→List Nat} {X:List Nat} {k:a8b rs→En→Option R} {res:R},
  Rel A P C B e a w Z F X→rsOf C rs vars e k=some res →
  ∃y e' Z1 F1 f vs,k y e'=some res∧Rel A P C B e' a w Z1 F1 (f++X)∧(∀b,Z b→Z1 b)∧b7g A P Z1 w.heap rs vs y f∧d0r P w a.tmps vars vs
 |[],[],e,Z,F,X,k,res,hrel,hk=>⟨(),e,Z,F,[],[],hk,hrel,fun b=>id,⟨rfl,rfl⟩,rfl⟩
 |.val t::rs,.tmp i::vars,e,Z,F,X,k,res,hrel,hk=>by
  unfold rsOf at hk
  obtain⟨y,us,hk,⟨⟨Z1,F1,fs,cs,g1,g2,g3,g4⟩,_⟩⟩:=a5e hft hrel Sub.refl hk
  obtain⟨z,e',Z2,F2,f2,vs,hk,k1,k2,k3,k4⟩:=b2m htab hft rs vars g1 hk
  refine⟨(y,z),e',Z2,F2,fs++f2,a.tm i::vs,hk,k1.permX ?_,fun b hb=>k2 b (g2 b hb),⟨_,_,fs,f2,rfl,⟨cs,g3,a0e g4 k2 fun _ _=>rfl⟩,k3,rfl⟩,⟨_,_,rfl,rfl,k4⟩⟩
  rw[←List.append_assoc]
  exact List.Perm.append_right X List.perm_append_comm
 |.val t::rs,.cell i tt::vars,e,Z,F,X,k,res,hrel,hk=>by
  unfold rsOf at hk
  split at hk
  ·rename_i t' x hi
   split at hk
   ·rename_i hlay
    obtain⟨hl,y,hy,hk⟩:=a1o hk
    have ho:=hrel.own i
    rw[hi] at ho
    obtain⟨b,c,fp',h1,h2,h3,h4⟩:=ho
    obtain⟨f1,fz,q1,q2⟩:=b0h hl hy h4
    obtain⟨t1,ht1,him,hag⟩:=a8k hlay
    obtain⟨v,hv⟩:=b5b h4 hag
    have hrow:Row w.heap ⟨b,0,none⟩ t1.size c.toList:=by
     have hsz:t1.size=c.size:=by rw[a2r him,←a0z h4];simp
     have:=h2.row (n:=t1.size) (by omega)
     rwa [List.take_of_length_le (by simp;omega)] at this
    have hrun:(b8z a.tmps (.cell i tt)).run P w=.ok v w:=by
     have hld:=a3c (htab _ _ ht1) (w:=w) hrow (a5d him.symm hv)
     have htm:a.tmps.getD i undef=.pointer (some ⟨b,0,none⟩):=h1
     simp[b8z,htm,asAddr,hld]
    have hX:(F i++X).Perm ((f1++X)++(b::fz)):=by
     rw[h3]
     have h5:(fp'++X).Perm ((f1++X)++fz):=by
      refine(List.Perm.append_right X q1).trans ?_
      rw[List.append_assoc,List.append_assoc]
      exact List.Perm.append_left f1 List.perm_append_comm
     exact(List.Perm.cons b h5).trans List.perm_middle.symm
    have g1:=(hrel.drop i).frzX hX
    obtain⟨z,e',Z2,F2,f2,vs,hk,k1,k2,k3,k4⟩:=b2m htab hft rs vars g1 hk
    refine⟨(y,z),e',Z2,F2,f1++f2,v::vs,hk,k1.permX ?_,fun b hb=>k2 b (.inl hb),⟨_,_,f1,f2,rfl,⟨c.toList,a5d (b2w hl) hv,q2 Z2 (fun b hb=>k2 b (.inl hb)) fun b hb=>k2 b (.inr (List.mem_cons_of_mem _ hb))⟩,k3,rfl⟩,⟨_,_,rfl,hrun,k4⟩⟩
    rw[←List.append_assoc]
    exact List.Perm.append_right X List.perm_append_comm
   ·simp at hk
  ·simp at hk
 |.box t::rs,.tmp i::vars,e,Z,F,X,k,res,hrel,hk=>by
  unfold rsOf at hk
  rcases a5m hrel Sub.refl hk with⟨t',x,hk,_⟩|⟨p,v,c,t',x,hk,hl⟩
  ·simp at hk
  ·split at hk
   ·rename_i tb xb hw hrb
    obtain⟨t0',x0',cs,base,fp',cs0,ad,fs,fr,m1,m2,m3,m4,m5,m6,m7,m8,m9⟩:=a8c hrel hl
    have hix:p.ix=none∧p.p1=[]:=by
     unfold Pl.whole at hw
     split at hw
     ·exact⟨‹_›,‹_›⟩
     ·simp at hw
    rw[hrb] at m1 m2
    cases m1
    obtain⟨b,cc,n1,n2,rfl,rfl⟩:=m2
    have hgx:(⟨t',x⟩:Dyn)=⟨tb,xb⟩:=by
     have:=m6 fun t x=>some (⟨t,x⟩:Dyn)
     unfold a2f at this
     rw[hix.2] at this
     simp only[a7f,hix.1] at this
     exact(Option.some.inj this).symm
    cases hgx
    have had:a.tm i=a.tm p.root:=by
     have m9':a.tm i=.pointer (some ad):=m9
     rw[m9',n1]
     unfold Loc at m5
     rw[hix.1] at m5
     obtain⟨o1,u1,u2,u3⟩:=m5
     rw[hix.2] at u1
     simp only[a1i,Option.some.injEq,Prod.mk.injEq] at u1
     rw[←u1.1] at u3
     simpa using u3
    have hF:F p.root=b::fp':=by
     rcases m4 with⟨h,_⟩|⟨b',h,h2⟩
     ·simp at h
     ·obtain rfl:=Option.some.inj h;exact h2
    obtain⟨hle,y,hy,hk⟩:=a1o hk
    obtain⟨f1,fz,q1,q2⟩:=b0h hle hy m3
    have hX:(F p.root++X).Perm ((b::f1++X)++fz):=by
     rw[hF]
     refine List.Perm.cons b ?_
     show(fp'++X).Perm ((f1++X)++fz)
     refine(List.Perm.append_right X q1).trans ?_
     rw[List.append_assoc,List.append_assoc]
     exact List.Perm.append_left f1 List.perm_append_comm
    have g1:=(hrel.drop p.root).frzX hX
    obtain⟨z,e',Z2,F2,f2,vs,hk,k1,k2,k3,k4⟩:=b2m htab hft rs vars g1 hk
    refine⟨(y,z),e',Z2,F2,(b::f1)++f2,a.tm i::vs,hk,k1.permX ?_,fun b hb=>k2 b (.inl hb),⟨_,_,b::f1,f2,rfl,⟨b,cc,f1,by rw[had];exact n1,n2,q2 Z2 (fun b hb=>k2 b (.inl hb)) fun b hb=>k2 b (.inr hb),rfl⟩,k3,rfl⟩,⟨_,_,rfl,rfl,k4⟩⟩
    rw[←List.append_assoc]
    exact List.Perm.append_right X List.perm_append_comm
   ·simp at hk
 |[],_::_,e,Z,F,X,k,res,hrel,hk=>by simp[rsOf] at hk
 |.val _::_,[],e,Z,F,X,k,res,hrel,hk=>by simp[rsOf] at hk
 |.box _::_,[],e,Z,F,X,k,res,hrel,hk=>by simp[rsOf] at hk
 |.box _::_,.cell _ _::_,e,Z,F,X,k,res,hrel,hk=>by simp[rsOf] at hk
def b0n(a:Act):Nat→List PS→List Value→Prop
 |_,[],_=>True
 |i,.val _::ps,vs=>b0n a (i+1) ps vs.tail
 |i,.io _::ps,vs=>vs.head?=some (a.tm i)∧b0n a (i+1) ps vs.tail
 |i,.sio _::ps,vs=>vs.head?=some (a.tm i)∧b0n a (i+1) ps vs.tail
theorem b0n.same:∀{ps:List PS} {i:Nat} {vs:List Value},(∀j,j∈b0i i ps→a'.tm j=a.tm j)→b0n a i ps vs→b0n a' i ps vs
 |[],_,_,_,_=>trivial
 |.val _::ps,i,vs,hs,hh=>b0n.same (ps:=ps) hs hh
 |.io _::ps,i,vs,hs,hh=>⟨by rw[hs i (by simp[b0i])];exact hh.1,b0n.same (ps:=ps) (fun j hj=>hs j (by simp[b0i,hj])) hh.2⟩
 |.sio _::ps,i,vs,hs,hh=>⟨by rw[hs i (by simp[b0i])];exact hh.1,b0n.same (ps:=ps) (fun j hj=>hs j (by simp[b0i,hj])) hh.2⟩
theorem a9z:∀(ps:List PS) {i:Nat} {vs:List Value} {e:En} {Z:Nat→Prop} {F:Nat→List Nat} {X:List Nat} {k:a6b ps→Option R} {res:R},
  Rel A P C B e a w Z F X→b0n a i ps vs→c4u e i ps k=some res→∃y e' Z1 F1 f,k y=some res∧Rel A P C B e' a w Z1 F1 (f++X)∧(∀b,Z b→Z1 b)∧a6v A P Z1 w.heap ps vs y f
 |[],i,vs,e,Z,F,X,k,res,hrel,hh,hk=>⟨(),e,Z,F,[],hk,hrel,fun b=>id,rfl⟩
 |.val _::ps,i,vs,e,Z,F,X,k,res,hrel,hh,hk=>a9z ps (i:=i+1) hrel hh hk
 |.io t::ps,i,vs,e,Z,F,X,k,res,hrel,hh,hk=>by
  unfold c4u at hk
  split at hk
  ·rename_i t' x hi
   obtain⟨hl,y,hy,hk⟩:=a1o hk
   have ho:=hrel.own i
   rw[hi] at ho
   obtain⟨b,c,fp',h1,h2,h3,h4⟩:=ho
   obtain⟨f1,fz,q1,q2⟩:=b0h hl hy h4
   have hX:(F i++X).Perm ((b::f1++X)++fz):=by
    rw[h3]
    refine List.Perm.cons b ?_
    show(fp'++X).Perm ((f1++X)++fz)
    refine(List.Perm.append_right X q1).trans ?_
    rw[List.append_assoc,List.append_assoc]
    exact List.Perm.append_left f1 List.perm_append_comm
   obtain⟨z,e',Z2,F2,f2,hk,k1,k2,k3⟩:=a9z ps ((hrel.drop i).frzX hX) hh.2 hk
   refine⟨(y,z),e',Z2,F2,(b::f1)++f2,hk,k1.permX ?_,fun b hb=>k2 b (.inl hb),b,c,f1,f2,by rw[hh.1,h1],h2,q2 Z2 (fun b hb=>k2 b (.inl hb)) fun b hb=>k2 b (.inr hb),k3,rfl⟩
   rw[←List.append_assoc]
   exact List.Perm.append_right X List.perm_append_comm
  ·simp at hk
 |.sio t::ps,i,vs,e,Z,F,X,k,res,hrel,hh,hk=>by
  unfold c4u at hk
  split at hk
  ·rename_i t' x hi
   obtain⟨hl,y,hy,hk⟩:=a1o hk
   have ho:=hrel.own i
   rw[hi] at ho
   obtain⟨cs,h1,h4⟩:=ho
   obtain⟨f1,fz,q1,q2⟩:=b0h hl hy h4
   have hX:(F i++X).Perm ((f1++X)++fz):=by
    refine(List.Perm.append_right X q1).trans ?_
    rw[List.append_assoc,List.append_assoc]
    exact List.Perm.append_left f1 List.perm_append_comm
   obtain⟨z,e',Z2,F2,f2,hk,k1,k2,k3⟩:=a9z ps ((hrel.drop i).frzX hX) hh.2 hk
   refine⟨(y,z),e',Z2,F2,f1++f2,hk,k1.permX ?_,fun b hb=>k2 b (.inl hb),a.tm i,cs,f1,f2,hh.1,a5d (b2w hl) h1,q2 Z2 (fun b hb=>k2 b (.inl hb)) fun b hb=>k2 b (.inr hb),k3,rfl⟩
   rw[←List.append_assoc]
   exact List.Perm.append_right X List.perm_append_comm
  ·simp at hk
theorem a8y:∀{ps:List PS} {vs:List Value} {x:a1s ps} {fp:List Nat},a3w A P Z h ps vs x fp→∀b,b∈fp→b<h.size
 |[],_,_,_,hr=>by obtain⟨_,rfl⟩:=hr;simp
 |.val t::ps,_,_,_,hr=>by
  obtain⟨v,vs',cs,f1,f2,_,_,h3,h4,rfl⟩:=hr
  intro b hb
  rcases List.mem_append.1 hb with h|h
  ·exact b0k h3 b h
  ·exact a8y h4 b h
 |.io t::ps,_,_,_,hr=>by
  obtain⟨v,vs',b0,c,f1,f2,_,_,h2,h3,h4,rfl⟩:=hr
  intro b hb
  rcases List.mem_append.1 hb with h|h
  ·rcases List.mem_cons.1 h with rfl|h
   ·exact h2.lt
   ·exact b0k h3 b h
  ·exact a8y h4 b h
 |.sio t::ps,_,_,_,hr=>by
  obtain⟨v,vs',cs,f1,f2,_,_,h3,h4,rfl⟩:=hr
  intro b hb
  rcases List.mem_append.1 hb with h|h
  ·exact b0k h3 b h
  ·exact a8y h4 b h
theorem c8a{t:Ty}{x:t.den}{v:Value}{cs:List Value}{fp:List Nat}(hv:VC t v cs)(hr:Rep A P t Z h cs x fp):Own A P Z h (c9r t x) v fp∧(c9r t x).noRef:=by
 cases t with
 |ptr t =>
  obtain⟨rfl,ad,cells,rfl,h1,h2,h3⟩:=hr
  exact⟨⟨rfl,ad,cells,a0r rfl hv,h1,h2,h3⟩,trivial⟩
 |_=>exact⟨⟨cs,hv,hr⟩,trivial⟩
theorem b2f:∀(ps:List PS) {i:Nat} {vs:List Value} {x:a1s ps} {fp X:List Nat},a3w A P Z w.heap ps vs x fp→(∀j v,vs[j]?=some v→a.tm (i+j)=v)→Rel A P C B [] a w Z (fun _=>[]) (fp++X) →
  ∃F,Rel A P C B (c1k i ps x) a w Z F X∧b1p (c1k i ps x)∧b0n a i ps vs
 |[],i,vs,x,fp,X,hr,hv,hrel=>by
  obtain⟨_,rfl⟩:=hr
  exact⟨_,hrel,b5d,trivial⟩
 |.val t::ps,i,vs,x,fp,X,hr,hv,hrel=>by
  obtain⟨v,vs',cs,f1,f2,rfl,h2,h3,h4,rfl⟩:=hr
  obtain⟨F,g1,g2,g3⟩:=b2f ps (i:=i+1) (X:=f1++X) h4 (fun j u hj=>by have:=hv (j+1) u (by simpa using hj);rwa [show i+(j+1)=i+1+j by omega] at this) (hrel.permX (by
   rw[←List.append_assoc]
   exact List.Perm.append_right X List.perm_append_comm))
  have htm:a.tm i=v:=hv 0 v rfl
  obtain⟨h5,h6⟩:=c8a h2 h3
  exact⟨_,g1.consTop g2 (by rw[htm];exact h5) h6,a4k g2 h6,g3⟩
 |.io t::ps,i,vs,x,fp,X,hr,hv,hrel=>by
  obtain⟨v,vs',b,c,f1,f2,rfl,h2,h3,h4,h5,rfl⟩:=hr
  obtain⟨F,g1,g2,g3⟩:=b2f ps (i:=i+1) (X:=(b::f1)++X) h5 (fun j u hj=>by have:=hv (j+1) u (by simpa using hj);rwa [show i+(j+1)=i+1+j by omega] at this) (hrel.permX (by
   rw[←List.append_assoc]
   exact List.Perm.append_right X List.perm_append_comm))
  have htm:a.tm i=v:=hv 0 v rfl
  exact⟨_,g1.consTop g2 (s:=.box t x.1) ⟨b,c,f1,by rw[htm];exact h2,h3,rfl,h4⟩ trivial,a4k g2 trivial,by rw[htm];rfl,g3⟩
 |.sio t::ps,i,vs,x,fp,X,hr,hv,hrel=>by
  obtain⟨v,vs',cs,f1,f2,rfl,h2,h3,h4,rfl⟩:=hr
  obtain⟨F,g1,g2,g3⟩:=b2f ps (i:=i+1) (X:=f1++X) h4 (fun j u hj=>by have:=hv (j+1) u (by simpa using hj);rwa [show i+(j+1)=i+1+j by omega] at this) (hrel.permX (by
   rw[←List.append_assoc]
   exact List.Perm.append_right X List.perm_append_comm))
  have htm:a.tm i=v:=hv 0 v rfl
  exact⟨_,g1.consTop g2 (s:=.val t x.1) ⟨cs,by rw[htm];exact h2,h3⟩ trivial,a4k g2 trivial,by rw[htm];rfl,g3⟩
theorem c5x(hmix:P.follows .mixedOrders=true)(htab:a2d P C)(hft:FtOK A P C){H:Hints}{n:Nat}{f:FuncId}{fn:Func}(hf:P.funcs[f]?=some fn){sg:Sig}{G:sg.arg→Option sg.res}(hG:∀x y,G x=some y→d0w C H n fn sg x=some y) :
  a5j A P C f sg G:=by
 intro x y hy Z w vs fp hglob hzb hargs hnd hdis
 have hk:=hG x y hy
 unfold d0w at hk
 split at hk
 ·rename_i c hb
  dsimp only at hk
  have hC:∃C':Ctx,C'=⟨fn.ntmps,C.ty,C.ft,C.gl,b0i 0 sg.ps,C.frz,C.el⟩:=⟨_,rfl⟩
  obtain⟨C',hC'⟩:=hC
  rw[←hC'] at hk
  have htab':a2d P C':=c4a (C:=C) (by rw[hC']) htab
  have hft':FtOK A P C':=c7t (C:=C) (by rw[hC']) (by rw[hC']) hft
  refine calls_of_wp hf hb ?_
  have ha:∃a0:Act,a0={ tmps:=vs++Array.replicate (fn.ntmps - vs.size) undef,defers:=[] }:=⟨_,rfl⟩
  obtain⟨a0,ha0⟩:=ha
  rw[←ha0]
  have htm:∀j v,vs.toList[j]?=some v→a0.tm (0+j)=v:=by
   intro j v hj
   rw[Array.getElem?_toList] at hj
   have hjs:j<vs.size:=by
    rcases Nat.lt_or_ge j vs.size with h|h
    ·exact h
    ·rw[Array.getElem?_eq_none h] at hj;simp at hj
   rw[ha0,Nat.zero_add]
   unfold Act.tm
   rw[Array.getD_eq_getD_getElem?,Array.getElem?_append_left hjs,hj]
   rfl
  have h0:Rel A P C' ⟨Z,w,fun b=>b∈fp,fun i=>if i∈b0i 0 sg.ps then some (a0.tm i) else none⟩ [] a0 w Z (fun _=>[]) (fp++[]):=by
   rw[List.append_nil]
   refine⟨fun i=>rfl,fun i=>trivial,fun i=>List.nodup_nil,fun i j b hb=>by simp at hb,fun i b hb=>by simp at hb,fun i b hb=>by simp at hb,fun i b hb=>by simp at hb,hnd,fun i b hb=>by simp at hb,hdis,a8y hargs,fun b hb=>.inl hb,hzb,fun b=>id,fun b=>.inl,
    Nat.le_refl _,fun _ _ _=>rfl,rfl,rfl,rfl,by rw[ha0],?_,b8n (C:=C) (by rw[hC']) hglob,fun i v hv=>?_⟩
   ·rw[hC',ha0];simp;omega
   ·dsimp only at hv
    split at hv
    ·exact Option.some.inj hv
    ·simp at hv
  obtain⟨F,h1,_,h2⟩:=b2f sg.ps (i:=0) hargs htm h0
  have hfix:b5g C' ⟨Z,w,fun b=>b∈fp,fun i=>if i∈b0i 0 sg.ps then some (a0.tm i) else none⟩:=by
   intro i v hv
   dsimp only at hv
   split at hv
   ·rw[hC'];assumption
   ·simp at hv
  have hend:∀(e1:En) (a1:Act) (w1:World) (Z1:Nat→Prop) (F1:Nat→List Nat),(rsOf C' sg.rs fn.results.toList e1 fun y e'=>c4u e' 0 sg.ps fun z=>some (y,z))=some y→Rel A P C' ⟨Z,w,fun b=>b∈fp,fun i=>if i∈b0i 0 sg.ps then some (a0.tm i) else none⟩ e1 a1 w1 Z1 F1 [] →
    a1.defers=[]∧∃v,(results fn a1.tmps).run P w1=.ok v w1∧∃v' Z' fr fi,Ending.returned v=.returned v'∧c0s A P Z' w1.heap sg.rs v' y.1 fr∧a6v A P Z' w1.heap sg.ps vs.toList y.2 fi∧Step Z w fp Z' w1 (fr++fi):=by
   intro e1 a1 w1 Z1 F1 hk1 hr1
   obtain⟨y1,e2,Z2,F2,fr,us,hk2,g1,g2,g3,g4⟩:=b2m htab' hft' sg.rs fn.results.toList hr1 hk1
   have hheld:b0n a1 0 sg.ps vs.toList:=h2.same fun j hj=>hr1.fix j _ (by simp[hj])
   obtain⟨y2,e3,Z3,F3,fi,hk3,k1,k2,k3⟩:=a9z sg.ps g1 hheld hk2
   simp only[Option.some.injEq] at hk3
   subst hk3
   refine⟨hr1.defs,_,b3h g4,_,Z3,fr,fi,rfl,⟨us,?_,rfl⟩,k3,?_⟩
   ·have:∀{rs:List RS} {us:List Value} {y:a8b rs} {f:List Nat},b7g A P Z2 w1.heap rs us y f→b7g A P Z3 w1.heap rs us y f:=by
     intro rs
     induction rs with
     |nil=>intro us y f h;exact h
     |cons p rs ih =>
      intro us y f h
      obtain⟨v,vs',f1,f2,q1,q2,q3,q4⟩:=h
      refine⟨v,vs',f1,f2,q1,?_,ih q3,q4⟩
      cases p with
      |val t=>obtain⟨cs,u1,u2⟩:=q2;exact⟨cs,u1,a0e u2 k2 fun _ _=>rfl⟩
      |box t=>obtain⟨b,c,f3,u1,u2,u3,u4⟩:=q2;exact⟨b,c,f3,u1,u2,a0e u3 k2 fun _ _=>rfl,u4⟩
    exact this g3
   ·rw[List.append_nil] at k1
    have hp:(fi++fr).Perm (fr++fi):=List.perm_append_comm
    have k1':=k1.permX hp
    exact⟨fun b hb=>k1.z b hb,k1.hs,fun b hb hn=>k1.keep b hb hn,fun b hb=>k1.znew b hb,fun b hb=>k1'.xnew b hb,k1.os,k1.out,k1.tape,k1.zb,k1'.xb,k1'.xnotZ,k1'.xnodup⟩
  refine d3i hmix c htab' hft' hfix h1 ⟨fun e1 a1 w1 Z1 F1 q1 q2=>?_,fun e1 a1 w1 Z1 F1 q1 q2=>?_,fun id k hfe=>by simp[a7d] at hfe⟩ hk
  ·exact hend e1 a1 w1 Z1 F1 q1 q2
  ·exact hend e1 a1 w1 Z1 F1 q1 q2
 ·simp at hk
end Go.Rb

namespace Go.Rb
open Go.RowKit
variable {A:Amb} {P:Program} {Z Z':Nat→Prop} {h h':Array Obj} {R:Type} {C C':Ctx} {w w':World} {H:Type} {enc:TypeId×Value→H} {sp:Nat→Bool}
theorem Step.below{B:Nat}{fp':List Nat}(hs:Step (fun b=>b<w.heap.size) w [] Z' w' fp')(hB:B≤w.heap.size):Below B w w' :=
 ⟨hs.os,hs.tape,hs.out,hs.size,fun k hk=>hs.keep k (by omega) (by simp)⟩
def Ty.data:Ty→Bool
 |.int _|.bool|.str|.unit=>true
 |.sl .imm _ t=>t.data
 |.st t=>t.data
 |.pair a b=>a.data&&b.data
 |.arr _ t=>t.data
 |_=>false
theorem a7b{α β:Type}{f:α→Option β}:∀{l:List α} {r:List β},l.mapM f=some r→r.length=l.length∧∀i (h1:i<l.length) (h2:i<r.length),f l[i]=some r[i]
 |[],r,h=>by
  simp at h
  subst h
  exact⟨rfl,fun i h1=>by simp at h1⟩
 |x::l,r,h=>by
  rw[List.mapM_cons] at h
  simp only[Option.bind_eq_bind,Option.bind_eq_some_iff,Option.pure_def,Option.some.injEq] at h
  obtain⟨y,h1,ys,h2,rfl⟩:=h
  obtain⟨h3,h4⟩:=a7b h2
  refine⟨by simp[h3],fun i g1 g2=>?_⟩
  cases i with
  |zero=>exact h1
  |succ i=>exact h4 i (by simpa using g1) (by simpa using g2)
theorem d0f{a:Addr}(hs:a.spot=none){j:Nat}:a.add j=⟨a.block,a.off+j,none⟩:=by
 unfold Addr.add
 split
 ·rename_i hj
  subst hj
  cases a
  simp at hs
  subst hs
  rfl
 ·cases a
  simp at hs
  subst hs
  rfl
theorem c6t{a:Addr}{n:Nat}{cs:List Value}(hc:w.cells? 0 a n=some cs)(hn:1≤n):Row w.heap a n cs∧a.block<w.heap.size:=by
 unfold World.cells? at hc
 simp only[Nat.zero_le,if_true] at hc
 obtain⟨h1,h2⟩:=a7b hc
 simp only[List.length_range] at h1
 have hcell:∀i (hi:i<n),w.cell? (a.add i)=some (cs[i]'(by omega)):=fun i hi=>by
  have:=h2 i (by simpa using hi) (by omega)
  simpa using this
 have h0:=hcell 0 (by omega)
 unfold World.cell? at h0
 split at h0
 ·rename_i c el fr hb
  split at h0
  ·simp at h0
  ·rename_i hs
   have hs':a.spot=none:=by simpa[Addr.add] using hs
   have hb':w.heap[a.block]?=some (.cells c el fr):=by simpa[Addr.add] using hb
   refine⟨⟨hs',h1,c,el,fr,hb',fun j hj=>?_⟩,?_⟩
   ·have:=hcell j hj
    rw[d0f hs'] at this
    unfold World.cell? at this
    simp only[hb'] at this
    rw[List.getElem?_eq_getElem (by omega)]
    simpa using this
   ·rcases Nat.lt_or_ge a.block w.heap.size with h|h
    ·exact h
    ·rw[Array.getElem?_eq_none h] at hb';simp at hb'
 ·simp at h0
theorem d4r{a:Addr}{n m:Nat}(hm:1≤m)(hn:1≤n){f:Nat→List Value}(hc:∀i,i<n→w.cells? 0 (a.add (i*m)) m=some (f i)) :
  a.spot=none∧a.block<w.heap.size∧∃cells,Row w.heap a (n*m) cells∧∀i,i<n→seg cells (i*m) m=f i:=by
 obtain⟨⟨h1,h2,c,el,fr,h3,h4⟩,h5⟩:=c6t (hc 0 (by omega)) hm
 rw[Nat.zero_mul] at h1 h3 h4 h5
 have hz:a.add 0=a:=by unfold Addr.add;simp
 rw[hz] at h1 h3 h4 h5
 have hrow:∀i,i<n→(f i).length=m∧∀j,j<m→c[a.off+(i*m+j)]?=(f i)[j]?:=by
  intro i hi
  obtain⟨⟨_,g2,c',el',fr',g3,g4⟩,_⟩:=c6t (hc i hi) hm
  rw[d0f h1] at g3 g4
  rw[h3] at g3
  simp only[Option.some.injEq,Obj.cells.injEq] at g3
  obtain⟨rfl,_,_⟩:=g3
  exact⟨g2,fun j hj=>by rw[←g4 j hj,←Nat.add_assoc]⟩
 have hsz:a.off+n*m≤c.size:=by
  obtain⟨g1,g2⟩:=hrow (n - 1) (by omega)
  have:=g2 (m - 1) (by omega)
  rw[List.getElem?_eq_getElem (by omega)] at this
  obtain⟨hlt,_⟩:=Array.getElem?_eq_some_iff.1 this
  have:(n - 1)*m+m=n*m:=by
   obtain⟨k,rfl⟩:∃k,n=k+1:=⟨n - 1,by omega⟩
   simp[Nat.succ_mul]
  omega
 refine⟨h1,h5,(c.toList.drop a.off).take (n*m),⟨h1,by simp;omega,c,el,fr,h3,fun j hj=>?_⟩,fun i hi=>?_⟩
 ·rw[List.getElem?_take_of_lt hj,List.getElem?_drop,Array.getElem?_toList]
 ·obtain⟨g1,g2⟩:=hrow i hi
  have hle:i*m+m≤n*m:=by
   have:=Nat.mul_le_mul_right m (show i+1≤n from hi)
   rwa [Nat.succ_mul] at this
  refine List.ext_getElem? fun j=>?_
  unfold seg
  by_cases hj:j<m
  ·rw[List.getElem?_take_of_lt hj,List.getElem?_drop,List.getElem?_take_of_lt (by omega),List.getElem?_drop,Array.getElem?_toList,g2 j hj]
  ·rw[List.getElem?_eq_none (by simp;omega),List.getElem?_eq_none (by omega)]
theorem b2g{t:TypeId}{ty:Ty}(ht:TyFact P C t ty):P.cellsOf t=ty.size:=by
 obtain⟨i,d,h1,_,h3,_⟩:=ht.ex
 simp[Program.cellsOf,h1,h3]
theorem c8f{te:Ty}{Q:Nat→te.den→Prop}:∀(n:Nat),(∀i,i<n→∃x,Q i x)→∃l:List te.den,l.length=n∧∀i (hi:i<l.length),Q i l[i]
 |0,_=>⟨[],rfl,fun i hi=>by simp at hi⟩
 |n+1,h=>by
  obtain⟨l,h1,h2⟩:=c8f n fun i hi=>h i (by omega)
  obtain⟨x,hx⟩:=h n (by omega)
  refine⟨l++[x],by simp[h1],fun i hi=>?_⟩
  by_cases hil:i<l.length
  ·rw[List.getElem_append_left hil];exact h2 i hil
  ·have:i=n:=by simp at hi;omega
   subst this
   rw[List.getElem_append_right (by omega)]
   simpa[h1] using hx
theorem a8t{e:TypeId}:∀{l:List (DataW H)},(DataW.weightsAll P e l).all (·≤reachBytes)=true→∀d,d∈l→(d.weights P e).all (·≤reachBytes)=true
 |[],_,d,hd=>by simp at hd
 |x::l,h,d,hd=>by
  rw[DataW.weightsAll,List.all_append,Bool.and_eq_true] at h
  rcases List.mem_cons.1 hd with rfl|hd
  ·exact h.1
  ·exact a8t h.2 d hd
theorem c1w:reachBytes≤room:=by decide
theorem c1z(htab:a2d P C){fuel:Nat}{Z:Nat→Prop}(ih:∀(ty:Ty) (t:TypeId) (cs:List Value) (d:DataW H) (ps:List MemPlace),ty.data=true→C.ty t=some ty→DataW.trod enc P w 0 sp true fuel t cs=some (d,ps)→(d.weights P t).all (·≤reachBytes)=true→∃x,Rep A P ty Z w.heap cs x []) :
  ∀(fs:List Field) (p:Ty) (o:Nat) (cs:List Value) (xs:List (DataW H×List MemPlace)),p.data=true→a4z C fs p o→cs.length=o+p.size→fs.mapM (fun f=>DataW.trod enc P w 0 sp true fuel f.type ((cs.drop f.offset).take (P.cellsOf f.type)))=some xs →
   (DataW.weightsEach P (fs.map (·.type)) (xs.map (·.1))).all (·≤reachBytes)=true→∃x,Rep A P p Z w.heap (cs.drop o) x []
 |[],p,o,cs,xs,hd,hf,hl,hx,hw=>by
  cases p <;> simp only[a4z] at hf
  refine⟨(),?_,rfl⟩
  simp[Ty.size] at hl
  exact List.drop_eq_nil_of_le (by omega)
 |f::fs,p,o,cs,xs,hd,hf,hl,hx,hw=>by
  cases p <;> simp only[a4z] at hf
  rename_i a b
  obtain⟨h1,h2,h3,h4⟩:=hf
  simp only[Ty.data,Bool.and_eq_true] at hd
  simp only[Ty.size] at hl
  rw[List.mapM_cons] at hx
  simp only[Option.bind_eq_bind,Option.bind_eq_some_iff,Option.pure_def,Option.some.injEq] at hx
  obtain⟨y,g1,ys,g2,rfl⟩:=hx
  simp only[List.map_cons,DataW.weightsEach,List.all_append,Bool.and_eq_true] at hw
  rw[b2g (htab _ _ h2),h1] at g1
  obtain⟨x1,k1⟩:=ih a f.type _ y.1 y.2 hd.1 h2 g1 hw.1
  obtain⟨x2,k2⟩:=c1z htab ih fs b (o+a.size) cs ys hd.2 h4 (by omega) g2 hw.2
  refine⟨(x1,x2),_,_,[],[],?_,rfl,k1,k2⟩
  rw[←List.drop_drop,List.take_append_drop]
end Go.Rb

namespace Go.Rb
open Go.RowKit
variable {A:Amb} {P:Program} {C:Ctx} {w:World} {H:Type} {enc:TypeId×Value→H} {sp:Nat→Bool}
theorem d8f{fuel:Nat}{t:TypeId}{k:IntKind}{cs:List Value}{d:DataW H}{ps:List MemPlace}(hu:P.underlying t=some (.int k))(hr:DataW.trod enc P w 0 sp true (fuel+1) t cs=some (d,ps)) :
  ∃n,cs=[.int k n]∧(Lit.int k n).wf=true∧d=.lit (.int k n):=by
 unfold DataW.trod at hr
 rw[hu] at hr
 split at hr <;> rename_i h <;> try (first|(cases h;done)|(simp at h;done))
 all_goals first
  |(simp at hr;done)
  |(
    cases h
    split at hr
    ·rename_i h2
     obtain⟨rfl,h3⟩:=h2
     simp at hr
     exact⟨_,rfl,h3,hr.1.symm⟩
    ·simp at hr)
theorem d5q{fuel:Nat}{t:TypeId}{cs:List Value}{d:DataW H}{ps:List MemPlace}(hu:P.underlying t=some .bool)(hr:DataW.trod enc P w 0 sp true (fuel+1) t cs=some (d,ps)) :
  ∃b,cs=[.bool b]∧d=.lit (.bool b):=by
 unfold DataW.trod at hr
 rw[hu] at hr
 split at hr <;> rename_i h <;> try (first|(cases h;done)|(simp at h;done))
 all_goals first
  |(simp at hr;done)
  |(
    simp at hr
    exact⟨_,rfl,hr.1.symm⟩)
theorem d7i{fuel:Nat}{t:TypeId}{cs:List Value}{d:DataW H}{ps:List MemPlace}(hu:P.underlying t=some .string)(hr:DataW.trod enc P w 0 sp true (fuel+1) t cs=some (d,ps)) :
  ∃s:ByteArray,cs=[.string s]∧d=.lit (.string s.data.toList):=by
 unfold DataW.trod at hr
 rw[hu] at hr
 split at hr <;> rename_i h <;> try (first|(cases h;done)|(simp at h;done))
 all_goals first
  |(simp at hr;done)
  |(
    simp at hr
    exact⟨_,rfl,hr.2.1.symm⟩)
theorem d2f{fuel:Nat}{t e:TypeId}{cs:List Value}{d:DataW H}{ps:List MemPlace}(hu:P.underlying t=some (.slice e))(hr:DataW.trod enc P w 0 sp true (fuel+1) t cs=some (d,ps)) :
  (cs=[.slice none 0 0]∧d=.nil)∨∃a len cap,∃(elems rest:List (DataW H×List MemPlace)),cs=[.slice (some a) len cap]∧len≤cap ∧
   ((List.range len).mapM fun i=>(w.cells? 0 (a.add (i*P.cellsOf e)) (P.cellsOf e)).bind (DataW.trod enc P w 0 sp true fuel e))=some elems∧d=.slice (elems.map (·.1)) (rest.map (·.1)):=by
 unfold DataW.trod at hr
 rw[hu] at hr
 split at hr <;> rename_i h <;> try (first|(cases h;done)|(simp at h;done))
 all_goals first
  |(simp at hr;done)
  |skip
 ·simp at hr
  exact .inl ⟨rfl,hr.1.symm⟩
 ·cases h
  right
  simp only[Nat.zero_le,true_and] at hr
  split at hr
  ·rename_i h1
   simp only[Option.bind_eq_some_iff,Option.map_eq_some_iff] at hr
   obtain⟨elems,h2,rest,h3,h4⟩:=hr
   simp only[Prod.mk.injEq] at h4
   exact⟨_,_,_,elems,rest,rfl,h1.1,h2,h4.1.symm⟩
  ·simp at hr
theorem c9y{fuel:Nat}{t:TypeId}{fs:Array Field}{cs:List Value}{d:DataW H}{ps:List MemPlace}(hu:P.underlying t=some (.struct fs))(hr:DataW.trod enc P w 0 sp true (fuel+1) t cs=some (d,ps)) :
  cs.length=P.cellsOf t∧∃xs:List (DataW H×List MemPlace),(fs.toList.mapM fun f=>DataW.trod enc P w 0 sp true fuel f.type ((cs.drop f.offset).take (P.cellsOf f.type)))=some xs∧d=.agg (xs.map (·.1)):=by
 unfold DataW.trod at hr
 rw[hu] at hr
 dsimp only at hr
 split at hr
 ·rename_i h1
  simp only[Option.map_eq_some_iff] at hr
  obtain⟨xs,h2,h3⟩:=hr
  simp only[Prod.mk.injEq] at h3
  exact⟨h1,xs,h2,h3.1.symm⟩
 ·simp at hr
theorem d2h{fuel:Nat}{t e:TypeId}{n:Nat}{cs:List Value}{d:DataW H}{ps:List MemPlace}(hu:P.underlying t=some (.array n e))(hr:DataW.trod enc P w 0 sp true (fuel+1) t cs=some (d,ps)) :
  cs.length=P.cellsOf t∧∃xs:List (DataW H×List MemPlace),((List.range n).mapM fun i=>DataW.trod enc P w 0 sp true fuel e ((cs.drop (i*P.cellsOf e)).take (P.cellsOf e)))=some xs∧d=.agg (xs.map (·.1)):=by
 unfold DataW.trod at hr
 rw[hu] at hr
 dsimp only at hr
 split at hr
 ·rename_i h1
  simp only[Option.map_eq_some_iff] at hr
  obtain⟨xs,h2,h3⟩:=hr
  simp only[Prod.mk.injEq] at h3
  exact⟨h1,xs,h2,h3.1.symm⟩
 ·simp at hr
theorem b9f(htab:a2d P C):∀(fuel:Nat) (ty:Ty) (t:TypeId) (cs:List Value) (d:DataW H) (ps:List MemPlace),ty.data=true→C.ty t=some ty→DataW.trod enc P w 0 sp true fuel t cs=some (d,ps)→(d.weights P t).all (·≤reachBytes)=true →
  ∃x,Rep A P ty (fun b=>b<w.heap.size) w.heap cs x []
 |0,ty,t,cs,d,ps,hd,ht,hr,hw=>by simp[DataW.trod] at hr
 |fuel+1,ty,t,cs,d,ps,hd,ht,hr,hw=>by
  have ih:=b9f htab fuel
  have htf:=htab t ty ht
  have hsz:=b2g htf
  obtain⟨i,desc,_,hu,_,hkind,_⟩:=htf.ex
  cases ty with
  |int k =>
   cases desc <;> simp only[a4f] at hkind
   subst hkind
   obtain⟨n,rfl,h1,_⟩:=d8f hu hr
   simp[Lit.wf] at h1
   exact⟨_,rfl,rfl,h1⟩
  |bool =>
   cases desc <;> simp only[a4f] at hkind
   obtain⟨b,rfl,_⟩:=d5q hu hr
   exact⟨_,rfl,rfl⟩
  |str =>
   cases desc <;> simp only[a4f] at hkind
   obtain⟨s,rfl,rfl⟩:=d7i hu hr
   simp only[DataW.weights,List.all_cons,List.all_nil,Bool.and_true,decide_eq_true_eq,Array.length_toList] at hw
   exact⟨_,rfl,_,rfl,rfl,Nat.le_trans hw c1w⟩
  |unit=>cases desc <;> simp only[a4f] at hkind
  |pair a b=>cases desc <;> simp only[a4f] at hkind
  |st p =>
   cases desc <;> simp only[a4f] at hkind
   rename_i fs
   obtain⟨h1,xs,h2,rfl⟩:=c9y hu hr
   simp only[DataW.weights,hu] at hw
   obtain⟨x,hx⟩:=c1z (A:=A) htab ih fs.toList p 0 cs xs hd hkind (by rw[h1,hsz];simp[Ty.size]) h2 hw
   exact⟨x,hx⟩
  |arr n te =>
   cases desc <;> simp only[a4f] at hkind
   rename_i n' el
   obtain⟨rfl,hte,hpure,hts⟩:=hkind
   obtain⟨h1,xs,h2,rfl⟩:=d2h hu hr
   have hce:=b2g (htab el te hte)
   rw[hce] at h2
   obtain⟨h3,h4⟩:=a7b h2
   simp only[List.length_range] at h3
   simp only[DataW.weights,hu] at hw
   obtain⟨l,hl,hq⟩:=c8f (te:=te) (Q:=fun i x=>Rep A P te (fun b=>b<w.heap.size) w.heap (seg cs (i*te.size) te.size) x []) n' fun i hi=>by
    have h5:=h4 i (by simpa using hi) (by omega)
    simp only[List.getElem_range] at h5
    exact ih te el _ (xs[i]'(by omega)).1 (xs[i]'(by omega)).2 hd hte h5 (a8t hw _ (List.mem_map.2 ⟨_,List.getElem_mem _,rfl⟩))
   exact⟨l,rfl,hpure,hl,by rw[h1,hsz];rfl,hq⟩
  |sl m e te =>
   cases desc <;> simp only[a4f] at hkind
   rename_i el
   obtain⟨rfl,hte,rfl,he1,hpure,hts⟩:=hkind
   rcases d2f hu hr with⟨rfl,rfl⟩|⟨a,n,cap,elems,rest,rfl,hnc,hel,rfl⟩
   ·exact⟨([]:List te.den),none,0,0,rfl,rfl,rfl,Nat.le_refl 0,by simp,by simp,.inl rfl⟩
   have hce:=b2g (htab el te hte)
   rw[hce] at hel
   obtain⟨h3,h4⟩:=a7b hel
   simp only[List.length_range] at h3
   simp only[DataW.weights,hu,List.all_cons,List.all_append,Bool.and_eq_true,decide_eq_true_eq,List.length_map] at hw
   obtain⟨hw1,hw2,_⟩:=hw
   have hb:n*P.bytesOf el≤room:=by
    refine Nat.le_trans ?_ (Nat.le_trans hw1 c1w)
    exact Nat.mul_le_mul_right _ (by omega)
   have hnr:n≤room:=Nat.le_trans (by have:=Nat.mul_le_mul_left n he1;omega) hb
   rcases Nat.eq_zero_or_pos n with rfl|hn
   ·exact⟨([]:List te.den),some a,0,cap,rfl,rfl,rfl,hnc,hb,hnr,.inl rfl⟩
   have h5:∀i (hi:i<n),∃c,w.cells? 0 (a.add (i*te.size)) te.size=some c∧DataW.trod enc P w 0 sp true fuel el c=some (elems[i]'(by omega)):=fun i hi=>by
    have:=h4 i (by simpa using hi) (by omega)
    simp only[List.getElem_range,Option.bind_eq_some_iff] at this
    exact this
   obtain⟨k1,k2,cells,k3,k4⟩:=d4r (w:=w) (a:=a) (n:=n) (m:=te.size) hts hn (f:=fun i=>(w.cells? 0 (a.add (i*te.size)) te.size).getD []) fun i hi=>by
    obtain⟨c,hc,_⟩:=h5 i hi
    simp only[hc,Option.getD_some]
   obtain⟨l,hl,hq⟩:=c8f (te:=te) (Q:=fun i x=>Rep A P te (fun b=>b<w.heap.size) w.heap (seg cells (i*te.size) te.size) x []) n fun i hi=>by
    obtain⟨c,hc,hc2⟩:=h5 i hi
    rw[k4 i hi]
    simp only[hc,Option.getD_some]
    exact ih te el c (elems[i]'(by omega)).1 (elems[i]'(by omega)).2 hd hte hc2 (a8t hw2 _ (List.mem_map.2 ⟨_,List.getElem_mem _,rfl⟩))
   exact⟨l,some a,n,cap,rfl,rfl,hl.symm,hnc,hb,hnr,.inr ⟨a,cells,rfl,k2,k3,hq⟩⟩
  |_=>simp[Ty.data] at hd
end Go.Rb

namespace Go.Rb
variable {A:Amb} {P:Program} {C C':Ctx}
def find?{α:Type}:List (Nat×α)→Nat→Option α
 |[],_=>none
 |(j,x)::l,i=>match Nat.beq j i with
  |true=>some x
  |false=>find? l i
theorem a8d{α:Type}{i:Nat}{x:α}:∀{l:List (Nat×α)},find? l i=some x→(i,x)∈l
 |[],h=>by simp[find?] at h
 |(j,y)::l,h=>by
  unfold find? at h
  split at h
  ·rename_i hb
   obtain rfl:=Nat.eq_of_beq_eq_true hb
   obtain rfl:=Option.some.inj h
   exact List.mem_cons_self
  ·exact List.mem_cons_of_mem _ (a8d h)
def tyIs(T:Nat→Option Ty)(i:Nat)(t:Ty):Bool:=match T i with
 |some t'=>decide (t'=t)
 |none=>false
theorem c3z{T:Nat→Option Ty}{i:Nat}{t:Ty}(h:tyIs T i t=true):T i=some t:=by
 unfold tyIs at h
 split at h
 ·rename_i t' ht
  rw[ht,of_decide_eq_true h]
 ·simp at h
def b8s(T:Nat→Option Ty):List Field→Ty→Nat→Bool
 |[],.unit,_=>true
 |f::fs,.pair a b,o=>Nat.beq f.offset o&&tyIs T f.type a&&Nat.ble 1 a.size&&b8s T fs b (o+a.size)
 |_,_,_=>false
theorem c1a:∀{fs:List Field} {p:Ty} {o:Nat},b8s C.ty fs p o=true→a4z C fs p o
 |[],p,o,h=>by cases p <;> simp[b8s,a4z] at *
 |f::fs,p,o,h=>by
  cases p <;> simp only[b8s,a4z,Bool.and_eq_true,Bool.false_eq_true] at *
  obtain⟨⟨⟨h1,h2⟩,h3⟩,h4⟩:=h
  exact⟨Nat.eq_of_beq_eq_true h1,c3z h2,Nat.le_of_ble_eq_true h3,c1a h4⟩
def e5c:Md→Bool
 |.imm=>true
 |_=>false
def d7v(P:Program)(T:Nat→Option Ty):TypeDesc→Ty→Bool
 |.int k,.int k'=>decide (k=k')
 |.bool,.bool=>true
 |.string,.str=>true
 |.slice el,.sl m e te=>e5c m&&tyIs T el te&&Nat.beq (P.bytesOf el) e&&Nat.ble 1 e&&te.pure&&Nat.ble 1 te.size
 |.struct fs,.st p=>b8s T fs.toList p 0
 |.array n el,.arr m te=>Nat.beq n m&&tyIs T el te&&te.pure&&Nat.ble 1 te.size
 |.interface _,.err=>true
 |.func _ _ _,.fn _ _=>true
 |.func _ _ _,.fn2 _ _ _=>true
 |.func _ _ _,.lf (.cfs _)=>true
 |.map k el,.lf (.fmap l)=>(match P.underlying k with|some (.int .i64)=>true|_=>false)&&tyIs T el (b0o l)
 |.pointer _,.ptr _=>true
 |_,_=>false
theorem d8b{d:TypeDesc}{ty:Ty}(h:d7v P C.ty d ty=true):a4f P C d ty:=by
 by_cases hlf:∃q,ty=.lf q
 ·obtain⟨q,rfl⟩:=hlf
  cases d <;> cases q <;> simp only[d7v,a4f,Bool.and_eq_true,Bool.false_eq_true] at *
  obtain⟨h1,h2⟩:=h
  refine⟨?_,c3z h2⟩
  split at h1
  ·assumption
  ·cases h1
 cases d <;> cases ty <;> try (exact absurd ⟨_,rfl⟩ hlf)
 all_goals simp only[d7v,a4f,Bool.and_eq_true,decide_eq_true_eq,Bool.false_eq_true] at *
 all_goals first
  |trivial
  |assumption
  |exact c1a h
  |(
    obtain⟨⟨⟨⟨⟨h1,h2⟩,h3⟩,h4⟩,h5⟩,h6⟩:=h
    refine⟨?_,c3z h2,Nat.eq_of_beq_eq_true h3,Nat.le_of_ble_eq_true h4,h5,Nat.le_of_ble_eq_true h6⟩
    rename_i m _ _
    cases m <;> simp[e5c] at h1 ⊢)
  |(
    obtain⟨⟨⟨h1,h2⟩,h3⟩,h4⟩:=h
    exact⟨Nat.eq_of_beq_eq_true h1,c3z h2,h3,Nat.le_of_ble_eq_true h4⟩)
def d1g:Value→Value→Bool
 |.int k n,.int k' n'=>decide (k=k')&&decide (n=n')
 |.bool b,.bool b'=>decide (b=b')
 |.string s,.string s'=>s.data.toList.isEmpty&&s'.data.toList.isEmpty
 |.slice none a b,.slice none a' b'=>Nat.beq a a'&&Nat.beq b b'
 |.nilIface,.nilIface=>true
 |.nilFunc,.nilFunc=>true
 |_,_=>false
theorem c4j{v u:Value}(h:d1g v u=true):v=u∧∀a,v≠.agg a:=by
 unfold d1g at h
 split at h
 ·simp only[Bool.and_eq_true,decide_eq_true_eq] at h
  obtain⟨rfl,rfl⟩:=h
  exact⟨rfl,by simp⟩
 ·simp only[decide_eq_true_eq] at h
  subst h
  exact⟨rfl,by simp⟩
 ·rename_i s s'
  simp only[Bool.and_eq_true,List.isEmpty_iff] at h
  obtain⟨h1,h2⟩:=h
  refine⟨?_,by simp⟩
  cases s with|mk a=>cases s' with|mk b =>
  cases a;cases b
  simp at h1 h2
  subst h1 h2
  rfl
 ·simp only[Bool.and_eq_true] at h
  obtain⟨h1,h2⟩:=h
  obtain rfl:=Nat.eq_of_beq_eq_true h1
  obtain rfl:=Nat.eq_of_beq_eq_true h2
  exact⟨rfl,by simp⟩
 ·exact⟨rfl,by simp⟩
 ·exact⟨rfl,by simp⟩
 ·simp at h
def c1v:List Value→List Value→Bool
 |[],[]=>true
 |v::l,u::r=>d1g v u&&c1v l r
 |_,_=>false
theorem c4w:∀{l r:List Value},c1v l r=true→l=r
 |[],[],_=>rfl
 |v::l,u::r,h=>by
  simp only[c1v,Bool.and_eq_true] at h
  rw[(c4j h.1).1,c4w h.2]
 |[],_::_,h=>by simp[c1v] at h
 |_::_,[],h=>by simp[c1v] at h
def vcB(agg:Bool)(v:Value)(z:List Value):Bool:=match agg with
 |true=>match v with
  |.agg a=>c1v a.toList z
  |_=>false
 |false=>match z with
  |[u]=>d1g v u
  |_=>false
theorem e4u{ty:Ty}{v:Value}{z:List Value}(h:vcB ty.agg v z=true):VC ty v z:=by
 unfold vcB at h
 unfold VC
 split at h
 ·rename_i hb
  rw[hb,if_pos rfl]
  split at h
  ·rw[←c4w h]
  ·simp at h
 ·rename_i hb
  rw[hb,if_neg (by simp)]
  split at h
  ·obtain⟨rfl,h2⟩:=c4j h
   exact⟨rfl,h2⟩
  ·simp at h
def e4r(ty:Ty)(i:Option Value):Bool:=match zeroCells ty with
 |none=>true
 |some z=>match i with
  |some v=>vcB ty.agg v z
  |none=>false
def eqB(P:Program)(t:TypeId)(ty:Ty)(d:TypeDesc):Bool:=match ty.eqOK with
 |false=>true
 |true=>match d with
  | .struct fs => (match P.stoodInHeld t with | true => false | false => true) && (match P.eqGuardType P.depth t with | true => false | false => true) && fs.toList.all fun f => (match decide (f.name = "_") with | true => false | false => true)
  |_=>true
def ptrB(ty:Ty)(z:Option Value):Bool:=match ty with
 |.ptr _=>match z with
  |some (.pointer none)=>true
  |_=>false
 |_=>true
def tyB(P:Program)(T:Nat→Option Ty)(t:TypeId)(ty:Ty):Bool:=match P.info? t,P.underlying t with
 |some i,some d=>Nat.beq i.size ty.size&&d7v P T d ty&&e4r ty i.zero&&eqB P t ty d&&ptrB ty i.zero
 |_,_=>false
theorem e5e{t:TypeId}{ty:Ty}(h:tyB P C.ty t ty=true):TyFact P C t ty:=by
 unfold tyB at h
 split at h
 ·rename_i i d h1 h2
  simp only[Bool.and_eq_true] at h
  obtain⟨⟨⟨⟨h3,h4⟩,h5⟩,h6⟩,hp⟩:=h
  refine⟨⟨i,d,h1,h2,Nat.eq_of_beq_eq_true h3,d8b h4,fun z hz=>?_⟩,fun he fs hfs=>?_,fun te hte=>?_⟩
  ·unfold e4r at h5
   rw[hz] at h5
   dsimp only at h5
   split at h5
   ·rename_i v hv
    exact⟨v,hv,e4u h5⟩
   ·simp at h5
  ·rw[h2] at hfs
   obtain rfl:=Option.some.inj hfs
   unfold eqB at h6
   rw[he] at h6
   simp only[Bool.and_eq_true] at h6
   obtain⟨⟨h7,h8⟩,h9⟩:=h6
   refine⟨?_,?_,fun f hf=>?_⟩
   ·split at h7
    ·simp at h7
    ·assumption
   ·split at h8
    ·simp at h8
    ·assumption
   ·have:=List.all_eq_true.1 h9 f hf
    split at this
    ·simp at this
    ·rename_i h10
     exact of_decide_eq_false h10
  ·subst hte
   unfold ptrB at hp
   dsimp only at hp
   split at hp
   ·rename_i hz
    exact⟨i,h1,hz⟩
   ·simp at hp
 ·simp at h
def tabB(P:Program)(T:Nat→Option Ty):List (Nat×Ty)→Bool
 |[]=>true
 |(t,ty)::l=>tyB P T t ty&&tabB P T l
theorem d1b{T:Nat→Option Ty}{t:Nat}{ty:Ty}:∀{l:List (Nat×Ty)},tabB P T l=true→(t,ty)∈l→tyB P T t ty=true
 |(t',ty')::l,h,hm=>by
  simp only[tabB,Bool.and_eq_true] at h
  rcases List.mem_cons.1 hm with hm|hm
  ·cases hm;exact h.1
  ·exact d1b h.2 hm
 |[],_,hm=>by simp at hm
theorem e5r{l:List (Nat×Ty)}(h:tabB P (find? l) l=true)(hC:C.ty=find? l):a2d P C:=fun t ty ht=>by
 rw[hC] at ht
 have:=d1b h (a8d ht)
 rw[←hC] at this
 exact e5e this
theorem a5j.of{f:FuncId}{sg:Sig}{G:sg.arg→Option sg.res}(h:a5j A P C f sg G)(hg:C'.gl=C.gl):a5j A P C' f sg G:=fun x y hy Z w vs fp hgl=>h x y hy Z w vs fp ⟨fun g t x' hx=>hgl.var g t x' (by rw[hg];exact hx),hgl.amb⟩
def a0n(A:Amb)(P:Program)(C:Ctx)(p:Nat×FEnt):Prop:=a3i P p.1∧a5j A P C p.1 p.2.sig p.2.fn
theorem e7q{l:List (Nat×FEnt)}(hC:C.ft=find? l)(h:∀p,p∈l→a0n A P C p):FtOK A P C:=fun f sg G hf=>by
 rw[hC] at hf
 exact h _ (a8d hf)
def b7c(A:Amb)(P:Program)(C:Ctx):List (Nat×FEnt)→Prop
 |[]=>True
 |p::l=>a0n A P C p∧b7c A P C l
theorem b7c.mem:∀{l:List (Nat×FEnt)},b7c A P C l→∀p,p∈l→a0n A P C p
 |[],_,p,hp=>by simp at hp
 |_::l,h,p,hp=>by
  rcases List.mem_cons.1 hp with rfl|hp
  ·exact h.1
  ·exact b7c.mem h.2 p hp
theorem b7c.of{C':Ctx}(hg:C'.gl=C.gl):∀{l:List (Nat×FEnt)},b7c A P C l→b7c A P C' l
 |[],h=>h
 |_::_,h=>⟨⟨h.1.1,h.1.2.of hg⟩,b7c.of hg h.2⟩
theorem e4i{l:List (Nat×FEnt)}(hC:C.ft=find? l)(h:b7c A P C l):FtOK A P C:=e7q hC (b7c.mem h)
def e1q(P:Program)(f:FuncId):Bool:=match P.funcs[f]? with
 | some fn => (match fn.name == "runtime.NumGoroutine" with | true => false | false => true) && (match fn.body.isNone with | true => false | false => true)
 |none=>false
theorem a5r{f:FuncId}(h:e1q P f=true):a3i P f:=by
 unfold e1q at h
 split at h
 ·rename_i fn hfn
  simp only[Bool.and_eq_true] at h
  obtain⟨h1,h2⟩:=h
  refine⟨fn,hfn,?_,?_⟩
  ·split at h1
   ·simp at h1
   ·assumption
  ·split at h2
   ·simp at h2
   ·assumption
 ·simp at h
end Go.Rb

namespace Go.Rb
variable {R S:Type}
def Gets(o:Option R)(Q:R→Prop):Prop:=∃y,o=some y∧Q y
theorem Gets.some{y:R}{Q:R→Prop}(h:Q y):Gets (some y) Q:=⟨y,rfl,h⟩
theorem Gets.mono{o:Option R}{Q Q':R→Prop}(h:Gets o Q)(hq:∀y,Q y→Q' y):Gets o Q':=by
 obtain⟨y,h1,h2⟩:=h
 exact⟨y,h1,hq y h2⟩
theorem Gets.bind{o:Option S}{f:S→Option R}{Q:R→Prop}{Q':S→Prop}(h:Gets o Q')(hf:∀y,Q' y→Gets (f y) Q):Gets (o.bind f) Q:=by
 obtain⟨y,rfl,h2⟩:=h
 exact hf y h2
theorem Gets.neg{c:Prop}[Decidable c]{x y:Option R}{Q:R→Prop}(hc:¬c)(h:Gets y Q):Gets (if c then x else y) Q:=by
 rw[if_neg hc];exact h
theorem Gets.not{b:Bool}{x y:Option R}{Q:R→Prop}(h1:b=false→Gets x Q)(h2:b=true→Gets y Q):Gets (if(!b)=true then x else y) Q:=by
 cases b
 ·exact h1 rfl
 ·exact h2 rfl
end Go.Rb
