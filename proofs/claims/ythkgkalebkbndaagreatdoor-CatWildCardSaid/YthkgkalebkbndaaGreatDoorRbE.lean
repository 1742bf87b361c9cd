/- Rb: heads: what is kept, packed, laid beside. Own work. -/
import Derived.Test.YthkgkalebkbndaaGreatDoorRbD
import Derived.LoopN
import Derived.Below
import Derived.Carry
import Derived.JoinedOf
import Derived.RowKit
import Derived.ProofKit
import Derived.Test.YthkgkalebkbndaaGreatDoorRbA
set_option autoImplicit false
set_option linter.unusedVariables false
set_option linter.unusedSimpArgs false
open Array renaming getElem?_eq_none->Cn,getElem?_toList->BU,length_toList->AN
open Bool renaming and_eq_true->Af,false_eq_true->AJ
open Go renaming wp_loop_rounds->Di
open Go.Addr renaming add->CO
open Go.Code renaming rounds->DC
open Go.DataW renaming trod->Bn,weights->Dp,weightsAll->Fg,weightsEach->Dy
open Go.IntKind renaming bits->Bi,i64->Aa,signed->AX,u64->Au,u8->A6,wrap->Bh
open Go.Result renaming andThen_ok->AI
open Go.Sem renaming run_bind->AK
open Go.World renaming cell?->C5
open List renaming all_append->Ek,all_cons->Cc,all_eq_true->BZ,append_assoc->Ae,append_nil->A9,getElem?_drop->Bg,getElem?_eq_getElem->Bb,getElem?_eq_none->BW,getElem?_take_of_lt->CQ,getElem_mem->A1,getElem_range->EV,length_range->Dx,mapM_cons->Es,map_cons->Bc,mem_append->Aq,mem_append_left->Am,mem_append_right->Al,mem_cons->A3,mem_cons_of_mem->AE,mem_map->Cs,nodup_append->Ak,nodup_nil->Ax,perm_append_comm->Aw,range->Ck,range_eq_range'->EE,take_of_length_le->Co
open List.Perm renaming append_left->Ay,append_right->Az,cons->B7
open Nat renaming beq->AB,ble->Fs,eq_of_beq_eq_true->AF,le_of_ble_eq_true->Ct,le_refl->Ar,le_trans->AM,lt_of_lt_of_le->AU,lt_or_ge->BQ,mul_le_mul_right->Ai,succ_mul->AC,zero_le->A8
open Ne renaming symm->BM
open Option renaming bind_eq_bind->EA,bind_eq_some_iff->Bv,getD_some->Dw,map_eq_some_iff->AS,pure_def->Ff
open Option.some renaming inj->Ag,injEq->Ad
open Prod.mk renaming injEq->Aj
namespace Go.Rb
variable {A:Amb} {P:Program} {Z Z':Nat→Prop} {h h':Array Obj} {R:Type} {C C':Ctx} {B:Base} {e e':En} {a a':Act} {w w':World} {F F0:Nat→List Nat} {X X0:List Nat} {r:Nat→Ent} {o:Oper}
theorem c9w(ht:C'.ty=C.ty):∀{fs:List Field} {t:Ty} {o:Nat},a8r C fs t o→a8r C' fs t o
 |[],.unit,_,_=>trivial
 |f::fs,.pair a b,o,hf=>by
  obtain⟨h1,h2,h3,h4⟩:=hf;exact⟨h1,by rw[ht];exact h2,h3,c9w ht h4⟩
 |[],.int _,_,hf=>hf.elim
 |[],.bool,_,hf=>hf.elim
 |[],.str,_,hf=>hf.elim
 |[],.err,_,hf=>hf.elim
 |[],.sl _ _ _,_,hf=>hf.elim
 |[],.slh _ _,_,hf=>hf.elim
 |[],.fn _ _,_,hf=>hf.elim
 |[],.fn2 _ _ _,_,hf=>hf.elim
 |[],.ptr _,_,hf=>hf.elim
 |[],.st _,_,hf=>hf.elim
 |[],.pair _ _,_,hf=>hf.elim
 |[],.arr _ _,_,hf=>hf.elim
 |[],.lf _,_,hf=>hf.elim
 |_::_,.unit,_,hf=>hf.elim
 |_::_,.int _,_,hf=>hf.elim
 |_::_,.bool,_,hf=>hf.elim
 |_::_,.str,_,hf=>hf.elim
 |_::_,.err,_,hf=>hf.elim
 |_::_,.sl _ _ _,_,hf=>hf.elim
 |_::_,.slh _ _,_,hf=>hf.elim
 |_::_,.fn _ _,_,hf=>hf.elim
 |_::_,.fn2 _ _ _,_,hf=>hf.elim
 |_::_,.ptr _,_,hf=>hf.elim
 |_::_,.st _,_,hf=>hf.elim
 |_::_,.arr _ _,_,hf=>hf.elim
 |_::_,.lf _,_,hf=>hf.elim
theorem e7q(ht:C'.ty=C.ty){d:TypeDesc}{t:Ty}(hk:a7i P C d t):a7i P C' d t:=by
 by_cases hlf:∃q,t=.lf q
 ·obtain⟨q,rfl⟩:=hlf;cases d <;> cases q <;> first
   |exact hk.elim
   |exact hk
   |(obtain⟨h1,h2⟩:=hk;exact⟨h1,by rw[ht];exact h2⟩)
 cases d <;> cases t <;> first
  |exact absurd ⟨_,rfl⟩ hlf
  |exact hk.elim
  |exact hk
  |(obtain⟨h1,h2,h3⟩:=hk;exact⟨h1,by rw[ht];exact h2,h3⟩)
  |exact c9w ht hk
theorem b9u(ht:C'.ty=C.ty)(h:a3c P C):a3c P C':=by
 intro t ty hty;rw[ht] at hty;obtain⟨⟨i,d,h1,h2,h3,h4,h5⟩,h6,h7⟩:=h t ty hty;exact⟨⟨i,d,h1,h2,h3,e7q ht h4,h5⟩,h6,h7⟩
theorem c7z(hg:C'.gl=C.gl)(h:GlobOK A P C Z h'):GlobOK A P C' Z h':=by
 exact⟨fun g t x hx=>h.var g t x (by rw[←hg];exact hx),h.amb⟩
theorem c3v(hf:C'.ft=C.ft)(hg:C'.gl=C.gl)(h:FtOK A P C):FtOK A P C':=by
 intro f sg G hG;rw[hf] at hG;obtain⟨h1,h2⟩:=h f sg G hG;exact⟨h1,fun x y hy Z w vs fp hgl=>h2 x y hy Z w vs fp (c7z hg.symm hgl)⟩
theorem Rel.ctx(hrel:Rel A P C B e a w Z F X)(hn:C'.nt=C.nt)(hg:C'.gl=C.gl):Rel A P C' B e a w Z F X :=
 ⟨hrel.own,hrel.ref,hrel.nodup,hrel.disj,hrel.notZ,hrel.fb,hrel.fnew,hrel.xnodup,hrel.xdisj,hrel.xnotZ,hrel.xb,hrel.xnew,hrel.zb,hrel.z,hrel.znew,hrel.hs,hrel.keep,hrel.os,hrel.out,hrel.tape,hrel.defs,by rw[hn];exact hrel.nt,c7z hg hrel.glob,hrel.fix⟩
def b5q(e:En):Prop:=∀i,(e.get i).s.noRef
theorem a6v{i:Nat}{s:SV}{v c:Nat}(he:b5q e)(hs:s.noRef):b5q ((i,⟨v,c,s⟩)::e):=by
 intro j;rw[b2v];split
 ·exact hs
 ·exact he j
theorem Rel.forget(hrel:Rel A P C B e a w Z F X):Rel A P C B [] a w Z (fun _=>[]) X :=
 { hrel with own:=fun i=>rfl,ref:=fun i=>trivial,nodup:=fun i=>Ax,disj:=fun i j b hb=>by simp at hb,notZ:=fun i b hb=>by simp at hb,fb:=fun i b hb=>by simp at hb,fnew:=fun i b hb=>by simp at hb,xdisj:=fun i b hb=>by simp at hb }
theorem Rel.consTop(he:b5q e){f:List Nat}(hrel:Rel A P C B e a w Z F (f++X)){i v c:Nat}{s:SV}(own:Own A P Z w.heap s (a.tm i) f)(hs:s.noRef):Rel A P C B ((i,⟨v,c,s⟩)::e) a w Z (setF F i f) X:=by
 obtain⟨n1,n2,n3⟩:=Ak.1 hrel.xnodup;have hF:∀j b,b∈setF F i f j→(j=i∧b∈f)∨(j≠i∧b∈F j):=by
  intro j b hb;unfold setF at hb;split at hb
  ·exact .inl ⟨‹_›,hb⟩
  ·exact .inr ⟨‹_›,hb⟩
 refine { hrel with own:=fun j=>?_,ref:=fun j=>?_,nodup:=fun j=>?_,disj:=fun j k b hj hk=>?_,notZ:=fun j b hb=>?_,fb:=fun j b hb=>?_,fnew:=fun j b hb=>?_,xnodup:=n2,xdisj:=fun j b hb=>?_,xnotZ:=fun b hb=>hrel.xnotZ b (Al _ hb),xb:=fun b hb=>hrel.xb b (Al _ hb),xnew:=fun b hb=>hrel.xnew b (Al _ hb) }
 ·rw[b2v];unfold setF;by_cases hj:i=j
  ·subst hj;simpa using own
  ·rw[if_neg hj,if_neg (BM hj)];exact hrel.own j
 ·exact c9f (a6v he hs j)
 ·unfold setF;split
  ·exact n1
  ·exact hrel.nodup j
 ·rcases hF j b hj with⟨rfl,h1⟩|⟨h0,h1⟩ <;> rcases hF k b hk with⟨rfl,h2⟩|⟨h3,h2⟩
  ·rfl
  ·exact absurd (Am _ h1) (hrel.xdisj k b h2)
  ·exact absurd (Am _ h2) (hrel.xdisj j b h1)
  ·exact hrel.disj j k b h1 h2
 ·rcases hF j b hb with⟨rfl,h1⟩|⟨h0,h1⟩
  ·exact hrel.xnotZ b (Am _ h1)
  ·exact hrel.notZ j b h1
 ·rcases hF j b hb with⟨rfl,h1⟩|⟨h0,h1⟩
  ·exact hrel.xb b (Am _ h1)
  ·exact hrel.fb j b h1
 ·rcases hF j b hb with⟨rfl,h1⟩|⟨h0,h1⟩
  ·exact hrel.xnew b (Am _ h1)
  ·exact hrel.fnew j b h1
 ·rcases hF j b hb with⟨rfl,h1⟩|⟨h0,h1⟩
  ·intro hx;exact n3 b h1 b hx rfl
  ·intro hx;exact hrel.xdisj j b h1 (Al _ hx)
theorem Rel.bring{f:List Nat}(hrel:Rel A P C B e a w Z F (f++X)){i:Nat}{s:SV}(own:Own A P Z w.heap s (a.tm i) f)(hs:s.noRef):Rel A P C B (e.app [⟨i,.slot,s⟩]) a w Z (setF F i f) X:=by
 refine hrel.root (w':=w) (bp:=.slot) rfl rfl rfl rfl (fun _ _ _=>rfl) (fun b=>id) (fun b=>.inl) own hrel.xnodup (fun b hb=>.inr hb) hrel.xnotZ (c9f hs) fun j hj=>?_
 refine a9o (F:=F) hrel.own (hrel.ref j) (fun _ _ _ _ _ _=>rfl) fun p=>?_
 rw[a0j];by_cases hp:p=i
 ·subst hp;right;simp[Ent.bump]
 ·left;rw[if_neg (BM hp)];exact⟨rfl,rfl,fun _ _=>rfl⟩
theorem Rel.permX(hrel:Rel A P C B e a w Z F X){X':List Nat}(hp:X.Perm X'):Rel A P C B e a w Z F X' :=
 { hrel with xnodup:=hp.nodup_iff.1 hrel.xnodup,xdisj:=fun i b hb hx=>hrel.xdisj i b hb (hp.mem_iff.2 hx),xnotZ:=fun b hb=>hrel.xnotZ b (hp.mem_iff.2 hb),xb:=fun b hb=>hrel.xb b (hp.mem_iff.2 hb),xnew:=fun b hb=>hrel.xnew b (hp.mem_iff.2 hb) }
def b5a(B:Base)(a:Act)(l:List Nat):Nat→Option Value:=fun i=>if i∈l then some (a.tm i) else B.fix i
theorem f5p{l:List Nat}(hf:∀i v,B.fix i=some v→a.tm i=v)(i:Nat)(v:Value)(hv:b5a B a l i=some v):a.tm i=v:=by
 unfold b5a at hv;split at hv
 ·exact Ag hv
 ·exact hf i v hv
theorem Rel.start(hrel:Rel A P C B e a w Z F X){l:List Nat}{fp0:Nat→Prop}(hF:∀i b,b∈F i→fp0 b)(hX:∀b,b∈X→fp0 b):Rel A P C ⟨Z,w,fp0,b5a B a l⟩ e a w Z F X :=
 { hrel with fnew:=fun i b hb=>.inl (hF i b hb),xnew:=fun b hb=>.inl (hX b hb),z:=fun b=>id,znew:=fun b=>.inl,hs:=Ar _,keep:=fun _ _ _=>rfl,os:=rfl,out:=rfl,tape:=rfl,fix:=f5p hrel.fix }
theorem Rel.back(hout:Rel A P C B e a w Z F X){l fr:List Nat}{fp0:Nat→Prop}(hfp:∀b,fp0 b→b∈X∨∃i,i∉fr∧b∈F i){F':Nat→List Nat}{X' Y:List Nat}
  (hin:Rel A P C ⟨Z,w,fp0,b5a B a l⟩ e' a' w' Z' F' X') (hY:∀b,b∈Y→∃i,i∈fr∧b∈F i) (hYn:Y.Nodup) :
  Rel A P C B e' a' w' Z' F' (X'++Y)∧(∀b,b∈Y→w'.heap[b]?=w.heap[b]?):=by
 have hfo:∀b,fp0 b→B.fp0 b∨B.w0.heap.size≤b:=fun b hb=>by
  rcases hfp b hb with h|⟨i,_,h⟩
  ·exact hout.xnew b h
  ·exact hout.fnew i b h
 have hnew:∀b,fp0 b∨w.heap.size≤b→B.fp0 b∨B.w0.heap.size≤b:=fun b hb=>by
  rcases hb with h|h
  ·exact hfo b h
  ·exact .inr (AM hout.hs h)
 have hYf:∀b,b∈Y→¬fp0 b:=fun b hb hf=>by
  obtain⟨i,h1,h2⟩:=hY b hb;rcases hfp b hf with h|⟨j,h3,h4⟩
  ·exact hout.xdisj i b h2 h
  ·exact h3 (hout.disj i j b h2 h4 ▸ h1)
 have hYb:∀b,b∈Y→b<w.heap.size:=fun b hb=>by
  obtain⟨i,h1,h2⟩:=hY b hb;exact hout.fb i b h2
 have hYz:∀b,b∈Y→¬Z b:=fun b hb=>by
  obtain⟨i,h1,h2⟩:=hY b hb;exact hout.notZ i b h2
 have hYnew:∀b,b∈Y→¬(fp0 b∨w.heap.size≤b):=fun b hb h=>by
  rcases h with h|h
  ·exact hYf b hb h
  ·have:=hYb b hb;omega
 refine⟨⟨hin.own,hin.ref,hin.nodup,hin.disj,hin.notZ,hin.fb,fun i b hb=>hnew b (hin.fnew i b hb),?_,fun i b hb hx=>?_,fun b hb=>?_,fun b hb=>?_,fun b hb=>?_,hin.zb,fun b hb=>hin.z b (hout.z b hb),fun b hb=>?_,AM hout.hs hin.hs,fun b hb hn=>?_,
  hin.os.trans hout.os,hin.out.trans hout.out,hin.tape.trans hout.tape,hin.defs,hin.nt,hin.glob,fun i v hv=>?_⟩,fun b hb=>hin.keep b (hYb b hb) (hYf b hb)⟩
 ·exact Ak.2 ⟨hin.xnodup,hYn,fun b hb b' hb' hbb=>by subst hbb;exact hYnew b hb' (hin.xnew b hb)⟩
 ·rcases Aq.1 hx with h|h
  ·exact hin.xdisj i b hb h
  ·exact hYnew b h (hin.fnew i b hb)
 ·rcases Aq.1 hb with h|h
  ·exact hin.xnotZ b h
  ·intro hz;rcases hin.znew b hz with h1|h1
   ·exact hYz b h h1
   ·exact hYnew b h h1
 ·rcases Aq.1 hb with h|h
  ·exact hin.xb b h
  ·exact AU (hYb b h) hin.hs
 ·rcases Aq.1 hb with h|h
  ·exact hnew b (hin.xnew b h)
  ·obtain⟨i,h1,h2⟩:=hY b h;exact hout.fnew i b h2
 ·rcases hin.znew b hb with h1|h1
  ·exact hout.znew b h1
  ·exact .inr (hnew b h1)
 ·have hnf:¬fp0 b:=fun h=>by
   rcases hfo b h with h1|h1
   ·exact hn h1
   ·omega
  rw[hin.keep b (AU hb hout.hs) hnf];exact hout.keep b hb hn
 ·have h1:=hout.fix i v hv;have h2:b5a B a l i=some v:=by
   unfold b5a;split
   ·rw[h1]
   ·exact hv
  exact hin.fix i v h2
theorem f1f{s:SV}{v:Value}{fp:List Nat}(ho:Own A P Z h s v fp):Own A P Z h (c7d s) v []:=by
 unfold c7d;split
 ·rename_i t x;split
  ·rename_i hp;obtain⟨cs,h1,h2⟩:=ho;obtain rfl:=a1y h2 hp;exact⟨cs,h1,h2⟩
  ·exact rfl
 ·have h1:=ho.1;subst h1;exact ho
 ·have h1:=ho.1;subst h1;exact ho
 ·have h1:=ho.1;subst h1;exact ho
 ·have h1:=ho.1;subst h1;exact ho
 ·have h1:=ho.1;subst h1;exact ho
 ·have h1:=ho.1;subst h1;exact ho
 ·exact rfl
theorem c8s(s:SV):(c7d s).noRef:=by
 unfold c7d;repeat' split
 all_goals trivial
theorem f9u{s:SV}{v:Value}{fp:List Nat}(ho:Own A P Z h s v fp):∃fp',fp' ⊆ fp∧(fp.Nodup→fp'.Nodup)∧Own A P Z h (ownK s) v fp':=by
 unfold ownK;split
 ·exact⟨fp,fun _=>id,id,ho⟩
 ·exact⟨fp,fun _=>id,id,ho⟩
 ·exact⟨[],by simp,fun _=>Ax,rfl⟩
theorem c8j(s:SV):(ownK s).noRef:=by
 unfold ownK;split <;> trivial
theorem a3p(hfix:b9y C B):∀(l:List Nat) {e:En} {Z:Nat→Prop} {F:Nat→List Nat} {k:En→Option R} {res:R},Rel A P C B e a w Z F X→b6j e l k=some res→∃e1 Z1 F1,k e1=some res∧Rel A P C B e1 a w Z1 F1 X
 |[],e,Z,F,k,res,hrel,hk=>⟨e,Z,F,hk,hrel⟩
 |i::l,e,Z,F,k,res,hrel,hk=>by
  unfold b6j at hk;split at hk
  ·rename_i t x hi;split at hk
   ·exact a3p hfix l hrel hk
   ·obtain⟨hl,y,hy,hk⟩:=a1x hk;have ho:=hrel.own i;rw[hi] at ho;obtain⟨cs,g1,g2⟩:=ho;have hR:RootIs (e.get i).s t x:=by rw[hi];exact .val t x
    have hw:(e.get i).s.with t.imm y=.val t.imm y:=by rw[hi];rfl
    have hr2:Rel A P C B (e.app [⟨i,.no,.val t.imm y⟩]) a w (fun b=>Z b∨b∈F i) (setF F i (addB none [])) X:=by
     rw[←hw];refine b9a (cs1:=cs) (fp':=F i) hrel hR (by rw[hi];exact⟨g1,rfl⟩) (.inl ⟨rfl,rfl⟩) (c1d t) rfl (a6c hl (b9b t) hy g2) (by simpa using hrel.xnodup) (fun b hb=>.inr (by simpa using hb)) (fun b=>.inl)
      (fun b hb=>hb.imp id .inl) ?_ rfl rfl rfl rfl (fun _ _ _=>rfl) fun j hj=>e3e hrel.own hR (c8w hl) (hrel.ref j)
     intro b hb hzz;have hb':b∈X:=by simpa using hb
     exact hzz.elim (hrel.xnotZ b hb') fun h=>hrel.xdisj i b h hb'
    exact a3p hfix l hr2 hk
  ·rename_i t x hi;obtain⟨hl,y,hy,hk⟩:=a1x hk;exact a3p hfix l (hrel.frzBox hi hl hy (b9b t)).1 hk
  ·exact a3p hfix l hrel hk
  ·exact a3p hfix l hrel hk
  ·exact a3p hfix l hrel hk
  ·exact a3p hfix l hrel hk
  ·exact a3p hfix l hrel hk
  ·exact a3p hfix l hrel hk
  ·rename_i p v c hi;obtain⟨t0,x0,h1,h2,h3,hk⟩:=a8m hk;have href:=hrel.ref i;rw[hi] at href;have hat:=href.2.2 h2 h3;obtain⟨cs,base,fp',t1,cs0,ad,x1,fs,fr,g1,g2,g3,g4,g5,g6,g7,g8⟩:=b7n (hrel.own p.root) h1 hat hk;rw[g6] at hk;split at hk
   ·rename_i hp;obtain rfl:=a1y g8 hp;refine a3p hfix l (F:=setF F i []) (Z:=Z) ?_ hk;refine hrel.root (w':=w) rfl rfl rfl rfl (fun _ _ _=>rfl) (fun b=>id) (fun b=>.inl) ⟨cs0,g5.1,g8⟩ (by simpa using hrel.xnodup) (fun b hb=>.inr (by simpa using hb)) (fun b hb=>hrel.xnotZ b (by simpa using hb)) trivial ?_;intro j hj;refine a9o (F:=F) hrel.own (hrel.ref j) (fun _ _ _ _ _ _=>rfl) fun q=>?_
    rw[a0j];by_cases hq:i=q
    ·subst hq;right;simp[Ent.bump]
    ·left;rw[if_neg hq];exact⟨rfl,rfl,fun _ _=>rfl⟩
   ·simp at hk
  ·simp at hk
def f2i(A:Amb)(P:Program)(Z:Nat→Prop)(h:Array Obj)(a:Act):(l:List (Nat×LH))→d5g l→List Nat→Prop
 |[],_,fp=>fp=[]
 |[(i,k)],x,fp=>Own A P Z h (lhSV k x) (a.tm i) fp
 |(i,k)::h'::l,x,fp=>∃f1 f2,Own A P Z h (lhSV k x.1) (a.tm i) f1∧f2i A P Z h a (h'::l) x.2 f2∧fp=f1++f2
theorem c2r(hft:FtOK A P C)(hrel:Rel A P C B e a w Z F X){i:Nat}{hd:LH}{k:hd.den→List Up→Option R}{res:R}(hk:c9r C e i hd k=some res) :
  ∃y us Z1 F1 f,k y us=some res∧Rel A P C B (e.app us) a w Z1 F1 (f++X)∧(∀b,Z b→Z1 b)∧Own A P Z1 w.heap (lhSV hd y) (a.tm i) f:=by
 cases hd with
 |val t =>
  obtain⟨y,us,hk,⟨⟨Z1,F1,fs,cs,g1,g2,g3,g4⟩,_⟩⟩:=a9b hft hrel Sub.refl (o:=.tmp i) (t:=t) (k:=k) hk;exact⟨y,us,Z1,F1,fs,hk,g1,g2,cs,g3,g4⟩
 |box t =>
  unfold c9r at hk;dsimp only at hk;split at hk
  ·rename_i t' x hi;obtain⟨hl,y,hy,hk⟩:=a1x hk;have ho:=hrel.own i;rw[hi] at ho;obtain⟨b,c,fp',h1,h2,h3,h4⟩:=ho;obtain⟨f1,fz,q1,q2⟩:=b7k hl hy h4;have hd:=hrel.drop i;have hX:(F i++X).Perm ((b::f1++X)++fz):=by
    rw[h3];refine B7 b ?_;show(fp'++X).Perm ((f1++X)++fz);refine(Az X q1).trans ?_;rw[Ae,Ae];exact Ay f1 Aw
   refine⟨y,_,_,_,b::f1,hk,hd.frzX hX,fun b=>.inl,b,c,f1,h1,h2,rfl,q2 _ (fun b=>.inl) fun b hb=>.inr hb⟩
  ·simp at hk
 |pv t =>
  unfold c9r at hk;dsimp only at hk;split at hk
  ·rename_i hp;split at hk
   ·rename_i t' x hi;obtain⟨hl,y,hy,hk⟩:=a1x hk;have ho:=hrel.own i;rw[hi] at ho;obtain⟨_,ad,cs,h1,h2,h3,h4⟩:=ho;exact⟨y,[],Z,F,[],hk,hrel,fun b=>id,rfl,ad,cs,h1,h2,by rw[←c4m hl];exact h3,a0g (a6c hl hp hy h4) (fun b hb=>by simpa using hb) fun _ _=>rfl⟩
   ·rename_i t' x hi;obtain⟨hl,y,hy,hk⟩:=a1x hk;obtain⟨h1,h2⟩:=hrel.frzBox hi hl hy hp;exact⟨y,_,_,_,[],hk,h1,fun b=>.inl,h2⟩
   ·simp at hk
  ·simp at hk
theorem b6d(hft:FtOK A P C):∀(l:List (Nat×LH)) {e:En} {Z:Nat→Prop} {F:Nat→List Nat} {X:List Nat} {k:d5g l→En→Option R} {res:R},Rel A P C B e a w Z F X→d8q C e l k=some res →
  ∃y e' Z1 F1 f,k y e'=some res∧Rel A P C B e' a w Z1 F1 (f++X)∧(∀b,Z b→Z1 b)∧f2i A P Z1 w.heap a l y f
 |[],e,Z,F,X,k,res,hrel,hk=>⟨(),e,Z,F,[],hk,hrel,fun b=>id,rfl⟩
 |[(i,hd)],e,Z,F,X,k,res,hrel,hk=>by
  unfold d8q at hk;obtain⟨y,us,Z1,F1,f,hk,g1,g2,g3⟩:=c2r hft hrel hk;exact⟨y,_,Z1,F1,f,hk,g1,g2,g3⟩
 |(i,hd)::h'::l,e,Z,F,X,k,res,hrel,hk=>by
  unfold d8q at hk;obtain⟨y,us,Z1,F1,f,hk,g1,g2,g3⟩:=c2r hft hrel hk;obtain⟨z,e',Z2,F2,f2,hk,k1,k2,k3⟩:=b6d hft (h'::l) g1 hk;refine⟨(y,z),e',Z2,F2,f++f2,hk,k1.permX ?_,fun b hb=>k2 b (g2 b hb),f,f2,b4g g3 k2 fun _ _=>rfl,k3,rfl⟩;rw[←Ae];exact Az X Aw
theorem c6m{hd:LH}{x:hd.den}:(lhSV hd x).noRef:=by cases hd <;> trivial
theorem b7b:∀(l:List (Nat×LH)) {e:En} {F:Nat→List Nat} {X:List Nat} {x:d5g l} {f:List Nat},b5q e→Rel A P C B e a w Z F (f++X)→f2i A P Z w.heap a l x f→∃F',Rel A P C B (c4u l x e) a w Z F' X∧b5q (c4u l x e)
 |[],e,F,X,x,f,he,hrel,hx=>by
  obtain rfl:f=[]:=hx;exact⟨F,hrel,he⟩
 |[(i,hd)],e,F,X,x,f,he,hrel,hx=>⟨_,hrel.consTop he hx c6m,a6v he c6m⟩
 |(i,hd)::h'::l,e,F,X,x,f,he,hrel,hx=>by
  obtain⟨f1,f2,h1,h2,rfl⟩:=hx;obtain⟨F',h3,h4⟩:=b7b (h'::l) (X:=f1++X) he (hrel.permX (by
   rw[←Ae];exact Az X Aw)) h2
  exact⟨_,h3.consTop h4 h1 c6m,a6v h4 c6m⟩
theorem b9f{e0:En}:∀(l:List Nat) {e:En} {F:Nat→List Nat},b5q e→Rel A P C B e a w Z F X→(∀i,i∈l→Own A P Z w.heap (c7d (e0.get i).s) (a.tm i) [])→∃F',Rel A P C B (d4m e0 l e) a w Z F' X∧b5q (d4m e0 l e)
 |[],e,F,he,hrel,_=>⟨F,hrel,he⟩
 |i::l,e,F,he,hrel,ho=>by
  obtain⟨F',h1,h2⟩:=b9f l he hrel fun j hj=>ho j (by simp[hj])
  exact⟨_,Rel.consTop (f:=[]) h2 h1 (ho i (by simp)) (c8s _),a6v h2 (c8s _)⟩
def frB(G:Nat→List Nat)(l:List Nat):List Nat:=(l.map G).flatten
theorem c0z{e0:En}{G:Nat→List Nat}:∀(l:List Nat) {e:En} {F:Nat→List Nat} {X:List Nat},b5q e→Rel A P C B e a w Z F (frB G l++X)→(∀i,i∈l→Own A P Z w.heap (ownK (e0.get i).s) (a.tm i) (G i))→∃F',Rel A P C B (d8r e0 l e) a w Z F' X∧b5q (d8r e0 l e)
 |[],e,F,X,he,hrel,_=>⟨F,hrel,he⟩
 |i::l,e,F,X,he,hrel,ho=>by
  obtain⟨F',h1,h2⟩:=c0z l (X:=G i++X) he (hrel.permX (by
   show((G i++frB G l)++X).Perm _;rw[←Ae];exact Az X Aw)) fun j hj=>ho j (by simp[hj])
  exact⟨_,h1.consTop h2 (ho i (by simp)) (c8j _),a6v h2 (c8j _)⟩
theorem c4s{e0:En}{G:Nat→List Nat}:∀(l:List Nat) {e:En} {F:Nat→List Nat},Rel A P C B e a w Z F (frB G l++X)→(∀i,i∈l→Own A P Z w.heap (ownK (e0.get i).s) (a.tm i) (G i))→∃F',Rel A P C B (e.app (d2p e0 l)) a w Z F' X
 |[],e,F,hrel,_=>⟨F,hrel⟩
 |i::l,e,F,hrel,ho=>by
  have h1:=Rel.bring (f:=G i) (X:=frB G l++X) (i:=i) (by rw[←Ae];exact hrel) (ho i (by simp)) (c8j _);exact c4s l h1 fun j hj=>ho j (by simp[hj])
theorem c4d:∀(l:List Nat) {e:En} {F:Nat→List Nat} {X:List Nat},Rel A P C B e a w Z F X→∃F' X',Rel A P C B (e.app (d6m l)) a w Z F' X'∧(∀i b,b∈F' i→i∉l∧b∈F i)
 |[],e,F,X,hrel=>⟨F,X,hrel,fun i b hb=>⟨by simp,hb⟩⟩
 |i::l,e,F,X,hrel=>by
  obtain⟨F',X',h1,h2⟩:=c4d l (hrel.drop i);refine⟨F',X',h1,fun j b hb=>?_⟩;obtain⟨h3,h4⟩:=h2 j b hb;unfold setF at h4;split at h4
  ·simp at h4
  ·rename_i hne;exact⟨by simp[hne,h3],h4⟩
end Go.Rb

namespace Go.Rb
variable {A:Amb} {P:Program} {Z Z':Nat→Prop} {h h':Array Obj} {R:Type} {C C':Ctx} {B:Base} {e e':En} {a a':Act} {w w':World} {F F0:Nat→List Nat} {X X0:List Nat} {r:Nat→Ent} {o:Oper}
theorem Rel.dropX(hrel:Rel A P C B e a w Z F X):Rel A P C B e a w Z F [] :=
 { hrel with xnodup:=Ax,xdisj:=fun _ _ _=>by simp,xnotZ:=by simp,xb:=by simp,xnew:=by simp }
theorem d5k{G:Nat→List Nat}(hrel:Rel A P C B e a w Z F X)(hs:∀i,G i ⊆ F i)(hn:∀i,(G i).Nodup):∀{l:List Nat},c2t l=true→(frB G l).Nodup
 |[],_=>Ax
 |i::l,hl=>by
  simp only[c2t,Af,Bool.not_eq_true',List.contains_eq_mem,decide_eq_false_iff_not] at hl;refine Ak.2 ⟨hn i,d5k hrel hs hn hl.2,fun b hb b' hb' hbb=>?_⟩;subst hbb;obtain⟨j,h1,h2⟩:=a3u.1 hb';exact hl.1 (hrel.disj i j b (hs i hb) (hs j h2) ▸ h1)
theorem c1s{e0:En}(hout:Rel A P C B e0 a w Z F X){keep fr:List Nat}(hfr:c2t fr=true){fp0:Nat→Prop}(hfp:∀b,fp0 b→b∈X∨∃i,i∉fr∧b∈F i){F':Nat→List Nat}{X':List Nat}
  (hin:Rel A P C ⟨Z,w,fp0,b5a B a (keep++fr)⟩ e' a' w' Z' F' X') :
  ∃G,Rel A P C B e' a' w' Z' F' (X'++frB G fr)∧(∀i,i∈fr→Own A P Z' w'.heap (ownK (e0.get i).s) (a'.tm i) (G i))∧∀i,i∈keep→Own A P Z' w'.heap (c7d (e0.get i).s) (a'.tm i) []:=by
 have hch:∀i,∃fp',fp' ⊆ F i∧fp'.Nodup∧Own A P Z w.heap (ownK (e0.get i).s) (a.tm i) fp':=fun i=>by
  obtain⟨fp',h1,h2,h3⟩:=f9u (hout.own i);exact⟨fp',h1,h2 (hout.nodup i),h3⟩
 have hG:∃G:Nat→List Nat,∀i,G i ⊆ F i∧(G i).Nodup∧Own A P Z w.heap (ownK (e0.get i).s) (a.tm i) (G i):=⟨fun i=>Classical.choose (hch i),fun i=>Classical.choose_spec (hch i)⟩
 obtain⟨G,hG⟩:=hG;have hY:∀b,b∈frB G fr→∃i,i∈fr∧b∈F i:=fun b hb=>by
  obtain⟨i,h1,h2⟩:=a3u.1 hb;exact⟨i,h1,(hG i).1 h2⟩
 obtain⟨h1,h2⟩:=hout.back hfp hin hY (d5k hout (fun i=>(hG i).1) (fun i=>(hG i).2.1) hfr);have htm:∀i,i∈keep++fr→a'.tm i=a.tm i:=fun i hi=>hin.fix i _ (by show b5a B a (keep++fr) i=_;unfold b5a;rw[if_pos hi])
 have hZh:∀b,Z b→w'.heap[b]?=w.heap[b]?:=fun b hb=>hin.keep b (hout.zb b hb) fun hf=>by
  rcases hfp b hf with h|⟨i,_,h⟩
  ·exact hout.xnotZ b h hb
  ·exact hout.notZ i b h hb
 refine⟨G,h1,fun i hi=>?_,fun i hi=>?_⟩
 ·rw[htm i (Al _ hi)];exact b4g (hG i).2.2 hin.z fun b hb=>hb.elim (hZh b) fun hb=>h2 b (a3u.2 ⟨i,hi,hb⟩)
 ·rw[htm i (Am _ hi)];exact b4g (f1f (hout.own i)) hin.z fun b hb=>hb.elim (hZh b) (by simp)
structure KOK (A:Amb) (P:Program) (C:Ctx) (B:Base) (ks:Ks R) (Q:Exit→Act→World→Prop) (res:R):Prop where
 norm:∀e a w Z F,ks.norm e=some res→Rel A P C B e a w Z F []→Q .normal a w
 ret:∀e a w Z F,ks.ret e=some res→Rel A P C B e a w Z F []→Q .ret a w
 exits:∀id k,a8h ks.exits id=some k→∀e a w Z F,k e=some res→Rel A P C B e a w Z F []→Q (.exit id) a w
theorem c5b{fr:List Up}:∀{l:List (Nat×(En→Option R))} {id:Nat} {k:En→Option R},a8h (l.map fun x=>(x.1,fun e=>x.2 (e.app fr))) id=some k→∃k0,a8h l id=some k0∧k=fun e=>k0 (e.app fr)
 |[],id,k,hk=>by simp[a8h] at hk
 |(j,k0)::l,id,k,hk=>by
  simp only[Bc,a8h] at hk ⊢;cases hb:AB j id with
  |true =>
   rw[hb] at hk;exact⟨k0,rfl,(Ag hk).symm⟩
  |false =>
   rw[hb] at hk;exact c5b hk
theorem c0r(hfix:b9y C B){l:List Nat}{Z:Nat→Prop}{w:World}{fp0:Nat→Prop}:b9y (C.guardS l) ⟨Z,w,fp0,b5a B a l⟩:=by
 intro i v hv;show i∈l++C.prot;have hv':b5a B a l i=some v:=hv;unfold b5a at hv';split at hv'
 ·exact Am _ ‹_›
 ·exact Al _ (hfix i v hv')
theorem d0x{e0:En}(hout:Rel A P C B e0 a w Z F X){keep fr:List Nat}(hfr:c2t fr=true){fp0:Nat→Prop}(hfp:∀b,fp0 b→b∈X∨∃i,i∉fr∧b∈F i){ks:Ks R}{Q Q':Exit→Act→World→Prop}{res:R}
  (hk:KOK A P C B ks Q res) (hret:Q' .ret=Q .ret) (hex:∀id,Q' (.exit id)=Q (.exit id)) {norm:En→Option R}
  (hn:∀e1 a1 w1 Z1 F1,norm e1=some res→Rel A P C ⟨Z,w,fp0,b5a B a (keep++fr)⟩ e1 a1 w1 Z1 F1 []→Q' .normal a1 w1) :
  KOK A P (C.guardS (keep++fr)) ⟨Z,w,fp0,b5a B a (keep++fr)⟩ (ks.framed (d2p e0 fr) norm) Q' res:=by
 have hleave:∀{k0:En→Option R} {e1:En} {a1:Act} {w1:World} {Z1:Nat→Prop} {F1:Nat→List Nat} {Q1:Act→World→Prop},(∀e a w Z F,k0 e=some res→Rel A P C B e a w Z F []→Q1 a w)→k0 (e1.app (d2p e0 fr))=some res →
   Rel A P (C.guardS (keep++fr)) ⟨Z,w,fp0,b5a B a (keep++fr)⟩ e1 a1 w1 Z1 F1 []→Q1 a1 w1:=by
  intro k0 e1 a1 w1 Z1 F1 Q1 hq hk0 hr;obtain⟨G,h1,h2,_⟩:=c1s hout hfr hfp (hr.ctx (C':=C) rfl rfl);obtain⟨F2,h3⟩:=c4s fr (X:=[]) (by simpa using h1) h2;exact hq _ _ _ _ _ hk0 h3
 refine⟨fun e1 a1 w1 Z1 F1 h1 h2=>hn e1 a1 w1 Z1 F1 h1 (h2.ctx rfl rfl),fun e1 a1 w1 Z1 F1 h1 h2=>?_,fun id k hf e1 a1 w1 Z1 F1 h1 h2=>?_⟩
 ·rw[hret];exact hleave hk.ret h1 h2
 ·obtain⟨k0,g1,rfl⟩:=c5b hf;rw[hex];exact hleave (hk.exits id k0 g1) h1 h2
theorem b9r:b5q []:=fun _=>trivial
theorem Rel.lend{fp0:Nat→Prop}{fx:Nat→Option Value}(hrel:Rel A P C ⟨Z,w,fp0,fx⟩ e a w Z F []){L:Nat→Prop}(hL:∀b,L b→b<w.heap.size)(hd:∀i b,b∈F i→¬L b) :
  Rel A P C ⟨fun b=>Z b∨L b,w,fp0,fx⟩ e a w (fun b=>Z b∨L b) F [] :=
 { hrel with own:=fun i=>b4g (hrel.own i) (fun b=>.inl) (fun _ _=>rfl),notZ:=fun i b hb h=>h.elim (hrel.notZ i b hb) (hd i b hb),xnotZ:=by simp,zb:=fun b h=>h.elim (hrel.zb b) (hL b),z:=fun b=>id,znew:=fun b=>.inl,glob:=hrel.glob.mono (fun b=>.inl) fun _ _=>rfl }
theorem c1k{e1:En}:∀(l:List Nat) {e:En} {F:Nat→List Nat} {k:En→Option R} {res:R},Rel A P C B e a w Z F [] →
  (∀i,i∈l→(∀t x y,(e1.get i).s=.val t x→t.le t.imm=true→HEq x y→Own A P Z w.heap (.val t.imm y) (a.tm i) [])∧∀t x y,(e1.get i).s=.box t x→t.le t.imm=true→HEq x y→Own A P Z w.heap (.pv t.imm y) (a.tm i) []) →
  d2r e1 l e k=some res→∃e2 F2,k e2=some res∧Rel A P C B e2 a w Z F2 []
 |[],e,F,k,res,hrel,_,hk=>⟨e,F,hk,hrel⟩
 |i::l,e,F,k,res,hrel,ho,hk=>by
  unfold d2r at hk;split at hk
  ·rename_i t x hi;obtain⟨hl,y,hy,hk⟩:=a1x hk;exact c1k l (Rel.bring (f:=[]) hrel ((ho i (by simp)).1 t x y hi hl hy) trivial) (fun j hj=>ho j (by simp[hj])) hk
  ·rename_i t x hi;obtain⟨hl,y,hy,hk⟩:=a1x hk;exact c1k l (Rel.bring (f:=[]) hrel ((ho i (by simp)).2 t x y hi hl hy) trivial) (fun j hj=>ho j (by simp[hj])) hk
  ·simp at hk
theorem f2f{s:SV}{v:Value}{fp:List Nat}{Z':Nat→Prop}(ho:Own A P Z h s v fp):Own A P Z' h (f0z s) v []:=by
 unfold f0z;split
 ·rename_i t x;split
  ·rename_i hf;simp only[Af] at hf;obtain⟨cs,h1,h2⟩:=ho;rw[a1y h2 hf.2] at h2;exact⟨cs,h1,c1u hf.1 h2⟩
  ·rfl
 ·exact⟨rfl,ho.2⟩
 ·exact⟨rfl,ho.2⟩
 ·exact⟨rfl,ho.2⟩
 ·rfl
theorem c9u(s:SV):(f0z s).noRef:=by
 unfold f0z;repeat' split
 all_goals trivial
theorem d1x{e3:En}{Z':Nat→Prop}(hrel:Rel A P C B [] a w Z (fun _=>[]) X)(ho:∀i,∃fp,Own A P Z' w.heap (e3.get i).s (a.tm i) fp):∀l:List Nat,∃F',Rel A P C B (outE e3 l) a w Z F' X∧b5q (outE e3 l)
 |[]=>⟨_,hrel,b9r⟩
 |i::l=>by
  obtain⟨F',h1,h2⟩:=d1x hrel ho l;obtain⟨fp,h3⟩:=ho i;exact⟨_,Rel.consTop (f:=[]) h2 h1 (f2f h3) (c9u _),a6v h2 (c9u _)⟩
theorem g0o{fp0:Nat→Prop}{fx:Nat→Option Value}{L:Nat→Prop}{e3:En}{a3:Act}{w3:World}{Z3:Nat→Prop}{F3:Nat→List Nat}(hin:Rel A P C ⟨fun b=>Z b∨L b,w,fp0,fx⟩ e3 a3 w3 Z3 F3 [])
  (hg:GlobOK A P C Z w.heap) (hLZ:∀b,L b→¬Z b) (hzb:∀b,Z b→b<w.heap.size) (hfz:∀b,fp0 b→¬Z b) (l:List Nat) :
  ∃F',Rel A P C ⟨Z,w,fp0,fx⟩ (outE e3 l) a3 w3 (fun b=>Z3 b∧¬L b) F' []∧b5q (outE e3 l):=by
 have h0:Rel A P C ⟨Z,w,fp0,fx⟩ [] a3 w3 (fun b=>Z3 b∧¬L b) (fun _=>[]) [] :=
  { hin.forget with
   own:=fun i=>rfl
   xnotZ:=by simp
   zb:=fun b hb=>hin.zb b hb.1
   z:=fun b hb=>⟨hin.z b (.inl hb),fun hl=>hLZ b hl hb⟩
   znew:=fun b hb=>(hin.znew b hb.1).imp (fun h=>h.resolve_right hb.2) id
   notZ:=fun i b hb=>by simp at hb
   fnew:=fun i b hb=>by simp at hb
   xnew:=by simp
   hs:=hin.hs
   keep:=hin.keep
   os:=hin.os
   out:=hin.out
   tape:=hin.tape
   fix:=hin.fix
   glob:=hg.mono (fun b hb=>⟨hin.z b (.inl hb),fun hl=>hLZ b hl hb⟩) fun b hb=>hin.keep b (hzb b hb) fun hf=>hfz b hf hb }
 exact d1x h0 (fun i=>⟨_,hin.own i⟩) l
theorem b8k{f:En→En}:∀{l:List (Nat×(En→Option R))} {id:Nat} {k:En→Option R},a8h (l.map fun x=>(x.1,fun e=>x.2 (f e))) id=some k→∃k0,a8h l id=some k0∧k=fun e=>k0 (f e)
 |[],id,k,hk=>by simp[a8h] at hk
 |(j,k0)::l,id,k,hk=>by
  simp only[Bc,a8h] at hk ⊢;cases hb:AB j id with
  |true =>
   rw[hb] at hk;exact⟨k0,rfl,(Ag hk).symm⟩
  |false =>
   rw[hb] at hk;exact b8k hk
theorem d1i(hfix:b9y C B){hh:Scope}(hfr:c2t hh.frame=true)(hlf:∀i,i∈hh.lent→i∈hh.frame){ks:Ks R}{Q:Exit→Act→World→Prop}{res:R}(hks:KOK A P C B ks Q res)
  (hrel:Rel A P C B e a w Z F []) {f:En→En→Option R} (hk:(b6j e hh.keep fun e1=>d2r e1 hh.lent (e1.app (d6m hh.frame)) fun e2=>f e1 e2)=some res) :
  ∃e1 e2 B' Z' F',f e1 e2=some res∧Rel A P (C.guardS (hh.keep++hh.frame)) B' e2 a w Z' F' []∧KOK A P (C.guardS (hh.keep++hh.frame)) B' (ks.scp e1 hh) Q res∧b9y (C.guardS (hh.keep++hh.frame)) B':=by
 obtain⟨e1,Z1,F1,hk,h1⟩:=a3p hfix hh.keep hrel hk;obtain⟨F2,X2,h2,h3⟩:=c4d hh.frame h1
 let L:Nat→Prop:=fun b=>∃i,i∈hh.lent∧b∈F1 i
 let fp0:Nat→Prop:=fun b=>∃i,b∈F2 i
 have h4:Rel A P C ⟨Z1,w,fp0,b5a B a (hh.keep++hh.frame)⟩ (e1.app (d6m hh.frame)) a w Z1 F2 []:=h2.dropX.start (l:=hh.keep++hh.frame) (fp0:=fp0) (fun i b hb=>⟨i,hb⟩) (by simp);have hL1:∀b,L b→b<w.heap.size:=fun b ⟨i,_,hb⟩=>h1.fb i b hb
 have hLZ:∀b,L b→¬Z1 b:=fun b ⟨i,_,hb⟩=>h1.notZ i b hb
 have h5:=h4.lend (L:=L) hL1 fun i b hb ⟨j,hj,hb'⟩=>by
  obtain⟨h6,h7⟩:=h3 i b hb;obtain rfl:=h1.disj i j b h7 hb';exact h6 (hlf _ hj)
 have hcast:∀{t:Ty} {x:t.den} {y:t.imm.den} {cs:List Value} {fs:List Nat} {i:Nat},i∈hh.lent→(∀b,b∈fs→b∈F1 i)→t.le t.imm=true→HEq x y→Rep A P t Z1 w.heap cs x fs→Rep A P t.imm (fun b=>Z1 b∨L b) w.heap cs y []:=by
  intro t x y cs fs i hi hfs hl hy g2;obtain⟨fp',fz,g3,g4⟩:=b7k hl hy g2;have g5:=g4 (fun b=>Z1 b∨L b) (fun b=>.inl) fun b hb=>.inr ⟨i,hi,hfs b (g3.symm.subset (Al _ hb))⟩
  rwa [a1y g5 (b9b t)] at g5
 obtain⟨e2,F4,hk,h6⟩:=c1k hh.lent h5 (fun i hi=>⟨fun t x y hs hl hy=>by
  have ho:=h1.own i;rw[hs] at ho;obtain⟨cs,g1,g2⟩:=ho;exact⟨cs,b0c (by rw[c1d]) g1,hcast hi (fun b=>id) hl hy g2⟩,fun t x y hs hl hy=>by
  have ho:=h1.own i;rw[hs] at ho;obtain⟨b,c,fp',g1,g2,g3,g4⟩:=ho;have hc:c.toList.length=t.size:=a1j g4;refine⟨rfl,⟨b,0,none⟩,c.toList,g1,.inr ⟨i,hi,by rw[g3];simp⟩,?_,hcast hi (fun b hb=>by rw[g3];simp[hb]) hl hy g4⟩;have:=g2.row (n:=c.size) (Ar _);rw[a1e,←hc,AN];rwa [Co (by simp)] at this⟩) hk
 have hfp:∀b,fp0 b→b∈([]:List Nat)∨∃i,i∉hh.frame∧b∈F1 i:=fun b ⟨i,hb⟩=>.inr ⟨i,h3 i b hb⟩
 have hfz:∀b,fp0 b→¬Z1 b:=fun b ⟨i,hb⟩=>h1.notZ i b (h3 i b hb).2
 have hleave:∀{k0:En→Option R} {e3:En} {a3:Act} {w3:World} {Z3:Nat→Prop} {F3:Nat→List Nat} {Q1:Act→World→Prop},(∀e a w Z F,k0 e=some res→Rel A P C B e a w Z F []→Q1 a w)→k0 (d9a e1 hh e3)=some res →
   Rel A P (C.guardS (hh.keep++hh.frame)) ⟨fun b=>Z1 b∨L b,w,fp0,b5a B a (hh.keep++hh.frame)⟩ e3 a3 w3 Z3 F3 []→Q1 a3 w3:=by
  intro k0 e3 a3 w3 Z3 F3 Q1 hq hk0 hr;obtain⟨F',q0,q00⟩:=g0o (hr.ctx (C':=C) rfl rfl) h1.glob hLZ h1.zb hfz hh.out;obtain⟨G,q1,q2,q3⟩:=c1s h1 hfr hfp q0;obtain⟨F5,q5,q6⟩:=c0z hh.frame (X:=[]) q00 (by simpa using q1) q2;obtain⟨F6,q7,_⟩:=b9f hh.keep q6 q5 q3;exact hq _ _ _ _ _ hk0 q7
 refine⟨e1,e2,_,_,_,hk,h6.ctx (C':=C.guardS (hh.keep++hh.frame)) rfl rfl,⟨fun e3 a3 w3 Z3 F3 g1 g2=>hleave hks.norm g1 g2,fun e3 a3 w3 Z3 F3 g1 g2=>hleave hks.ret g1 g2,fun id k hf e3 a3 w3 Z3 F3 g1 g2=>?_⟩,c0r hfix⟩;obtain⟨k0,g3,rfl⟩:=b8k (f:=d9a e1 hh) hf;exact hleave (hks.exits id k0 g3) g1 g2
theorem e4s(hmix:P.follows .mixedOrders=true){H:Hints}{n:Nat}:∀(c:Code) {C:Ctx} {B:Base} {e:En} {a:Act} {w:World} {Z:Nat→Prop} {F:Nat→List Nat} {ks:Ks R} {Q:Exit→Act→World→Prop} {res:R},
  a3c P C→FtOK A P C→b9y C B→Rel A P C B e a w Z F []→KOK A P C B ks Q res→exec C H n c e ks=some res→c.wp P Q a w:=by
 suffices main:∀(k:Nat) (c:Code),SizeOf.sizeOf c<k→∀{C:Ctx} {B:Base} {e:En} {a:Act} {w:World} {Z:Nat→Prop} {F:Nat→List Nat} {ks:Ks R} {Q:Exit→Act→World→Prop} {res:R},
   a3c P C→FtOK A P C→b9y C B→Rel A P C B e a w Z F []→KOK A P C B ks Q res→exec C H n c e ks=some res→c.wp P Q a w from fun c=>main _ c (Nat.lt_succ_self _)
 intro m
 induction m with
 |zero=>intro c hc;exact absurd hc (Nat.not_lt_zero _)
 |succ m IH =>
 intro c hc;cases c with
 |skip=>intro C B e a w Z F ks Q res htab hft hfix hrel hks hk;exact wp_skip (hks.norm e a w Z F hk hrel)
 |ret=>intro C B e a w Z F ks Q res htab hft hfix hrel hks hk;exact wp_ret (hks.ret e a w Z F hk hrel)
 |region id ops draw =>
  intro C B e a w Z F ks Q res htab hft hfix hrel hks hk;unfold exec at hk;cases draw with
  |true=>exact e5c hmix htab hft hfix hrel hk fun e a w Z F h1 h2=>hks.norm e a w Z F h1 h2
  |false =>
   refine wp_region ?_;have:=c5m htab hft hfix (ops:=ops) (Q:=Q) (fun e a w Z F h1 h2=>hks.norm e a w Z F h1 h2) ops.toList 0 e a w Z F rfl hrel hk;rw[EE];simpa using this
 |seq x y =>
  have hsz:=hc;have ihx:=@IH x (by simp at hc;omega);have ihy:=@IH y (by simp at hc;omega);intro C B e a w Z F ks Q res htab hft hfix hrel hks hk;unfold exec at hk;refine wp_seq ?_;split at hk
  ·rename_i hh _;split at hk
   ·rename_i hcc;simp only[Af] at hcc;have hlf:∀i,i∈hh.lent→i∈hh.frame:=fun i hi=>by simpa using BZ.1 hcc.2 i hi
    split at hk
    ·refine ihx (ks:={ ks with norm:=fun e'=>b6j e' hh.keep fun e1=>d2r e1 hh.lent (e1.app (d6m hh.frame)) fun e2=>exec (C.guardS (hh.keep++hh.frame)) H n y e2 (ks.scp e1 hh) }) (Q:=Exit.then (y.wp P Q) Q) htab hft hfix hrel ⟨fun e1 a1 w1 Z1 F1 g1 g2=>?_,hks.ret,hks.exits⟩ hk;obtain⟨_,_,_,_,_,q1,q2,q3,q4⟩:=d1i hfix hcc.1 hlf hks g2 (f:=fun e1 e2=>exec (C.guardS (hh.keep++hh.frame)) H n y e2 (ks.scp e1 hh)) g1;exact ihy (C:=C.guardS (hh.keep++hh.frame)) (b9u (C:=C) rfl htab) (c3v (C:=C) rfl rfl hft) q4 q2 q3 q1
    ·split at hk
     ·rename_i p q r _;have ihp:=@IH p (by simp at hsz;omega);have ihq:=@IH q (by simp at hsz;omega);have ihr:=@IH r (by simp at hsz;omega);refine ihx (ks:={ ks with norm:=fun e'=>b6j e' hh.keep fun e1=>d2r e1 hh.lent (e1.app (d6m hh.frame)) fun e2=>exec (C.guardS (hh.keep++hh.frame)) H n p e2 (((ks.toNorm fun e4=>exec C H n r e4 ks).scp e1 hh).toNorm fun e3=>exec (C.guardS (hh.keep++hh.frame)) H n q e3 ((ks.toNorm fun e4=>exec C H n r e4 ks).scp e1 hh)) }) (Q:=Exit.then ((Code.seq p (.seq q r)).wp P Q) Q) htab hft hfix hrel ⟨fun e1 a1 w1 Z1 F1 g1 g2=>?_,hks.ret,hks.exits⟩ hk;have hks2:KOK A P C B (ks.toNorm fun e4=>exec C H n r e4 ks) (Exit.then (r.wp P Q) Q) res:=⟨fun e1 a1 w1 Z1 F1 h1 h2=>ihr htab hft hfix h2 hks h1,hks.ret,hks.exits⟩
      obtain⟨e1',e2',_,_,_,q1,q2,q3,q4⟩:=d1i hfix hcc.1 hlf hks2 g2 (f:=fun e1 e2=>exec (C.guardS (hh.keep++hh.frame)) H n p e2 (((ks.toNorm fun e4=>exec C H n r e4 ks).scp e1 hh).toNorm fun e3=>exec (C.guardS (hh.keep++hh.frame)) H n q e3 ((ks.toNorm fun e4=>exec C H n r e4 ks).scp e1 hh))) g1;refine wp_seq (ihp (C:=C.guardS (hh.keep++hh.frame)) (ks:=(((ks.toNorm fun e4=>exec C H n r e4 ks).scp e1' hh).toNorm fun e3=>exec (C.guardS (hh.keep++hh.frame)) H n q e3 ((ks.toNorm fun e4=>exec C H n r e4 ks).scp e1' hh))) (Q:=Exit.then ((Code.seq q r).wp P Q) Q) (b9u (C:=C) rfl htab) (c3v (C:=C) rfl rfl hft) q4 q2 ⟨fun e3 a3 w3 Z3 F3 g3 g4=>wp_seq (ihq (C:=C.guardS (hh.keep++hh.frame)) (b9u (C:=C) rfl htab) (c3v (C:=C) rfl rfl hft) q4 g4 q3 g3),q3.ret,q3.exits⟩ q1)
     ·simp at hk
   ·simp at hk
  split at hk
  ·exact ihx (ks:={ ks with norm:=fun e'=>exec C H n y e' ks }) (Q:=Exit.then (y.wp P Q) Q) htab hft hfix hrel ⟨fun e1 a1 w1 Z1 F1 h1 h2=>ihy htab hft hfix h2 hks h1,hks.ret,hks.exits⟩ hk
  ·rename_i hh _;split at hk
   ·rename_i hfr;obtain⟨e1,Z1,F1,hk,h1⟩:=a3p hfix hh.keep hrel hk;unfold a7w at hk;obtain⟨F2,X2,h2,h3⟩:=c4d hh.frame h1;have h4:=(h2.dropX.start (l:=hh.keep++hh.frame) (fp0:=fun b=>∃i,b∈F2 i) (fun i b hb=>⟨i,hb⟩) (by simp)).ctx (C':=C.guardS (hh.keep++hh.frame)) rfl rfl;have hfp:∀b,(∃i,b∈F2 i)→b∈([]:List Nat)∨∃i,i∉hh.frame∧b∈F1 i:=fun b ⟨i,hb⟩=>.inr ⟨i,h3 i b hb⟩
    refine ihx (C:=C.guardS (hh.keep++hh.frame)) (b9u (C:=C) rfl htab) (c3v (C:=C) rfl rfl hft) (c0r hfix) h4 (d0x (keep:=hh.keep) (Q':=Exit.then (y.wp P Q) Q) h1 hfr hfp hks rfl (fun _=>rfl) (fun e3 a3 w3 Z3 F3 g1 g2=>?_)) hk;obtain⟨y1,e4,Z4,F4,f4,g3,g4,g5,g6⟩:=b6d hft hh.h g2 g1;obtain⟨G,q1,q2,q3⟩:=c1s h1 hfr hfp g4;have q4:=q1.permX (X':=frB G hh.frame++f4) (by
     rw[A9];exact Aw)
    obtain⟨F5,q5,q6⟩:=c0z hh.frame b9r q4.forget q2;obtain⟨F6,q7,q8⟩:=b9f hh.keep q6 q5 q3;obtain⟨F7,q9,_⟩:=b7b hh.h (X:=[]) (x:=y1) (f:=f4) q8 (by rw[A9];exact q7) g6;exact ihy htab hft hfix q9 hks g3
   ·simp at hk
 |cond c x y =>
  have ihx:=@IH x (by simp at hc;omega);have ihy:=@IH y (by simp at hc;omega);intro C B e a w Z F ks Q res htab hft hfix hrel hks hk;unfold exec at hk;obtain⟨t,v,org,hk,hv⟩:=a0v hrel Sub.refl hk;split at hk
  ·rename_i b;obtain⟨cs,fp,h1,h2⟩:=a6d hrel hv;obtain⟨_,rfl⟩:=h2;have hb:a.eval c=.bool b:=a0n rfl h1;refine wp_cond_split hb (fun ht=>?_) fun hf=>?_
   ·rw[if_pos ht] at hk;obtain⟨F',h3⟩:=c2c hrel (b:=true) (by rw[←ht];exact hb);exact ihx htab hft hfix h3 hks hk
   ·rw[if_neg (by rw[hf];simp)] at hk;obtain⟨F',h3⟩:=c2c hrel (b:=false) (by rw[←hf];exact hb);exact ihy htab hft hfix h3 hks hk
  ·simp at hk
 |block id c =>
  have ih:=@IH c (by simp at hc;omega);intro C B e a w Z F ks Q res htab hft hfix hrel hks hk;unfold exec at hk;refine wp_block (ih (ks:={ ks with exits:=(id,ks.norm)::ks.exits,cur:=id }) (Q:=Exit.inBlock id Q) htab hft hfix hrel ⟨hks.norm,hks.ret,fun id' k hf e1 a1 w1 Z1 F1 h1 h2=>?_⟩ hk);simp only[a8h] at hf;cases hb:AB id id' with
  |true =>
   rw[hb] at hf;obtain rfl:=Ag hf;have:=a1p hb;subst this;show(if id=id then Q .normal a1 w1 else _);rw[if_pos rfl];exact hks.norm _ _ _ _ _ h1 h2
  |false =>
   rw[hb] at hf;show(if id'=id then _ else Q (.exit id') a1 w1);rw[if_neg (BM (b2d hb))];exact hks.exits id' k hf _ _ _ _ _ h1 h2
 |exit id =>
  intro C B e a w Z F ks Q res htab hft hfix hrel hks hk;unfold exec at hk;split at hk
  ·rename_i k hf;exact wp_exit (hks.exits id k hf e a w Z F hk hrel)
  ·simp at hk
 |loop c =>
  have ih:=@IH c (by simp at hc;omega);intro C B e a w Z F ks Q res htab hft hfix hrel hks hk;unfold exec at hk;split at hk
  ·rename_i m0 _;have rounds:∀(m:Nat) (e:En) (a:Act) (w:World) (Z:Nat→Prop) (F:Nat→List Nat),a1b (fun rec e'=>exec C H n c e' { ks with norm:=rec }) m e=some res→Rel A P C B e a w Z F []→DC P c Q m a w:=by
    intro m
    induction m with
    |zero=>intro e a w Z F hi;simp[a1b] at hi
    |succ m ihm =>
     intro e a w Z F hi hr;simp only[a1b] at hi;rw[rounds_succ];exact ih (ks:={ ks with norm:=a1b (fun rec e'=>exec C H n c e' { ks with norm:=rec }) m }) (Q:=Exit.then (DC P c Q m) Q) htab hft hfix hr ⟨fun e1 a1 w1 Z1 F1 h1 h2=>ihm e1 a1 w1 Z1 F1 h1 h2,hks.ret,hks.exits⟩ hi
   exact Di m0 (rounds m0 e a w Z F hk hrel)
  split at hk
  ·rename_i hh _;split at hk
   ·rename_i hfr;obtain⟨e1,Z1,F1,hk,h1⟩:=a3p hfix hh.keep hrel hk;obtain⟨x0,e2,Z2,F2,f2,hk,h2,_,h3⟩:=b6d hft hh.h h1 hk;rw[A9] at h2;have hfp:∀b,b∈f2→b∈f2∨∃i,i∉hh.frame∧b∈F2 i:=fun b hb=>.inl hb
    have h4:Rel A P C ⟨Z2,w,fun b=>b∈f2,b5a B a (hh.keep++hh.frame)⟩ [] a w Z2 (fun _=>[]) f2:=h2.forget.start (fun i b hb=>by simp at hb) fun b=>id
    have head:∀{x:d5g hh.h} {e3:En} {a3:Act} {w3:World} {Z3:Nat→Prop} {F3:Nat→List Nat} {f3:List Nat},Rel A P C ⟨Z2,w,fun b=>b∈f2,b5a B a (hh.keep++hh.frame)⟩ e3 a3 w3 Z3 F3 f3→f2i A P Z3 w3.heap a3 hh.h x f3 →
      ∃F4,Rel A P (C.guardS (hh.keep++hh.frame)) ⟨Z2,w,fun b=>b∈f2,b5a B a (hh.keep++hh.frame)⟩ (c4u hh.h x (d4m e2 hh.keep [])) a3 w3 Z3 F4 []:=by
     intro x e3 a3 w3 Z3 F3 f3 g1 g2;obtain⟨G,_,_,q3⟩:=c1s h2 hfr hfp g1;obtain⟨F6,q7,q8⟩:=b9f hh.keep b9r g1.forget q3;obtain⟨F7,q9,_⟩:=b7b hh.h (X:=[]) (x:=x) (f:=f3) q8 (by rw[A9];exact q7) g2;exact⟨F7,q9.ctx rfl rfl⟩
    have rounds:∀(m:Nat) (x:d5g hh.h) (a3:Act) (w3:World) (Z3:Nat→Prop) (F3:Nat→List Nat),
      a1b (fun rec x=>exec (C.guardS (hh.keep++hh.frame)) H n c (c4u hh.h x (d4m e2 hh.keep [])) (ks.framed (d2p e2 hh.frame) fun e'=>d8q C e' hh.h fun y _=>rec y)) m x=some res →
      Rel A P (C.guardS (hh.keep++hh.frame)) ⟨Z2,w,fun b=>b∈f2,b5a B a (hh.keep++hh.frame)⟩ (c4u hh.h x (d4m e2 hh.keep [])) a3 w3 Z3 F3 []→DC P c Q m a3 w3:=by
     intro m
     induction m with
     |zero=>intro x a3 w3 Z3 F3 hi;simp[a1b] at hi
     |succ m ihm =>
      intro x a3 w3 Z3 F3 hi hr;simp only[a1b] at hi;rw[rounds_succ];refine ih (C:=C.guardS (hh.keep++hh.frame)) (b9u (C:=C) rfl htab) (c3v (C:=C) rfl rfl hft) (c0r hfix) hr (d0x (keep:=hh.keep) (Q':=Exit.then (DC P c Q m) Q) h2 hfr hfp hks rfl (fun _=>rfl) (fun e4 a4 w4 Z4 F4 g1 g2=>?_)) hi;obtain⟨y1,e5,Z5,F5,f5,g3,g4,g5,g6⟩:=b6d hft hh.h g2 g1;rw[A9] at g4;obtain⟨F6,q1⟩:=head g4 g6;exact ihm y1 a4 w4 Z5 F6 g3 q1
    obtain⟨F4,h5⟩:=head h4 h3;exact Di n (rounds n x0 a w Z2 F4 hk h5)
   ·simp at hk
  ·simp at hk
 |_=>intros;rename_i hk;simp[exec] at hk
end Go.Rb

namespace Go.Rb
variable {A:Amb} {P:Program} {Z Z':Nat→Prop} {h h':Array Obj} {R:Type} {C C':Ctx} {B:Base} {e e':En} {a a':Act} {w w':World} {F F0:Nat→List Nat} {X X0:List Nat} {r:Nat→Ent} {o:Oper}
def c9k(tmps:Array Value)(r:ResultVar):Sem Value :=
 match r with
 |.tmp t=>pure (tmps.getD t undef)
 |.cell a t=>do loadVar t (←asAddr (tmps.getD a undef))
def e3t(P:Program)(w:World)(tmps:Array Value):List ResultVar→List Value→Prop
 |[],vs=>vs=[]
 |r::rs,vs=>∃v vs',vs=v::vs'∧(c9k tmps r).run P w=.ok v w∧e3t P w tmps rs vs'
theorem f2g{tmps:Array Value}:∀{l:List ResultVar} {vs:List Value},e3t P w tmps l vs→(l.mapM (c9k tmps)).run P w=.ok vs w
 |[],vs,h=>by
  obtain rfl:vs=[]:=h;rfl
 |r::l,vs,h=>by
  obtain⟨v,vs',rfl,h1,h2⟩:=h;rw[Es];simp only[AK,h1,AI,f2g h2];rfl
theorem d9q{fn:Func}{tmps:Array Value}{vs:List Value}(h:e3t P w tmps fn.results.toList vs):(results fn tmps).run P w=.ok (if hv:vs.toArray.size=1 then vs.toArray[0] else .tuple vs.toArray) w:=by
 have h1:(fn.results.mapM (c9k tmps)).run P w=.ok vs.toArray w:=by
  have:fn.results=fn.results.toList.toArray:=rfl;rw[this,List.mapM_toArray];simp only[map_eq_pure_bind,AK,f2g h,AI];rfl
 have h2:results fn tmps=(do let vs ←fn.results.mapM (c9k tmps);pure (if h:vs.size=1 then vs[0] else .tuple vs)):=by
  unfold results c9k;rfl
 rw[h2];simp only[AK,h1,AI];rfl
theorem b9o(htab:a3c P C)(hft:FtOK A P C):∀(rs:List RS) (vars:List ResultVar) {e:En} {Z:Nat→Prop} {F:Nat→List Nat} {X:List Nat} {k:b7i rs→En→Option R} {res:R},
  Rel A P C B e a w Z F X→rsOf C rs vars e k=some res →
  ∃y e' Z1 F1 f vs,k y e'=some res∧Rel A P C B e' a w Z1 F1 (f++X)∧(∀b,Z b→Z1 b)∧d5h A P Z1 w.heap rs vs y f∧e3t P w a.tmps vars vs
 |[],[],e,Z,F,X,k,res,hrel,hk=>⟨(),e,Z,F,[],[],hk,hrel,fun b=>id,⟨rfl,rfl⟩,rfl⟩
 |.val t::rs,.tmp i::vars,e,Z,F,X,k,res,hrel,hk=>by
  unfold rsOf at hk;obtain⟨y,us,hk,⟨⟨Z1,F1,fs,cs,g1,g2,g3,g4⟩,_⟩⟩:=a9b hft hrel Sub.refl hk;obtain⟨z,e',Z2,F2,f2,vs,hk,k1,k2,k3,k4⟩:=b9o htab hft rs vars g1 hk;refine⟨(y,z),e',Z2,F2,fs++f2,a.tm i::vs,hk,k1.permX ?_,fun b hb=>k2 b (g2 b hb),⟨_,_,fs,f2,rfl,⟨cs,g3,a0g g4 k2 fun _ _=>rfl⟩,k3,rfl⟩,⟨_,_,rfl,rfl,k4⟩⟩;rw[←Ae];exact Az X Aw
 |.val t::rs,.cell i tt::vars,e,Z,F,X,k,res,hrel,hk=>by
  unfold rsOf at hk;split at hk
  ·rename_i t' x hi;split at hk
   ·rename_i hlay;obtain⟨hl,y,hy,hk⟩:=a1x hk;have ho:=hrel.own i;rw[hi] at ho;obtain⟨b,c,fp',h1,h2,h3,h4⟩:=ho;obtain⟨f1,fz,q1,q2⟩:=b7k hl hy h4;obtain⟨t1,ht1,him,hag⟩:=b4s hlay;obtain⟨v,hv⟩:=c2j h4 hag;have hrow:Row w.heap ⟨b,0,none⟩ t1.size c.toList:=by
     have hsz:t1.size=c.size:=by rw[a3x him,←a1j h4];simp
     have:=h2.row (n:=t1.size) (by omega);rwa [Co (by simp;omega)] at this
    have hrun:(c9k a.tmps (.cell i tt)).run P w=.ok v w:=by
     have hld:=a7v (htab _ _ ht1) (w:=w) hrow (b0c him.symm hv);have htm:a.tmps.getD i undef=.pointer (some ⟨b,0,none⟩):=h1;simp[c9k,htm,asAddr,hld]
    have hX:(F i++X).Perm ((f1++X)++(b::fz)):=by
     rw[h3];have h5:(fp'++X).Perm ((f1++X)++fz):=by
      refine(Az X q1).trans ?_;rw[Ae,Ae];exact Ay f1 Aw
     exact(B7 b h5).trans List.perm_middle.symm
    have g1:=(hrel.drop i).frzX hX;obtain⟨z,e',Z2,F2,f2,vs,hk,k1,k2,k3,k4⟩:=b9o htab hft rs vars g1 hk;refine⟨(y,z),e',Z2,F2,f1++f2,v::vs,hk,k1.permX ?_,fun b hb=>k2 b (.inl hb),⟨_,_,f1,f2,rfl,⟨c.toList,b0c (c0c hl) hv,q2 Z2 (fun b hb=>k2 b (.inl hb)) fun b hb=>k2 b (.inr (AE _ hb))⟩,k3,rfl⟩,⟨_,_,rfl,hrun,k4⟩⟩;rw[←Ae];exact Az X Aw
   ·simp at hk
  ·simp at hk
 |.box t::rs,.tmp i::vars,e,Z,F,X,k,res,hrel,hk=>by
  unfold rsOf at hk;rcases a9y hrel Sub.refl hk with⟨t',x,hk,_⟩|⟨p,v,c,t',x,hk,hl⟩
  ·simp at hk
  ·split at hk
   ·rename_i tb xb hw hrb;obtain⟨t0',x0',cs,base,fp',cs0,ad,fs,fr,m1,m2,m3,m4,m5,m6,m7,m8,m9⟩:=b4h hrel hl;have hix:p.ix=none∧p.p1=[]:=by
     unfold Pl.whole at hw;split at hw
     ·exact⟨‹_›,‹_›⟩
     ·simp at hw
    rw[hrb] at m1 m2;cases m1;obtain⟨b,cc,n1,n2,rfl,rfl⟩:=m2;have hgx:(⟨t',x⟩:Dyn)=⟨tb,xb⟩:=by
     have:=m6 fun t x=>some (⟨t,x⟩:Dyn)
     unfold a3m at this;rw[hix.2] at this;simp only[b2z,hix.1] at this;exact(Ag this).symm
    cases hgx;have had:a.tm i=a.tm p.root:=by
     have m9':a.tm i=.pointer (some ad):=m9;rw[m9',n1];unfold Loc at m5;rw[hix.1] at m5;obtain⟨o1,u1,u2,u3⟩:=m5;rw[hix.2] at u1;simp only[a1w,Ad,Aj] at u1;rw[←u1.1] at u3;simpa using u3
    have hF:F p.root=b::fp':=by
     rcases m4 with⟨h,_⟩|⟨b',h,h2⟩
     ·simp at h
     ·obtain rfl:=Ag h;exact h2
    obtain⟨hle,y,hy,hk⟩:=a1x hk;obtain⟨f1,fz,q1,q2⟩:=b7k hle hy m3;have hX:(F p.root++X).Perm ((b::f1++X)++fz):=by
     rw[hF];refine B7 b ?_;show(fp'++X).Perm ((f1++X)++fz);refine(Az X q1).trans ?_;rw[Ae,Ae];exact Ay f1 Aw
    have g1:=(hrel.drop p.root).frzX hX;obtain⟨z,e',Z2,F2,f2,vs,hk,k1,k2,k3,k4⟩:=b9o htab hft rs vars g1 hk;refine⟨(y,z),e',Z2,F2,(b::f1)++f2,a.tm i::vs,hk,k1.permX ?_,fun b hb=>k2 b (.inl hb),⟨_,_,b::f1,f2,rfl,⟨b,cc,f1,by rw[had];exact n1,n2,q2 Z2 (fun b hb=>k2 b (.inl hb)) fun b hb=>k2 b (.inr hb),rfl⟩,k3,rfl⟩,⟨_,_,rfl,rfl,k4⟩⟩;rw[←Ae];exact Az X Aw
   ·simp at hk
 |[],_::_,e,Z,F,X,k,res,hrel,hk=>by simp[rsOf] at hk
 |.val _::_,[],e,Z,F,X,k,res,hrel,hk=>by simp[rsOf] at hk
 |.box _::_,[],e,Z,F,X,k,res,hrel,hk=>by simp[rsOf] at hk
 |.box _::_,.cell _ _::_,e,Z,F,X,k,res,hrel,hk=>by simp[rsOf] at hk
def b6t(a:Act):Nat→List PS→List Value→Prop
 |_,[],_=>True
 |i,.val _::ps,vs=>b6t a (i+1) ps vs.tail
 |i,.io _::ps,vs=>vs.head?=some (a.tm i)∧b6t a (i+1) ps vs.tail
 |i,.sio _::ps,vs=>vs.head?=some (a.tm i)∧b6t a (i+1) ps vs.tail
theorem b6t.same:∀{ps:List PS} {i:Nat} {vs:List Value},(∀j,j∈b6r i ps→a'.tm j=a.tm j)→b6t a i ps vs→b6t a' i ps vs
 |[],_,_,_,_=>trivial
 |.val _::ps,i,vs,hs,hh=>b6t.same (ps:=ps) hs hh
 |.io _::ps,i,vs,hs,hh=>⟨by rw[hs i (by simp[b6r])];exact hh.1,b6t.same (ps:=ps) (fun j hj=>hs j (by simp[b6r,hj])) hh.2⟩
 |.sio _::ps,i,vs,hs,hh=>⟨by rw[hs i (by simp[b6r])];exact hh.1,b6t.same (ps:=ps) (fun j hj=>hs j (by simp[b6r,hj])) hh.2⟩
theorem b6g:∀(ps:List PS) {i:Nat} {vs:List Value} {e:En} {Z:Nat→Prop} {F:Nat→List Nat} {X:List Nat} {k:b3g ps→Option R} {res:R},
  Rel A P C B e a w Z F X→b6t a i ps vs→d7r e i ps k=some res→∃y e' Z1 F1 f,k y=some res∧Rel A P C B e' a w Z1 F1 (f++X)∧(∀b,Z b→Z1 b)∧b0u A P Z1 w.heap ps vs y f
 |[],i,vs,e,Z,F,X,k,res,hrel,hh,hk=>⟨(),e,Z,F,[],hk,hrel,fun b=>id,rfl⟩
 |.val _::ps,i,vs,e,Z,F,X,k,res,hrel,hh,hk=>b6g ps (i:=i+1) hrel hh hk
 |.io t::ps,i,vs,e,Z,F,X,k,res,hrel,hh,hk=>by
  unfold d7r at hk;split at hk
  ·rename_i t' x hi;obtain⟨hl,y,hy,hk⟩:=a1x hk;have ho:=hrel.own i;rw[hi] at ho;obtain⟨b,c,fp',h1,h2,h3,h4⟩:=ho;obtain⟨f1,fz,q1,q2⟩:=b7k hl hy h4;have hX:(F i++X).Perm ((b::f1++X)++fz):=by
    rw[h3];refine B7 b ?_;show(fp'++X).Perm ((f1++X)++fz);refine(Az X q1).trans ?_;rw[Ae,Ae];exact Ay f1 Aw
   obtain⟨z,e',Z2,F2,f2,hk,k1,k2,k3⟩:=b6g ps ((hrel.drop i).frzX hX) hh.2 hk;refine⟨(y,z),e',Z2,F2,(b::f1)++f2,hk,k1.permX ?_,fun b hb=>k2 b (.inl hb),b,c,f1,f2,by rw[hh.1,h1],h2,q2 Z2 (fun b hb=>k2 b (.inl hb)) fun b hb=>k2 b (.inr hb),k3,rfl⟩;rw[←Ae];exact Az X Aw
  ·simp at hk
 |.sio t::ps,i,vs,e,Z,F,X,k,res,hrel,hh,hk=>by
  unfold d7r at hk;split at hk
  ·rename_i t' x hi;obtain⟨hl,y,hy,hk⟩:=a1x hk;have ho:=hrel.own i;rw[hi] at ho;obtain⟨cs,h1,h4⟩:=ho;obtain⟨f1,fz,q1,q2⟩:=b7k hl hy h4;have hX:(F i++X).Perm ((f1++X)++fz):=by
    refine(Az X q1).trans ?_;rw[Ae,Ae];exact Ay f1 Aw
   obtain⟨z,e',Z2,F2,f2,hk,k1,k2,k3⟩:=b6g ps ((hrel.drop i).frzX hX) hh.2 hk;refine⟨(y,z),e',Z2,F2,f1++f2,hk,k1.permX ?_,fun b hb=>k2 b (.inl hb),a.tm i,cs,f1,f2,hh.1,b0c (c0c hl) h1,q2 Z2 (fun b hb=>k2 b (.inl hb)) fun b hb=>k2 b (.inr hb),k3,rfl⟩;rw[←Ae];exact Az X Aw
  ·simp at hk
theorem b9i:∀{ps:List PS} {vs:List Value} {x:a3a ps} {fp:List Nat},a7t A P Z h ps vs x fp→∀b,b∈fp→b<h.size
 |[],_,_,_,hr=>by obtain⟨_,rfl⟩:=hr;simp
 |.val t::ps,_,_,_,hr=>by
  obtain⟨v,vs',cs,f1,f2,_,_,h3,h4,rfl⟩:=hr;intro b hb;rcases Aq.1 hb with h|h
  ·exact b2q h3 b h
  ·exact b9i h4 b h
 |.io t::ps,_,_,_,hr=>by
  obtain⟨v,vs',b0,c,f1,f2,_,_,h2,h3,h4,rfl⟩:=hr;intro b hb;rcases Aq.1 hb with h|h
  ·rcases A3.1 h with rfl|h
   ·exact h2.lt
   ·exact b2q h3 b h
  ·exact b9i h4 b h
 |.sio t::ps,_,_,_,hr=>by
  obtain⟨v,vs',cs,f1,f2,_,_,h3,h4,rfl⟩:=hr;intro b hb;rcases Aq.1 hb with h|h
  ·exact b2q h3 b h
  ·exact b9i h4 b h
theorem e1d{t:Ty}{x:t.den}{v:Value}{cs:List Value}{fp:List Nat}(hv:VC t v cs)(hr:Rep A P t Z h cs x fp):Own A P Z h (e1n t x) v fp∧(e1n t x).noRef:=by
 cases t with
 |ptr t =>
  obtain⟨rfl,ad,cells,rfl,h1,h2,h3⟩:=hr;exact⟨⟨rfl,ad,cells,a0n rfl hv,h1,h2,h3⟩,trivial⟩
 |_=>exact⟨⟨cs,hv,hr⟩,trivial⟩
theorem b9k:∀(ps:List PS) {i:Nat} {vs:List Value} {x:a3a ps} {fp X:List Nat},a7t A P Z w.heap ps vs x fp→(∀j v,vs[j]?=some v→a.tm (i+j)=v)→Rel A P C B [] a w Z (fun _=>[]) (fp++X) →
  ∃F,Rel A P C B (d2a i ps x) a w Z F X∧b5q (d2a i ps x)∧b6t a i ps vs
 |[],i,vs,x,fp,X,hr,hv,hrel=>by
  obtain⟨_,rfl⟩:=hr;exact⟨_,hrel,b9r,trivial⟩
 |.val t::ps,i,vs,x,fp,X,hr,hv,hrel=>by
  obtain⟨v,vs',cs,f1,f2,rfl,h2,h3,h4,rfl⟩:=hr;obtain⟨F,g1,g2,g3⟩:=b9k ps (i:=i+1) (X:=f1++X) h4 (fun j u hj=>by have:=hv (j+1) u (by simpa using hj);rwa [show i+(j+1)=i+1+j by omega] at this) (hrel.permX (by
   rw[←Ae];exact Az X Aw))
  have htm:a.tm i=v:=hv 0 v rfl;obtain⟨h5,h6⟩:=e1d h2 h3;exact⟨_,g1.consTop g2 (by rw[htm];exact h5) h6,a6v g2 h6,g3⟩
 |.io t::ps,i,vs,x,fp,X,hr,hv,hrel=>by
  obtain⟨v,vs',b,c,f1,f2,rfl,h2,h3,h4,h5,rfl⟩:=hr;obtain⟨F,g1,g2,g3⟩:=b9k ps (i:=i+1) (X:=(b::f1)++X) h5 (fun j u hj=>by have:=hv (j+1) u (by simpa using hj);rwa [show i+(j+1)=i+1+j by omega] at this) (hrel.permX (by
   rw[←Ae];exact Az X Aw))
  have htm:a.tm i=v:=hv 0 v rfl;exact⟨_,g1.consTop g2 (s:=.box t x.1) ⟨b,c,f1,by rw[htm];exact h2,h3,rfl,h4⟩ trivial,a6v g2 trivial,by rw[htm];rfl,g3⟩
 |.sio t::ps,i,vs,x,fp,X,hr,hv,hrel=>by
  obtain⟨v,vs',cs,f1,f2,rfl,h2,h3,h4,rfl⟩:=hr;obtain⟨F,g1,g2,g3⟩:=b9k ps (i:=i+1) (X:=f1++X) h4 (fun j u hj=>by have:=hv (j+1) u (by simpa using hj);rwa [show i+(j+1)=i+1+j by omega] at this) (hrel.permX (by
   rw[←Ae];exact Az X Aw))
  have htm:a.tm i=v:=hv 0 v rfl;exact⟨_,g1.consTop g2 (s:=.val t x.1) ⟨cs,by rw[htm];exact h2,h3⟩ trivial,a6v g2 trivial,by rw[htm];rfl,g3⟩
theorem d9f(hmix:P.follows .mixedOrders=true)(htab:a3c P C)(hft:FtOK A P C){H:Hints}{n:Nat}{f:FuncId}{fn:Func}(hf:P.funcs[f]?=some fn){sg:Sig}{G:sg.arg→Option sg.res}(hG:∀x y,G x=some y→d1b C H n fn sg x=some y) :
  a6z A P C f sg G:=by
 intro x y hy Z w vs fp hglob hzb hargs hnd hdis;have hk:=hG x y hy;unfold d1b at hk;split at hk
 ·rename_i c hb;dsimp only at hk;have hC:∃C':Ctx,C'=⟨fn.ntmps,C.ty,C.ft,C.gl,b6r 0 sg.ps,C.frz,C.el⟩:=⟨_,rfl⟩
  obtain⟨C',hC'⟩:=hC;rw[←hC'] at hk;have htab':a3c P C':=b9u (C:=C) (by rw[hC']) htab;have hft':FtOK A P C':=c3v (C:=C) (by rw[hC']) (by rw[hC']) hft;refine calls_of_wp hf hb ?_;have ha:∃a0:Act,a0={ tmps:=vs++Array.replicate (fn.ntmps - vs.size) undef,defers:=[] }:=⟨_,rfl⟩
  obtain⟨a0,ha0⟩:=ha;rw[←ha0];have htm:∀j v,vs.toList[j]?=some v→a0.tm (0+j)=v:=by
   intro j v hj;rw[BU] at hj;have hjs:j<vs.size:=by
    rcases BQ j vs.size with h|h
    ·exact h
    ·rw[Cn h] at hj;simp at hj
   rw[ha0,Nat.zero_add];unfold Act.tm;rw[Array.getD_eq_getD_getElem?,Array.getElem?_append_left hjs,hj];rfl
  have h0:Rel A P C' ⟨Z,w,fun b=>b∈fp,fun i=>if i∈b6r 0 sg.ps then some (a0.tm i) else none⟩ [] a0 w Z (fun _=>[]) (fp++[]):=by
   rw[A9];refine⟨fun i=>rfl,fun i=>trivial,fun i=>Ax,fun i j b hb=>by simp at hb,fun i b hb=>by simp at hb,fun i b hb=>by simp at hb,fun i b hb=>by simp at hb,hnd,fun i b hb=>by simp at hb,hdis,b9i hargs,fun b hb=>.inl hb,hzb,fun b=>id,fun b=>.inl,
    Ar _,fun _ _ _=>rfl,rfl,rfl,rfl,by rw[ha0],?_,c7z (C:=C) (by rw[hC']) hglob,fun i v hv=>?_⟩
   ·rw[hC',ha0];simp;omega
   ·dsimp only at hv;split at hv
    ·exact Ag hv
    ·simp at hv
  obtain⟨F,h1,_,h2⟩:=b9k sg.ps (i:=0) hargs htm h0;have hfix:b9y C' ⟨Z,w,fun b=>b∈fp,fun i=>if i∈b6r 0 sg.ps then some (a0.tm i) else none⟩:=by
   intro i v hv;dsimp only at hv;split at hv
   ·rw[hC'];assumption
   ·simp at hv
  have hend:∀(e1:En) (a1:Act) (w1:World) (Z1:Nat→Prop) (F1:Nat→List Nat),(rsOf C' sg.rs fn.results.toList e1 fun y e'=>d7r e' 0 sg.ps fun z=>some (y,z))=some y→Rel A P C' ⟨Z,w,fun b=>b∈fp,fun i=>if i∈b6r 0 sg.ps then some (a0.tm i) else none⟩ e1 a1 w1 Z1 F1 [] →
    a1.defers=[]∧∃v,(results fn a1.tmps).run P w1=.ok v w1∧∃v' Z' fr fi,Ending.returned v=.returned v'∧c7r A P Z' w1.heap sg.rs v' y.1 fr∧b0u A P Z' w1.heap sg.ps vs.toList y.2 fi∧Step Z w fp Z' w1 (fr++fi):=by
   intro e1 a1 w1 Z1 F1 hk1 hr1;obtain⟨y1,e2,Z2,F2,fr,us,hk2,g1,g2,g3,g4⟩:=b9o htab' hft' sg.rs fn.results.toList hr1 hk1;have hheld:b6t a1 0 sg.ps vs.toList:=h2.same fun j hj=>hr1.fix j _ (by simp[hj])
   obtain⟨y2,e3,Z3,F3,fi,hk3,k1,k2,k3⟩:=b6g sg.ps g1 hheld hk2;simp only[Ad] at hk3;subst hk3;refine⟨hr1.defs,_,d9q g4,_,Z3,fr,fi,rfl,⟨us,?_,rfl⟩,k3,?_⟩
   ·have:∀{rs:List RS} {us:List Value} {y:b7i rs} {f:List Nat},d5h A P Z2 w1.heap rs us y f→d5h A P Z3 w1.heap rs us y f:=by
     intro rs
     induction rs with
     |nil=>intro us y f h;exact h
     |cons p rs ih =>
      intro us y f h;obtain⟨v,vs',f1,f2,q1,q2,q3,q4⟩:=h;refine⟨v,vs',f1,f2,q1,?_,ih q3,q4⟩;cases p with
      |val t=>obtain⟨cs,u1,u2⟩:=q2;exact⟨cs,u1,a0g u2 k2 fun _ _=>rfl⟩
      |box t=>obtain⟨b,c,f3,u1,u2,u3,u4⟩:=q2;exact⟨b,c,f3,u1,u2,a0g u3 k2 fun _ _=>rfl,u4⟩
    exact this g3
   ·rw[A9] at k1;have hp:(fi++fr).Perm (fr++fi):=Aw;have k1':=k1.permX hp;exact⟨fun b hb=>k1.z b hb,k1.hs,fun b hb hn=>k1.keep b hb hn,fun b hb=>k1.znew b hb,fun b hb=>k1'.xnew b hb,k1.os,k1.out,k1.tape,k1.zb,k1'.xb,k1'.xnotZ,k1'.xnodup⟩
  refine e4s hmix c htab' hft' hfix h1 ⟨fun e1 a1 w1 Z1 F1 q1 q2=>?_,fun e1 a1 w1 Z1 F1 q1 q2=>?_,fun id k hfe=>by simp[a8h] at hfe⟩ hk
  ·exact hend e1 a1 w1 Z1 F1 q1 q2
  ·exact hend e1 a1 w1 Z1 F1 q1 q2
 ·simp at hk
end Go.Rb

namespace Go.Rb
open Go.RowKit
variable {A:Amb} {P:Program} {Z Z':Nat→Prop} {h h':Array Obj} {R:Type} {C C':Ctx} {w w':World} {H:Type} {enc:TypeId×Value→H} {sp:Nat→Bool}
theorem Step.below{B:Nat}{fp':List Nat}(hs:Step (fun b=>b<w.heap.size) w [] Z' w' fp')(hB:B≤w.heap.size):Below B w w' :=
 ⟨hs.os,hs.tape,hs.out,hs.size,fun k hk=>hs.keep k (by omega) (by simp)⟩
def Ty.data:Ty→Bool
 |.int _|.bool|.str|.unit=>true
 |.sl .imm _ t=>t.data
 |.st t=>t.data
 |.pair a b=>a.data&&b.data
 |.arr _ t=>t.data
 |_=>false
theorem b2s{α β:Type}{f:α→Option β}:∀{l:List α} {r:List β},l.mapM f=some r→r.length=l.length∧∀i (h1:i<l.length) (h2:i<r.length),f l[i]=some r[i]
 |[],r,h=>by
  simp at h;subst h;exact⟨rfl,fun i h1=>by simp at h1⟩
 |x::l,r,h=>by
  rw[Es] at h;simp only[EA,Bv,Ff,Ad] at h;obtain⟨y,h1,ys,h2,rfl⟩:=h;obtain⟨h3,h4⟩:=b2s h2;refine⟨by simp[h3],fun i g1 g2=>?_⟩;cases i with
  |zero=>exact h1
  |succ i=>exact h4 i (by simpa using g1) (by simpa using g2)
theorem e2z{a:Addr}(hs:a.spot=none){j:Nat}:a.add j=⟨a.block,a.off+j,none⟩:=by
 unfold CO;split
 ·rename_i hj;subst hj;cases a;simp at hs;subst hs;rfl
 ·cases a;simp at hs;subst hs;rfl
theorem d8z{a:Addr}{n:Nat}{cs:List Value}(hc:w.cells? 0 a n=some cs)(hn:1≤n):Row w.heap a n cs∧a.block<w.heap.size:=by
 unfold World.cells? at hc;simp only[A8,if_true] at hc;obtain⟨h1,h2⟩:=b2s hc;simp only[Dx] at h1;have hcell:∀i (hi:i<n),w.cell? (a.add i)=some (cs[i]'(by omega)):=fun i hi=>by
  have:=h2 i (by simpa using hi) (by omega);simpa using this
 have h0:=hcell 0 (by omega);unfold C5 at h0;split at h0
 ·rename_i c el fr hb;split at h0
  ·simp at h0
  ·rename_i hs;have hs':a.spot=none:=by simpa[CO] using hs
   have hb':w.heap[a.block]?=some (.cells c el fr):=by simpa[CO] using hb
   refine⟨⟨hs',h1,c,el,fr,hb',fun j hj=>?_⟩,?_⟩
   ·have:=hcell j hj;rw[e2z hs'] at this;unfold C5 at this;simp only[hb'] at this;rw[Bb (by omega)];simpa using this
   ·rcases BQ a.block w.heap.size with h|h
    ·exact h
    ·rw[Cn h] at hb';simp at hb'
 ·simp at h0
theorem e8k{a:Addr}{n m:Nat}(hm:1≤m)(hn:1≤n){f:Nat→List Value}(hc:∀i,i<n→w.cells? 0 (a.add (i*m)) m=some (f i)) :
  a.spot=none∧a.block<w.heap.size∧∃cells,Row w.heap a (n*m) cells∧∀i,i<n→seg cells (i*m) m=f i:=by
 obtain⟨⟨h1,h2,c,el,fr,h3,h4⟩,h5⟩:=d8z (hc 0 (by omega)) hm;rw[Nat.zero_mul] at h1 h3 h4 h5;have hz:a.add 0=a:=by unfold CO;simp
 rw[hz] at h1 h3 h4 h5;have hrow:∀i,i<n→(f i).length=m∧∀j,j<m→c[a.off+(i*m+j)]?=(f i)[j]?:=by
  intro i hi;obtain⟨⟨_,g2,c',el',fr',g3,g4⟩,_⟩:=d8z (hc i hi) hm;rw[e2z h1] at g3 g4;rw[h3] at g3;simp only[Ad,Obj.cells.injEq] at g3;obtain⟨rfl,_,_⟩:=g3;exact⟨g2,fun j hj=>by rw[←g4 j hj,←Nat.add_assoc]⟩
 have hsz:a.off+n*m≤c.size:=by
  obtain⟨g1,g2⟩:=hrow (n - 1) (by omega);have:=g2 (m - 1) (by omega);rw[Bb (by omega)] at this;obtain⟨hlt,_⟩:=Array.getElem?_eq_some_iff.1 this;have:(n - 1)*m+m=n*m:=by
   obtain⟨k,rfl⟩:∃k,n=k+1:=⟨n - 1,by omega⟩
   simp[AC]
  omega
 refine⟨h1,h5,(c.toList.drop a.off).take (n*m),⟨h1,by simp;omega,c,el,fr,h3,fun j hj=>?_⟩,fun i hi=>?_⟩
 ·rw[CQ hj,Bg,BU]
 ·obtain⟨g1,g2⟩:=hrow i hi;have hle:i*m+m≤n*m:=by
   have:=Ai m (show i+1≤n from hi);rwa [AC] at this
  refine List.ext_getElem? fun j=>?_
  unfold seg;by_cases hj:j<m
  ·rw[CQ hj,Bg,CQ (by omega),Bg,BU,g2 j hj]
  ·rw[BW (by simp;omega),BW (by omega)]
theorem b8v{t:TypeId}{ty:Ty}(ht:TyFact P C t ty):P.cellsOf t=ty.size:=by
 obtain⟨i,d,h1,_,h3,_⟩:=ht.ex;simp[Program.cellsOf,h1,h3]
theorem d9u{te:Ty}{Q:Nat→te.den→Prop}:∀(n:Nat),(∀i,i<n→∃x,Q i x)→∃l:List te.den,l.length=n∧∀i (hi:i<l.length),Q i l[i]
 |0,_=>⟨[],rfl,fun i hi=>by simp at hi⟩
 |n+1,h=>by
  obtain⟨l,h1,h2⟩:=d9u n fun i hi=>h i (by omega)
  obtain⟨x,hx⟩:=h n (by omega);refine⟨l++[x],by simp[h1],fun i hi=>?_⟩;by_cases hil:i<l.length
  ·rw[List.getElem_append_left hil];exact h2 i hil
  ·have:i=n:=by simp at hi;omega
   subst this;rw[List.getElem_append_right (by omega)];simpa[h1] using hx
theorem b4z{e:TypeId}:∀{l:List (DataW H)},(Fg P e l).all (·≤reachBytes)=true→∀d,d∈l→(d.weights P e).all (·≤reachBytes)=true
 |[],_,d,hd=>by simp at hd
 |x::l,h,d,hd=>by
  rw[Fg,Ek,Af] at h;rcases A3.1 hd with rfl|hd
  ·exact h.1
  ·exact b4z h.2 d hd
theorem d1y:reachBytes≤room:=by decide
theorem d1r(htab:a3c P C){fuel:Nat}{Z:Nat→Prop}(ih:∀(ty:Ty) (t:TypeId) (cs:List Value) (d:DataW H) (ps:List MemPlace),ty.data=true→C.ty t=some ty→Bn enc P w 0 sp true fuel t cs=some (d,ps)→(d.weights P t).all (·≤reachBytes)=true→∃x,Rep A P ty Z w.heap cs x []) :
  ∀(fs:List Field) (p:Ty) (o:Nat) (cs:List Value) (xs:List (DataW H×List MemPlace)),p.data=true→a8r C fs p o→cs.length=o+p.size→fs.mapM (fun f=>Bn enc P w 0 sp true fuel f.type ((cs.drop f.offset).take (P.cellsOf f.type)))=some xs →
   (Dy P (fs.map (·.type)) (xs.map (·.1))).all (·≤reachBytes)=true→∃x,Rep A P p Z w.heap (cs.drop o) x []
 |[],p,o,cs,xs,hd,hf,hl,hx,hw=>by
  cases p <;> simp only[a8r] at hf;refine⟨(),?_,rfl⟩;simp[Ty.size] at hl;exact List.drop_eq_nil_of_le (by omega)
 |f::fs,p,o,cs,xs,hd,hf,hl,hx,hw=>by
  cases p <;> simp only[a8r] at hf;rename_i a b;obtain⟨h1,h2,h3,h4⟩:=hf;simp only[Ty.data,Af] at hd;simp only[Ty.size] at hl;rw[Es] at hx;simp only[EA,Bv,Ff,Ad] at hx;obtain⟨y,g1,ys,g2,rfl⟩:=hx;simp only[Bc,Dy,Ek,Af] at hw;rw[b8v (htab _ _ h2),h1] at g1;obtain⟨x1,k1⟩:=ih a f.type _ y.1 y.2 hd.1 h2 g1 hw.1;obtain⟨x2,k2⟩:=d1r htab ih fs b (o+a.size) cs ys hd.2 h4 (by omega) g2 hw.2;refine⟨(x1,x2),_,_,[],[],?_,rfl,k1,k2⟩;rw[←List.drop_drop,List.take_append_drop]
end Go.Rb

namespace Go.Rb
open Go.RowKit
variable {A:Amb} {P:Program} {C:Ctx} {w:World} {H:Type} {enc:TypeId×Value→H} {sp:Nat→Bool}
theorem f3z{fuel:Nat}{t:TypeId}{k:IntKind}{cs:List Value}{d:DataW H}{ps:List MemPlace}(hu:P.underlying t=some (.int k))(hr:Bn enc P w 0 sp true (fuel+1) t cs=some (d,ps)) :
  ∃n,cs=[.int k n]∧(Lit.int k n).wf=true∧d=.lit (.int k n):=by
 unfold Bn at hr;rw[hu] at hr;split at hr <;> rename_i h <;> try (first|(cases h;done)|(simp at h;done))
 all_goals first
  |(simp at hr;done)
  |(
    cases h;split at hr
    ·rename_i h2;obtain⟨rfl,h3⟩:=h2;simp at hr;exact⟨_,rfl,h3,hr.1.symm⟩
    ·simp at hr)
theorem e9k{fuel:Nat}{t:TypeId}{cs:List Value}{d:DataW H}{ps:List MemPlace}(hu:P.underlying t=some .bool)(hr:Bn enc P w 0 sp true (fuel+1) t cs=some (d,ps)) :
  ∃b,cs=[.bool b]∧d=.lit (.bool b):=by
 unfold Bn at hr;rw[hu] at hr;split at hr <;> rename_i h <;> try (first|(cases h;done)|(simp at h;done))
 all_goals first
  |(simp at hr;done)
  |(
    simp at hr;exact⟨_,rfl,hr.1.symm⟩)
theorem f2u{fuel:Nat}{t:TypeId}{cs:List Value}{d:DataW H}{ps:List MemPlace}(hu:P.underlying t=some .string)(hr:Bn enc P w 0 sp true (fuel+1) t cs=some (d,ps)) :
  ∃s:ByteArray,cs=[.string s]∧d=.lit (.string s.data.toList):=by
 unfold Bn at hr;rw[hu] at hr;split at hr <;> rename_i h <;> try (first|(cases h;done)|(simp at h;done))
 all_goals first
  |(simp at hr;done)
  |(
    simp at hr;exact⟨_,rfl,hr.2.1.symm⟩)
theorem e4g{fuel:Nat}{t e:TypeId}{cs:List Value}{d:DataW H}{ps:List MemPlace}(hu:P.underlying t=some (.slice e))(hr:Bn enc P w 0 sp true (fuel+1) t cs=some (d,ps)) :
  (cs=[.slice none 0 0]∧d=.nil)∨∃a len cap,∃(elems rest:List (DataW H×List MemPlace)),cs=[.slice (some a) len cap]∧len≤cap ∧
   ((Ck len).mapM fun i=>(w.cells? 0 (a.add (i*P.cellsOf e)) (P.cellsOf e)).bind (Bn enc P w 0 sp true fuel e))=some elems∧d=.slice (elems.map (·.1)) (rest.map (·.1)):=by
 unfold Bn at hr;rw[hu] at hr;split at hr <;> rename_i h <;> try (first|(cases h;done)|(simp at h;done))
 all_goals first
  |(simp at hr;done)
  |skip
 ·simp at hr;exact .inl ⟨rfl,hr.1.symm⟩
 ·cases h;right;simp only[A8,true_and] at hr;split at hr
  ·rename_i h1;simp only[Bv,AS] at hr;obtain⟨elems,h2,rest,h3,h4⟩:=hr;simp only[Aj] at h4;exact⟨_,_,_,elems,rest,rfl,h1.1,h2,h4.1.symm⟩
  ·simp at hr
theorem d9r{fuel:Nat}{t:TypeId}{fs:Array Field}{cs:List Value}{d:DataW H}{ps:List MemPlace}(hu:P.underlying t=some (.struct fs))(hr:Bn enc P w 0 sp true (fuel+1) t cs=some (d,ps)) :
  cs.length=P.cellsOf t∧∃xs:List (DataW H×List MemPlace),(fs.toList.mapM fun f=>Bn enc P w 0 sp true fuel f.type ((cs.drop f.offset).take (P.cellsOf f.type)))=some xs∧d=.agg (xs.map (·.1)):=by
 unfold Bn at hr;rw[hu] at hr;dsimp only at hr;split at hr
 ·rename_i h1;simp only[AS] at hr;obtain⟨xs,h2,h3⟩:=hr;simp only[Aj] at h3;exact⟨h1,xs,h2,h3.1.symm⟩
 ·simp at hr
theorem e4m{fuel:Nat}{t e:TypeId}{n:Nat}{cs:List Value}{d:DataW H}{ps:List MemPlace}(hu:P.underlying t=some (.array n e))(hr:Bn enc P w 0 sp true (fuel+1) t cs=some (d,ps)) :
  cs.length=P.cellsOf t∧∃xs:List (DataW H×List MemPlace),((Ck n).mapM fun i=>Bn enc P w 0 sp true fuel e ((cs.drop (i*P.cellsOf e)).take (P.cellsOf e)))=some xs∧d=.agg (xs.map (·.1)):=by
 unfold Bn at hr;rw[hu] at hr;dsimp only at hr;split at hr
 ·rename_i h1;simp only[AS] at hr;obtain⟨xs,h2,h3⟩:=hr;simp only[Aj] at h3;exact⟨h1,xs,h2,h3.1.symm⟩
 ·simp at hr
theorem c8o(htab:a3c P C):∀(fuel:Nat) (ty:Ty) (t:TypeId) (cs:List Value) (d:DataW H) (ps:List MemPlace),ty.data=true→C.ty t=some ty→Bn enc P w 0 sp true fuel t cs=some (d,ps)→(d.weights P t).all (·≤reachBytes)=true →
  ∃x,Rep A P ty (fun b=>b<w.heap.size) w.heap cs x []
 |0,ty,t,cs,d,ps,hd,ht,hr,hw=>by simp[Bn] at hr
 |fuel+1,ty,t,cs,d,ps,hd,ht,hr,hw=>by
  have ih:=c8o htab fuel;have htf:=htab t ty ht;have hsz:=b8v htf;obtain⟨i,desc,_,hu,_,hkind,_⟩:=htf.ex;cases ty with
  |int k =>
   cases desc <;> simp only[a7i] at hkind;subst hkind;obtain⟨n,rfl,h1,_⟩:=f3z hu hr;simp[Lit.wf] at h1;exact⟨_,rfl,rfl,h1⟩
  |bool =>
   cases desc <;> simp only[a7i] at hkind;obtain⟨b,rfl,_⟩:=e9k hu hr;exact⟨_,rfl,rfl⟩
  |str =>
   cases desc <;> simp only[a7i] at hkind;obtain⟨s,rfl,rfl⟩:=f2u hu hr;simp only[Dp,Cc,List.all_nil,Bool.and_true,decide_eq_true_eq,AN] at hw;exact⟨_,rfl,_,rfl,rfl,AM hw d1y⟩
  |unit=>cases desc <;> simp only[a7i] at hkind
  |pair a b=>cases desc <;> simp only[a7i] at hkind
  |st p =>
   cases desc <;> simp only[a7i] at hkind;rename_i fs;obtain⟨h1,xs,h2,rfl⟩:=d9r hu hr;simp only[Dp,hu] at hw;obtain⟨x,hx⟩:=d1r (A:=A) htab ih fs.toList p 0 cs xs hd hkind (by rw[h1,hsz];simp[Ty.size]) h2 hw;exact⟨x,hx⟩
  |arr n te =>
   cases desc <;> simp only[a7i] at hkind;rename_i n' el;obtain⟨rfl,hte,hpure,hts⟩:=hkind;obtain⟨h1,xs,h2,rfl⟩:=e4m hu hr;have hce:=b8v (htab el te hte);rw[hce] at h2;obtain⟨h3,h4⟩:=b2s h2;simp only[Dx] at h3;simp only[Dp,hu] at hw;obtain⟨l,hl,hq⟩:=d9u (te:=te) (Q:=fun i x=>Rep A P te (fun b=>b<w.heap.size) w.heap (seg cs (i*te.size) te.size) x []) n' fun i hi=>by
    have h5:=h4 i (by simpa using hi) (by omega);simp only[EV] at h5;exact ih te el _ (xs[i]'(by omega)).1 (xs[i]'(by omega)).2 hd hte h5 (b4z hw _ (Cs.2 ⟨_,A1 _,rfl⟩))
   exact⟨l,rfl,hpure,hl,by rw[h1,hsz];rfl,hq⟩
  |sl m e te =>
   cases desc <;> simp only[a7i] at hkind;rename_i el;obtain⟨rfl,hte,rfl,he1,hpure,hts⟩:=hkind;rcases e4g hu hr with⟨rfl,rfl⟩|⟨a,n,cap,elems,rest,rfl,hnc,hel,rfl⟩
   ·exact⟨([]:List te.den),none,0,0,rfl,rfl,rfl,Ar 0,by simp,by simp,.inl rfl⟩
   have hce:=b8v (htab el te hte);rw[hce] at hel;obtain⟨h3,h4⟩:=b2s hel;simp only[Dx] at h3;simp only[Dp,hu,Cc,Ek,Af,decide_eq_true_eq,List.length_map] at hw;obtain⟨hw1,hw2,_⟩:=hw;have hb:n*P.bytesOf el≤room:=by
    refine AM ?_ (AM hw1 d1y);exact Ai _ (by omega)
   have hnr:n≤room:=AM (by have:=Nat.mul_le_mul_left n he1;omega) hb;rcases Nat.eq_zero_or_pos n with rfl|hn
   ·exact⟨([]:List te.den),some a,0,cap,rfl,rfl,rfl,hnc,hb,hnr,.inl rfl⟩
   have h5:∀i (hi:i<n),∃c,w.cells? 0 (a.add (i*te.size)) te.size=some c∧Bn enc P w 0 sp true fuel el c=some (elems[i]'(by omega)):=fun i hi=>by
    have:=h4 i (by simpa using hi) (by omega);simp only[EV,Bv] at this;exact this
   obtain⟨k1,k2,cells,k3,k4⟩:=e8k (w:=w) (a:=a) (n:=n) (m:=te.size) hts hn (f:=fun i=>(w.cells? 0 (a.add (i*te.size)) te.size).getD []) fun i hi=>by
    obtain⟨c,hc,_⟩:=h5 i hi;simp only[hc,Dw]
   obtain⟨l,hl,hq⟩:=d9u (te:=te) (Q:=fun i x=>Rep A P te (fun b=>b<w.heap.size) w.heap (seg cells (i*te.size) te.size) x []) n fun i hi=>by
    obtain⟨c,hc,hc2⟩:=h5 i hi;rw[k4 i hi];simp only[hc,Dw];exact ih te el c (elems[i]'(by omega)).1 (elems[i]'(by omega)).2 hd hte hc2 (b4z hw2 _ (Cs.2 ⟨_,A1 _,rfl⟩))
   exact⟨l,some a,n,cap,rfl,rfl,hl.symm,hnc,hb,hnr,.inr ⟨a,cells,rfl,k2,k3,hq⟩⟩
  |_=>simp[Ty.data] at hd
end Go.Rb

namespace Go.Rb
variable {A:Amb} {P:Program} {C C':Ctx}
def find?{α:Type}:List (Nat×α)→Nat→Option α
 |[],_=>none
 |(j,x)::l,i=>match AB j i with
  |true=>some x
  |false=>find? l i
theorem b4f{α:Type}{i:Nat}{x:α}:∀{l:List (Nat×α)},find? l i=some x→(i,x)∈l
 |[],h=>by simp[find?] at h
 |(j,y)::l,h=>by
  unfold find? at h;split at h
  ·rename_i hb;obtain rfl:=AF hb;obtain rfl:=Ag h;exact List.mem_cons_self
  ·exact AE _ (b4f h)
def tyIs(T:Nat→Option Ty)(i:Nat)(t:Ty):Bool:=match T i with
 |some t'=>decide (t'=t)
 |none=>false
theorem d2q{T:Nat→Option Ty}{i:Nat}{t:Ty}(h:tyIs T i t=true):T i=some t:=by
 unfold tyIs at h;split at h
 ·rename_i t' ht;rw[ht,of_decide_eq_true h]
 ·simp at h
def c8q(T:Nat→Option Ty):List Field→Ty→Nat→Bool
 |[],.unit,_=>true
 |f::fs,.pair a b,o=>AB f.offset o&&tyIs T f.type a&&Fs 1 a.size&&c8q T fs b (o+a.size)
 |_,_,_=>false
theorem d1j:∀{fs:List Field} {p:Ty} {o:Nat},c8q C.ty fs p o=true→a8r C fs p o
 |[],p,o,h=>by cases p <;> simp[c8q,a8r] at *
 |f::fs,p,o,h=>by
  cases p <;> simp only[c8q,a8r,Af,AJ] at *;obtain⟨⟨⟨h1,h2⟩,h3⟩,h4⟩:=h;exact⟨AF h1,d2q h2,Ct h3,d1j h4⟩
def g2i:Md→Bool
 |.imm=>true
 |_=>false
def f5b(P:Program)(T:Nat→Option Ty):TypeDesc→Ty→Bool
 |.int k,.int k'=>decide (k=k')
 |.bool,.bool=>true
 |.string,.str=>true
 |.slice el,.sl m e te=>g2i m&&tyIs T el te&&AB (P.bytesOf el) e&&Fs 1 e&&te.pure&&Fs 1 te.size
 |.struct fs,.st p=>c8q T fs.toList p 0
 |.array n el,.arr m te=>AB n m&&tyIs T el te&&te.pure&&Fs 1 te.size
 |.interface _,.err=>true
 |.func _ _ _,.fn _ _=>true
 |.func _ _ _,.fn2 _ _ _=>true
 |.func _ _ _,.lf (.cfs _)=>true
 |.map k el,.lf (.fmap l)=>(match P.underlying k with|some (.int .i64)=>true|_=>false)&&tyIs T el (b6z l)
 |.pointer _,.ptr _=>true
 |_,_=>false
theorem f4i{d:TypeDesc}{ty:Ty}(h:f5b P C.ty d ty=true):a7i P C d ty:=by
 by_cases hlf:∃q,ty=.lf q
 ·obtain⟨q,rfl⟩:=hlf;cases d <;> cases q <;> simp only[f5b,a7i,Af,AJ] at *;obtain⟨h1,h2⟩:=h;refine⟨?_,d2q h2⟩;split at h1
  ·assumption
  ·cases h1
 cases d <;> cases ty <;> try (exact absurd ⟨_,rfl⟩ hlf)
 all_goals simp only[f5b,a7i,Af,decide_eq_true_eq,AJ] at *
 all_goals first
  |trivial
  |assumption
  |exact d1j h
  |(
    obtain⟨⟨⟨⟨⟨h1,h2⟩,h3⟩,h4⟩,h5⟩,h6⟩:=h;refine⟨?_,d2q h2,AF h3,Ct h4,h5,Ct h6⟩;rename_i m _ _;cases m <;> simp[g2i] at h1 ⊢)
  |(
    obtain⟨⟨⟨h1,h2⟩,h3⟩,h4⟩:=h;exact⟨AF h1,d2q h2,h3,Ct h4⟩)
def e2g:Value→Value→Bool
 |.int k n,.int k' n'=>decide (k=k')&&decide (n=n')
 |.bool b,.bool b'=>decide (b=b')
 |.string s,.string s'=>s.data.toList.isEmpty&&s'.data.toList.isEmpty
 |.slice none a b,.slice none a' b'=>AB a a'&&AB b b'
 |.nilIface,.nilIface=>true
 |.nilFunc,.nilFunc=>true
 |_,_=>false
theorem d9e{v u:Value}(h:e2g v u=true):v=u∧∀a,v≠.agg a:=by
 unfold e2g at h;split at h
 ·simp only[Af,decide_eq_true_eq] at h;obtain⟨rfl,rfl⟩:=h;exact⟨rfl,by simp⟩
 ·simp only[decide_eq_true_eq] at h;subst h;exact⟨rfl,by simp⟩
 ·rename_i s s';simp only[Af,List.isEmpty_iff] at h;obtain⟨h1,h2⟩:=h;refine⟨?_,by simp⟩;cases s with|mk a=>cases s' with|mk b =>
  cases a;cases b;simp at h1 h2;subst h1 h2;rfl
 ·simp only[Af] at h;obtain⟨h1,h2⟩:=h;obtain rfl:=AF h1;obtain rfl:=AF h2;exact⟨rfl,by simp⟩
 ·exact⟨rfl,by simp⟩
 ·exact⟨rfl,by simp⟩
 ·simp at h
def d1c:List Value→List Value→Bool
 |[],[]=>true
 |v::l,u::r=>e2g v u&&d1c l r
 |_,_=>false
theorem d6h:∀{l r:List Value},d1c l r=true→l=r
 |[],[],_=>rfl
 |v::l,u::r,h=>by
  simp only[d1c,Af] at h;rw[(d9e h.1).1,d6h h.2]
 |[],_::_,h=>by simp[d1c] at h
 |_::_,[],h=>by simp[d1c] at h
def vcB(agg:Bool)(v:Value)(z:List Value):Bool:=match agg with
 |true=>match v with
  |.agg a=>d1c a.toList z
  |_=>false
 |false=>match z with
  |[u]=>e2g v u
  |_=>false
theorem g2p{ty:Ty}{v:Value}{z:List Value}(h:vcB ty.agg v z=true):VC ty v z:=by
 unfold vcB at h;unfold VC;split at h
 ·rename_i hb;rw[hb,if_pos rfl];split at h
  ·rw[←d6h h]
  ·simp at h
 ·rename_i hb;rw[hb,if_neg (by simp)];split at h
  ·obtain⟨rfl,h2⟩:=d9e h;exact⟨rfl,h2⟩
  ·simp at h
def g1h(ty:Ty)(i:Option Value):Bool:=match zeroCells ty with
 |none=>true
 |some z=>match i with
  |some v=>vcB ty.agg v z
  |none=>false
def eqB(P:Program)(t:TypeId)(ty:Ty)(d:TypeDesc):Bool:=match ty.eqOK with
 |false=>true
 |true=>match d with
  | .struct fs => (match P.stoodInHeld t with | true => false | false => true) && (match P.eqGuardType P.depth t with | true => false | false => true) && fs.toList.all fun f => (match decide (f.name = "_") with | true => false | false => true)
  |_=>true
def ptrB(ty:Ty)(z:Option Value):Bool:=match ty with
 |.ptr _=>match z with
  |some (.pointer none)=>true
  |_=>false
 |_=>true
def tyB(P:Program)(T:Nat→Option Ty)(t:TypeId)(ty:Ty):Bool:=match P.info? t,P.underlying t with
 |some i,some d=>AB i.size ty.size&&f5b P T d ty&&g1h ty i.zero&&eqB P t ty d&&ptrB ty i.zero
 |_,_=>false
theorem g2d{t:TypeId}{ty:Ty}(h:tyB P C.ty t ty=true):TyFact P C t ty:=by
 unfold tyB at h;split at h
 ·rename_i i d h1 h2;simp only[Af] at h;obtain⟨⟨⟨⟨h3,h4⟩,h5⟩,h6⟩,hp⟩:=h;refine⟨⟨i,d,h1,h2,AF h3,f4i h4,fun z hz=>?_⟩,fun he fs hfs=>?_,fun te hte=>?_⟩
  ·unfold g1h at h5;rw[hz] at h5;dsimp only at h5;split at h5
   ·rename_i v hv;exact⟨v,hv,g2p h5⟩
   ·simp at h5
  ·rw[h2] at hfs;obtain rfl:=Ag hfs;unfold eqB at h6;rw[he] at h6;simp only[Af] at h6;obtain⟨⟨h7,h8⟩,h9⟩:=h6;refine⟨?_,?_,fun f hf=>?_⟩
   ·split at h7
    ·simp at h7
    ·assumption
   ·split at h8
    ·simp at h8
    ·assumption
   ·have:=BZ.1 h9 f hf;split at this
    ·simp at this
    ·rename_i h10;exact of_decide_eq_false h10
  ·subst hte;unfold ptrB at hp;dsimp only at hp;split at hp
   ·rename_i hz;exact⟨i,h1,hz⟩
   ·simp at hp
 ·simp at h
def tabB(P:Program)(T:Nat→Option Ty):List (Nat×Ty)→Bool
 |[]=>true
 |(t,ty)::l=>tyB P T t ty&&tabB P T l
theorem e3f{T:Nat→Option Ty}{t:Nat}{ty:Ty}:∀{l:List (Nat×Ty)},tabB P T l=true→(t,ty)∈l→tyB P T t ty=true
 |(t',ty')::l,h,hm=>by
  simp only[tabB,Af] at h;rcases A3.1 hm with hm|hm
  ·cases hm;exact h.1
  ·exact e3f h.2 hm
 |[],_,hm=>by simp at hm
theorem g1e{l:List (Nat×Ty)}(h:tabB P (find? l) l=true)(hC:C.ty=find? l):a3c P C:=fun t ty ht=>by
 rw[hC] at ht;have:=e3f h (b4f ht);rw[←hC] at this;exact g2d this
theorem a6z.of{f:FuncId}{sg:Sig}{G:sg.arg→Option sg.res}(h:a6z A P C f sg G)(hg:C'.gl=C.gl):a6z A P C' f sg G:=fun x y hy Z w vs fp hgl=>h x y hy Z w vs fp ⟨fun g t x' hx=>hgl.var g t x' (by rw[hg];exact hx),hgl.amb⟩
def b5f(A:Amb)(P:Program)(C:Ctx)(p:Nat×FEnt):Prop:=a2o P p.1∧a6z A P C p.1 p.2.sig p.2.fn
theorem g3w{l:List (Nat×FEnt)}(hC:C.ft=find? l)(h:∀p,p∈l→b5f A P C p):FtOK A P C:=fun f sg G hf=>by
 rw[hC] at hf;exact h _ (b4f hf)
def b6x(A:Amb)(P:Program)(C:Ctx):List (Nat×FEnt)→Prop
 |[]=>True
 |p::l=>b5f A P C p∧b6x A P C l
theorem b6x.mem:∀{l:List (Nat×FEnt)},b6x A P C l→∀p,p∈l→b5f A P C p
 |[],_,p,hp=>by simp at hp
 |_::l,h,p,hp=>by
  rcases A3.1 hp with rfl|hp
  ·exact h.1
  ·exact b6x.mem h.2 p hp
theorem b6x.of{C':Ctx}(hg:C'.gl=C.gl):∀{l:List (Nat×FEnt)},b6x A P C l→b6x A P C' l
 |[],h=>h
 |_::_,h=>⟨⟨h.1.1,h.1.2.of hg⟩,b6x.of hg h.2⟩
theorem g1m{l:List (Nat×FEnt)}(hC:C.ft=find? l)(h:b6x A P C l):FtOK A P C:=g3w hC (b6x.mem h)
def e4t(P:Program)(f:FuncId):Bool:=match P.funcs[f]? with
 | some fn => (match fn.name == "runtime.NumGoroutine" with | true => false | false => true) && (match fn.body.isNone with | true => false | false => true)
 |none=>false
theorem a2a{f:FuncId}(h:e4t P f=true):a2o P f:=by
 unfold e4t at h;split at h
 ·rename_i fn hfn;simp only[Af] at h;obtain⟨h1,h2⟩:=h;refine⟨fn,hfn,?_,?_⟩
  ·split at h1
   ·simp at h1
   ·assumption
  ·split at h2
   ·simp at h2
   ·assumption
 ·simp at h
end Go.Rb

namespace Go.Rb
variable {R S:Type}
def Gets(o:Option R)(Q:R→Prop):Prop:=∃y,o=some y∧Q y
theorem Gets.some{y:R}{Q:R→Prop}(h:Q y):Gets (some y) Q:=⟨y,rfl,h⟩
theorem Gets.mono{o:Option R}{Q Q':R→Prop}(h:Gets o Q)(hq:∀y,Q y→Q' y):Gets o Q':=by
 obtain⟨y,h1,h2⟩:=h;exact⟨y,h1,hq y h2⟩
theorem Gets.bind{o:Option S}{f:S→Option R}{Q:R→Prop}{Q':S→Prop}(h:Gets o Q')(hf:∀y,Q' y→Gets (f y) Q):Gets (o.bind f) Q:=by
 obtain⟨y,rfl,h2⟩:=h;exact hf y h2
theorem Gets.atI{i:Int}{n:Nat}{x:Option R}{Q:R→Prop}(h0:0≤i)(h1:i<n)(h:Gets x Q):Gets (atI i n x) Q:=by
 unfold Rb.atI;rw[if_pos ⟨h0,h1⟩];exact h
theorem Gets.pos{c:Prop}[Decidable c]{x y:Option R}{Q:R→Prop}(hc:c)(h:Gets x Q):Gets (if c then x else y) Q:=by
 rw[if_pos hc];exact h
theorem Gets.neg{c:Prop}[Decidable c]{x y:Option R}{Q:R→Prop}(hc:¬c)(h:Gets y Q):Gets (if c then x else y) Q:=by
 rw[if_neg hc];exact h
theorem Gets.ite{c:Prop}[Decidable c]{x y:Option R}{Q:R→Prop}(h1:c→Gets x Q)(h2:¬c→Gets y Q):Gets (if c then x else y) Q:=by
 split
 ·exact h1 ‹_›
 ·exact h2 ‹_›
theorem Gets.dec{c:Prop}[Decidable c]{x y:Option R}{Q:R→Prop}(h1:c→Gets x Q)(h2:¬c→Gets y Q):Gets (if(decide c)=true then x else y) Q :=
 .ite (fun h=>h1 (of_decide_eq_true h)) (fun h=>h2 (fun hc=>h (decide_eq_true hc)))
theorem Gets.not{b:Bool}{x y:Option R}{Q:R→Prop}(h1:b=false→Gets x Q)(h2:b=true→Gets y Q):Gets (if(!b)=true then x else y) Q:=by
 cases b
 ·exact h1 rfl
 ·exact h2 rfl
theorem Gets.join{σ:Type}{f:σ→Option R}{g:(σ→Option R)→Option R}{Q:R→Prop}(I:σ→Prop)(h1:∀s,I s→Gets (f s) Q)(h2:∀J:σ→Option R,(∀s,I s→Gets (J s) Q)→Gets (g J) Q):Gets (a7w f g) Q:=h2 f h1
theorem e3o{σ:Type}{Q:Option R→Prop}{f:(σ→Option R)→σ→Option R}(I:σ→Prop)(μ:σ→Nat)(hf:∀rec s,I s→(∀s',I s'→μ s'<μ s→Q (rec s'))→Q (f rec s)) :
  ∀(n:Nat) (s:σ),I s→μ s<n→Q (a1b f n s)
 |0,s,_,h=>absurd h (by omega)
 |n+1,s,hi,h=>hf _ s hi fun s' hi' hlt=>e3o I μ hf n s' hi' (by omega)
theorem Gets.iter{σ:Type}{Q:R→Prop}{f:(σ→Option R)→σ→Option R}{n:Nat}{s:σ}(I:σ→Prop)(μ:σ→Nat)(hi:I s)(hn:μ s<n)(hf:∀rec s,I s→(∀s',I s'→μ s'<μ s→Gets (rec s') Q)→Gets (f rec s) Q):Gets (a1b f n s) Q :=
 e3o (Q:=fun o=>Gets o Q) I μ hf n s hi hn
theorem a0i{x:Int}(h1:-9223372036854775808≤x)(h2:x≤9223372036854775807):Aa.wrap x=x:=by
 simp only[Bh,Bi,AX,if_true];simp;split <;> omega
theorem f5o{x:Int}(h1:0≤x)(h2:x≤18446744073709551615):Au.wrap x=x:=by
 simp only[Bh,Bi,AX];simp;omega
theorem f0b{x:Int}(h1:0≤x)(h2:x≤255):A6.wrap x=x:=by
 simp only[Bh,Bi,AX];simp;omega
theorem f4u(x:Int):0≤A6.wrap x∧A6.wrap x≤255:=by
 simp only[Bh,Bi,AX];simp;omega
theorem f1g(x:Int):0≤Au.wrap x∧Au.wrap x≤18446744073709551615:=by
 simp only[Bh,Bi,AX];simp;omega
theorem a9f(x:Int):-9223372036854775808≤Aa.wrap x∧Aa.wrap x≤9223372036854775807:=by
 simp only[Bh,Bi,AX];simp;split <;> omega
theorem d0u{body:(Int→Option R)→Int→Option R}{len:Nat}{p:Nat→Bool}{g:Nat→Option R}{fin:Option R}(hb:∀rec (i:Nat),i<len→body rec (i:Int)=if p i=true then g i else rec ((i+1:Nat):Int))
  (he:∀rec,body rec (len:Int)=fin):∀(n i:Nat),i≤len→len - i<n→a1b body n (i:Int)=match(List.range' i (len - i)).find? p with|some j=>g j|none=>fin
 |0,i,_,h=>absurd h (by omega)
 |n+1,i,hi,hn=>by
  unfold a1b;by_cases hl:i<len
  ·rw[hb _ i hl,show len - i=(len - (i+1))+1 by omega,List.range'_succ,List.find?_cons];by_cases hp:p i=true
   ·rw[if_pos hp,hp]
   ·rw[if_neg hp,d0u hb he n (i+1) (by omega) (by omega)];simp only[hp]
  ·obtain rfl:i=len:=by omega
   rw[he,Nat.sub_self];rfl
theorem a7z{body:(Int→Option R)→Int→Option R}(len:Nat)(p:Nat→Bool)(g:Nat→Option R)(fin:Option R){n:Nat}(hn:len<n)(hb:∀rec (i:Nat),i<len→body rec (i:Int)=if p i=true then g i else rec ((i+1:Nat):Int))
  (he:∀rec,body rec (len:Int)=fin):a1b body n (0:Int)=match(Ck len).find? p with|some j=>g j|none=>fin:=by
 have:=d0u hb he n 0 (A8 _) (by simpa using hn);simpa[EE] using this
theorem a0d{i:Nat}(h:i<9223372036854775807):Aa.wrap ((i:Int)+1)=((i+1:Nat):Int):=by
 rw[a0i (by omega) (by omega)];simp
end Go.Rb
