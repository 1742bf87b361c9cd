/- Rb: operations, part 16: stores, joined. Own work. -/
import Derived.Test.YthkgkalebkbndaaGreatDoorRbB
import Derived.Orders
set_option autoImplicit false
set_option linter.unusedVariables false
set_option linter.unusedSimpArgs false
open Array renaming getD_eq_getD_getElem?->Bp,getElem?_toList->BU,length_toList->AN,toArray_toList->By,toList_inj->D4
open Bool renaming and_eq_true->Af,and_true->FS,not_eq_true'->B2,not_false->FI,true_or->FY
open Go renaming run_underlying->An
open Go.Addr.mk renaming injEq->B0
open Go.Builtin renaming clear_->B3,copy_->AP,firstCells->AD,lenOf->Bq,zeroCells->B1
open Go.Instr renaming checkKey->Fz,findKey->FH,findNow->FG,lookup->E5
open Go.IntKind renaming i64->Aa
open Go.Oper renaming upon_enter->Ei,wp->Ch
open Go.Operand.tmp renaming injEq->Iq
open Go.Region renaming wanted->Bs
open Go.Result renaming andThen_ok->AI
open Go.Sem renaming run_bind->AK,run_pure->BJ
open Go.Value renaming agg->Ih,int->Cv
open Go.Value.pointer renaming injEq->C9
open Go.Value.slice renaming injEq->AR
open Int renaming toNat_natCast->Ah,toNat_of_nonneg->B4
open List renaming all_cons->Cc,append_assoc->Ae,append_nil->A9,contains_eq_mem->Cy,drop->Ip,flatten_cons->Bt,getElem_append_left->BK,getElem_append_right->Br,getElem_take->Cq,length->Cj,length_take->A7,map_congr_left->EM,map_cons->Bc,mem_append->Aq,mem_append_left->Am,mem_append_right->Al,mem_cons->A3,mem_cons_of_mem->AE,mem_flatten->B6,nil_append->B5,nodup_append->Ak,nodup_cons->AO,nodup_nil->Ax,perm_append_comm->Aw,replicate->As,take->Fr
open List.Perm renaming append_left->Ay,append_right->Az
open List.cons renaming injEq->AG
open Nat renaming add_mul->AA,beq->AB,le_refl->Ar,le_trans->AM,lt_of_lt_of_le->AU,min_comm->HY,mul_le_mul_right->Ai,sub_self->Ej,succ_mul->AC
open Ne renaming symm->BM
open Option renaming bind_eq_some_iff->Bv,bind_some->Ab,map_some->Ca
open Option.some renaming inj->Ag,injEq->Ad
open Prod.mk renaming injEq->Aj
namespace Go.Rb
variable {A:Amb} {P:Program} {Z Z':Nat→Prop} {h h':Array Obj} {R:Type} {C:Ctx} {B:Base} {e:En} {a:Act} {w w':World} {F F0:Nat→List Nat} {X X0:List Nat} {r:Nat→Ent} {o:Oper}
theorem g2c(hrel:Rel A P C B e a w Z F X){rt:Nat}{t:Ty}{x x1:t.den}{cs:List Value}{base:Option Nat}(hs:RootIs (e.get rt).s t x)(hsh:t.shal=true)(hc:b0q w.heap (e.get rt).s (a.tm rt) cs base)
  (hcb:c0f w'.heap base cs cs) (hh:∀b,b∉F rt→w'.heap[b]?=w.heap[b]?) (hblk:∀b c,Blk w.heap b c→∃c',Blk w'.heap b c'∧c'.size=c.size) {s:SV} {v:Value} (hpk:∀l,s=.pts l→∀b n c,v=.slice (some ⟨b,0,none⟩) n c→w'.heap[b]?=w.heap[b]?) (hr:Ref e a.tm w.heap s v) :
  Ref (e.app [⟨rt,.no,(e.get rt).s.with t x1⟩]) a.tm w'.heap s v:=by
 have hg:(e.app [⟨rt,.no,(e.get rt).s.with t x1⟩]).get rt=⟨(e.get rt).v,(e.get rt).c,(e.get rt).s.with t x1⟩:=by rw[a0j,if_pos rfl];rfl
 have hgo:∀q,q≠rt→(e.app [⟨rt,.no,(e.get rt).s.with t x1⟩]).get q=e.get q:=fun q hq=>by rw[a0j,if_neg (BM hq)]
 have hvc:∀q,((e.app [⟨rt,.no,(e.get rt).s.with t x1⟩]).get q).v=(e.get q).v∧((e.app [⟨rt,.no,(e.get rt).s.with t x1⟩]).get q).c=(e.get q).c:=by
  intro q;by_cases hq:q=rt
  ·subst hq;rw[hg];exact⟨rfl,rfl⟩
  ·rw[hgo q hq];exact⟨rfl,rfl⟩
 have hat:∀{p:Pl} {Y Y':Ty→List Value→Option Addr→Prop},(∀t0 cs0 ad,Y t0 cs0 ad→Y' t0 cs0 ad)→(∀t0 cs0 cs0' ad,p.ix.isSome=true→(p.root=rt→t0.pure=true)→Y t0 cs0 ad→Y' t0 cs0' ad) →
   At e a.tm w.heap p Y→At (e.app [⟨rt,.no,(e.get rt).s.with t x1⟩]) a.tm w'.heap p Y':=by
  intro p Y Y' hY hY' ha;by_cases hp:p.root=rt
  ·obtain⟨t',cs',base',q1,q2,q3⟩:=ha;have hgr:(e.app [⟨rt,.no,(e.get rt).s.with t x1⟩]).get p.root=⟨(e.get rt).v,(e.get rt).c,(e.get rt).s.with t x1⟩:=by rw[hp];exact hg
   rw[hp] at q1 q2;have htt:t'=t:=by rw[b4a hs] at q1;exact(Ag q1).symm
   subst htt;obtain⟨rfl,rfl⟩:=b8o q2 hc;refine⟨t',cs',base',by rw[hgr];exact c7v hs,by rw[hgr,hp];exact d0v hs hc rfl hcb,?_⟩;rcases q3 with⟨t0,cs0,ad,u1,u2⟩|u1
   ·left;unfold Loc at u1;cases hix:p.ix with
    |none =>
     simp only[hix] at u1;exact⟨t0,cs0,ad,by unfold Loc;simp only[hix];exact u1,hY _ _ _ u2⟩
    |some jq =>
     obtain⟨j,q⟩:=jq;simp only[hix] at u1;obtain⟨o1,tsl,e1,te,n,cap,b,c,o2,h1,h2,h3,h4,h5,h6,h7,h8,h9,h10,h11,h12⟩:=u1;obtain⟨c',g1,g2⟩:=hblk b c h4;obtain⟨_,hpu⟩:=b7m h1 hsh h2;exact⟨t0,_,ad,by unfold Loc;simp only[hix];exact⟨o1,tsl,e1,te,n,cap,b,c',o2,h1,h2,h3,g1,h5,h6,h7,by rw[g2];exact h8,h9,h10,rfl,h12⟩,hY' _ _ _ _ (by rw[hix];rfl) (fun _=>b8s h9 hpu) u2⟩
   ·exact .inr u1
  ·obtain⟨t',cs',base',q1,q2,q3⟩:=ha;have:=hgo _ hp;have hm:=b2i (e':=e.app [⟨rt,.no,(e.get rt).s.with t x1⟩]) (tm':=a.tm) (h':=w'.heap) (Y:=Y') (hrel.own p.root) (by rw[this]) rfl (fun b hb=>hh b fun h=>hp (hrel.disj _ _ b hb h)) ⟨t',cs',base',q1,q2,q3.imp (fun⟨t0,cs0,ad,u1,u2⟩=>⟨t0,cs0,ad,u1,hY _ _ _ u2⟩) id⟩;exact hm
 have hptr:∀p n c v,Ref e a.tm w.heap (.ptr p n c) v→Ref (e.app [⟨rt,.no,(e.get rt).s.with t x1⟩]) a.tm w'.heap (.ptr p n c) v:=by
  intro p n c v hr;obtain⟨h1,h2,h3⟩:=hr;refine⟨by rw[(hvc _).1];exact h1,by rw[(hvc _).2];exact h2,fun k1 k2=>?_⟩;exact hat (fun _ _ _ h=>h) (fun _ _ _ _ _ _ h=>h) (h3 (by rw[←(hvc _).1];exact k1) fun hx=>by rw[←(hvc _).2];exact k2 hx)
 cases s with
 |ptr p n c=>exact hptr p n c v hr
 |pts l=>exact c3u hptr (hpk l rfl) hr
 |pte q n j =>
  refine c3p (hvc q).1 (fun l hl=>?_) hr;by_cases hq:q=rt
  ·subst hq;rw[hl] at hs;cases hs
  ·rw[hgo q hq];exact hl
 |ali p n c =>
  obtain⟨h1,h2,h3⟩:=hr;refine⟨by rw[(hvc _).1];exact h1,by rw[(hvc _).2];exact h2,fun k1 k2=>?_⟩;have h4:=h3 (by rw[←(hvc _).1];exact k1) (by rw[←(hvc _).2];exact k2);by_cases hp:p.root=rt
  ·exact hat (fun _ _ _ h=>h) (fun t0 cs0 cs0' ad hx hpu h=>by have:=h.2 hx;rw[hpu hp] at this;simp at this) h4
  ·obtain⟨t',cs',base',q1,q2,q3⟩:=h4;refine b2i (hrel.own p.root) (by rw[hgo _ hp]) rfl (fun b hb=>hh b fun h=>hp (hrel.disj _ _ b hb h)) ⟨t',cs',base',q1,q2,q3⟩
 |sub p n c lo hi' =>
  obtain⟨h1,h2,h3⟩:=hr;refine⟨by rw[(hvc _).1];exact h1,by rw[(hvc _).2];exact h2,fun k1 k2=>?_⟩;obtain⟨y1,y2⟩:=h3 (by rw[←(hvc _).1];exact k1) (by rw[←(hvc _).2];exact k2);exact⟨y1,hat (fun _ _ _ h=>h) (fun _ _ _ _ hx _ _=>by rw[y1] at hx;simp at hx) y2⟩
 |_=>trivial
theorem Wr.blks{ad:Addr}{ys:List Value}(hw:Wr h h' ad ys){b:Nat}{c:Array Value}(hb:Blk h b c):∃c',Blk h' b c'∧c'.size=c.size:=by
 by_cases hbb:b=ad.block
 ·subst hbb;obtain⟨c',h1,_,_,h4⟩:=hw.blk hb;exact⟨c',h1,h4⟩
 ·exact⟨c,hb.mono (hw.other hbb),rfl⟩
theorem f0x(hrel:Rel A P C B e a w Z F X){p:Pl}{t0:Ty}{x0:t0.den}{cs:List Value}{base:Option Nat}{fp':List Nat}{t:Ty}{cs0:List Value}{ad:Addr}
  (hs:RootIs (e.get p.root).s t0 x0) (hc:b0q w.heap (e.get p.root).s (a.tm p.root) cs base) (hr:Rep A P t0 Z w.heap cs x0 fp')
  (hF:(base=none∧F p.root=fp')∨∃b,base=some b∧F p.root=b::fp') (hl:Loc w.heap p t0 cs base t cs0 (some ad))
  {t2:Ty} {y:t2.den} {ys:List Value} (hy:Rep A P t2 Z w.heap ys y X) (hw:Wr w.heap w'.heap ad ys) (hos:w'.os=w.os) (hout:w'.output=w.output) (htape:w'.tape=w.tape)
  {k:(t':Ty)→t'.den→Option R} {res:R} (hk:c0p t2 y p t0 x0 k=some res) :
  ∃t1 x1 F',k t1 x1=some res∧Rel A P C B (e.app [⟨p.root,c0e (e.get p.root).s p,(e.get p.root).s.with t1 x1⟩]) a w' Z F' []:=by
 obtain⟨hnd,hsub,hnz,hnx⟩:=d8w hrel hF;have hbF:∀b,base=some b→b∈F p.root∧b∉fp':=by
  intro b hb;rcases hF with⟨rfl,_⟩|⟨b',rfl,h1⟩
  ·simp at hb
  ·obtain rfl:=Ag hb;have h2:=hrel.nodup p.root;rw[h1] at h2 ⊢;exact⟨by simp,(AO.1 h2).1⟩
 have hadF:ad.block∈F p.root∧(ad.block∈fp'∨base=some ad.block):=by
  have hl0:=hl;unfold Loc at hl;split at hl
  ·obtain⟨o,h1,h2,h3⟩:=hl;cases base with
   |none=>simp at h3
   |some b =>
    simp only[Ca,Ad] at h3;subst h3;exact⟨(hbF b rfl).1,.inr rfl⟩
  ·obtain⟨o1,tsl,e1,te,n,cap,b,c,o2,h1,h2,h3,h4,h5,h6,h7,h8,h9,h10,h11,h12⟩:=hl;obtain rfl:=Ag h12;have:=e1s hr h1 h2 h3;exact⟨hsub _ this,.inl this⟩
 have hZh:∀b,Z b→w'.heap[b]?=w.heap[b]?:=fun b hb=>hw.other fun h=>hrel.notZ _ _ hadF.1 (h ▸ hb)
 have hXh:∀b,b∈X→w'.heap[b]?=w.heap[b]?:=fun b hb=>hw.other fun h=>hrel.xdisj _ _ hadF.1 (h ▸ hb)
 have hoth:∀b,b∉F p.root→w'.heap[b]?=w.heap[b]?:=fun b hb=>hw.other fun h=>hb (h ▸ hadF.1)
 have hy':Rep A P t2 Z w'.heap ys y X:=a0g hy (fun b=>id) fun b hb=>hb.elim (hZh b) (hXh b)
 have fin':∀{t1:Ty} {x1:t1.den} {cs1:List Value} {fp1 fr:List Nat} {bp:Bump},k t1 x1=some res→t1.imm=t0.imm→c0f w'.heap base cs cs1→Rep A P t1 Z w'.heap cs1 x1 fp1→fp1.Perm (fr++X)→(∀b,b∈fr→b∈fp')→fr.Nodup →
   (∀i,i≠p.root→Ref (e.app [⟨p.root,bp,(e.get p.root).s.with t1 x1⟩]) a.tm w'.heap (e.get i).s (a.tm i)) →
   ∃F',Rel A P C B (e.app [⟨p.root,bp,(e.get p.root).s.with t1 x1⟩]) a w' Z F' []:=by
  intro t1 x1 cs1 fp1 fr bp _ hi hcb hr1 hp hfr hfrn hrefs;have hmem:∀b,b∈fp1→b∈fp'∨b∈X:=fun b hb=>(Aq.1 (hp.mem_iff.1 hb)).imp (hfr b) id
  refine⟨_,b9a (w':=w') (Z':=Z) (X':=[]) hrel hs hc hF hi hcb hr1 ?_ (fun b hb=>hmem b (by simpa using hb)) (fun b=>id) (fun b=>.inl) ?_ hw.size hos hout htape (fun b _ hb=>hoth b hb) hrefs⟩
  ·rw[A9];refine hp.nodup_iff.2 (Ak.2 ⟨hfrn,hrel.xnodup,fun b hb b' hb' hbb=>?_⟩);subst hbb;exact hnx b (hfr b hb) hb'
  ·intro b hb;rcases hmem b (by simpa using hb) with h|h
   ·exact hnz b h
   ·exact hrel.xnotZ b h
 have hl0:=hl;unfold Loc at hl;split at hl
 ·
  rename_i hix;obtain⟨o,h1,h2,h3⟩:=hl;cases base with
  |none=>simp at h3
  |some b =>
   simp only[Ca,Ad] at h3;subst h3;obtain⟨x0',fs,fr,g1,g2,g3,g4,g5⟩:=e3b hr hix h1 hk;obtain⟨t1,x1,fp1,q1,q2,q3,q4,_,_⟩:=g5 Z w'.heap ys X hy' (fun b=>id) fun b' hb'=>hb'.elim (hZh b') fun hb'=>hw.other fun h=>(hbF b rfl).2 (by rw[show b=b' from h.symm];exact g2.mem_iff.2 (Am _ hb'))
   have hbp:c0e (e.get p.root).s p=.cont:=by unfold c0e;simp[hix]
   rw[hbp];have hcb:c0f w'.heap (some b) cs (a1d cs o ys):=by
    obtain⟨b2,c,u1,u2,u3,u4⟩:∃b2 c,a.tm p.root=.pointer (some ⟨b2,0,none⟩)∧Blk w.heap b2 c∧cs=c.toList∧some b=some b2:=by
     have hc':=hc;generalize (e.get p.root).s=s at hs hc';cases hs with
     |val=>exact absurd hc'.2 (by simp)
     |box=>exact hc'
    obtain rfl:=Ag u4;obtain⟨c',v1,v2,_,_⟩:=hw.blk u2;exact⟨c',v1,by rw[v2,u3]⟩
   obtain⟨F',hF'⟩:=fin' (bp:=.cont) q1 q2 hcb q4 q3 (fun b' hb'=>g2.mem_iff.2 (Am _ hb')) (Ak.1 (g2.nodup_iff.1 hnd)).1 fun i hi=>c6e hrel hs hc q2 hcb hoth (b2w (hrel.own i) hZh) (hrel.ref i)
   exact⟨t1,x1,F',q1,hF'⟩
 ·
  rename_i j q hix;obtain⟨o1,tsl,e1,te,n,cap,b,c,o2,h1,h2,h3,h4,h5,h6,h7,h8,h9,h10,h11,h12⟩:=hl;obtain rfl:=Ag h12;have hbfp:b∈fp':=e1s hr h1 h2 h3;have hcb:c0f w'.heap base cs cs:=by
   cases base with
   |none=>rfl
   |some bb =>
    have hne:bb≠b:=fun h=>(hbF bb rfl).2 (h ▸ hbfp)
    obtain⟨b2,c2,u1,u2,u3,u4⟩:∃b2 c,a.tm p.root=.pointer (some ⟨b2,0,none⟩)∧Blk w.heap b2 c∧cs=c.toList∧some bb=some b2:=by
     have hc':=hc;generalize (e.get p.root).s=s at hs hc';cases hs with
     |val=>exact absurd hc'.2 (by simp)
     |box=>exact hc'
    obtain rfl:=Ag u4;exact⟨c2,u2.mono (hw.other hne),u3⟩
  cases tsl with
  |sl m e1' te' =>
   cases m <;> simp[a6p] at h2;obtain⟨rfl,rfl⟩:=h2;obtain⟨x0',fs,fr,g1,g2,g3,g4,g5⟩:=f1r hr hix h1 h3 h4 h5 (by omega) h9 hnd hnz hk;obtain⟨t1,x1,fp1,q1,q2,q3,q4,q5⟩:=g5 Z w'.heap ys X hy' (fun b=>id) (.inr ⟨_,rfl,hw⟩);subst q5;have hfr:∀b',b'∈fr→b'∈fp':=fun b' hb'=>g2.mem_iff.2 (Am _ hb')
   have hfrn:=(Ak.1 (g2.nodup_iff.1 hnd)).1;by_cases hsh:t1.shal=true
   ·have hbp:c0e (e.get p.root).s p=.no:=by
     unfold c0e;simp only[hix];generalize (e.get p.root).s=s at hs;cases hs <;> simp[hsh]
    rw[hbp];obtain⟨F',hF'⟩:=fin' (bp:=.no) q1 q2 hcb q4 q3 hfr hfrn fun i hi=>g2c hrel hs hsh hc hcb hoth (fun b' c' hb'=>hw.blks hb') (b2w (hrel.own i) hZh) (hrel.ref i)
    exact⟨t1,x1,F',q1,hF'⟩
   ·have hbp:c0e (e.get p.root).s p=.cont:=by
     unfold c0e;simp only[hix];generalize (e.get p.root).s=s at hs;have:t1.shal=false:=by simpa using hsh
     cases hs <;> simp[this]
    rw[hbp];obtain⟨F',hF'⟩:=fin' (bp:=.cont) q1 q2 hcb q4 q3 hfr hfrn fun i hi=>c6e hrel hs hc q2 hcb hoth (b2w (hrel.own i) hZh) (hrel.ref i)
    exact⟨t1,x1,F',q1,hF'⟩
  |slh e1' te' =>
   simp only[a6p,Ad,Aj] at h2;obtain⟨rfl,rfl⟩:=h2;obtain⟨g1,g2,g3,g5⟩:=e2j hr hix h1 h3 h4 h5 (by omega) h9 hnd hnz hk;obtain⟨t1,x1,fp1,q1,q2,q3,q4⟩:=g5 Z w'.heap ys X hy' (fun b=>id) (.inr ⟨_,rfl,hw⟩);have hnsh:t0.shal=false:=by
    cases hsh:t0.shal with
    |false=>rfl
    |true=>have:=(b7m h1 hsh (by simp[a6p];exact⟨rfl,rfl⟩)).1;simp at this
   have hbp:c0e (e.get p.root).s p=.cont:=by
    unfold c0e;simp only[hix];generalize (e.get p.root).s=s at hs;cases hs <;> simp[hnsh]
   rw[hbp];obtain⟨F',hF'⟩:=fin' (bp:=.cont) q1 q2 hcb q4 q3 (fun _=>id) hnd fun i hi=>c6e hrel hs hc q2 hcb hoth (b2w (hrel.own i) hZh) (hrel.ref i)
   exact⟨t1,x1,F',q1,hF'⟩
  |_=>simp[a6p] at h2
theorem c1x(hrel:Rel A P C B e a w Z F X)(hs:Sub r e){ao:Operand}{k:Pl→Ty→Option R}{res:R}(hk:storeAt r ao k=some res) :
  ∃p t t0 x0 cs base fp' cs0 ad,k p t=some res∧r p.root=e.get p.root∧RootIs (e.get p.root).s t0 x0∧b0q w.heap (e.get p.root).s (a.tm p.root) cs base∧Rep A P t0 Z w.heap cs x0 fp' ∧
   ((base=none∧F p.root=fp')∨∃b,base=some b∧F p.root=b::fp')∧Loc w.heap p t0 cs base t cs0 (some ad)∧a.eval ao=.pointer (some ad):=by
 unfold storeAt at hk;cases ao with
 |tmp i =>
  dsimp only at hk;cases hri:(r i).s with
  |box t y =>
   rw[hri] at hk;have hie:=a3r hs hri (by simp);have hi':(e.get i).s=.box t y:=by rw[←hie];exact hri
   have ho:=hrel.own i;rw[hi'] at ho;obtain⟨b,c,fp',h1,h2,h3,h4⟩:=ho;refine⟨⟨i,[],none⟩,t,t,y,c.toList,some b,fp',c.toList,⟨b,0,none⟩,hk,hie,by rw[hi'];exact .box t y,by simp only[hi'];exact⟨b,c,h1,h2,rfl,rfl⟩,h4,.inr ⟨b,rfl,h3⟩,?_,h1⟩;exact⟨0,rfl,(b1n (a1j h4)).symm,rfl⟩
  |ptr p v c =>
   rw[hri] at hk;dsimp only at hk;have hie:=a3r hs hri (by simp);have hi':(e.get i).s=.ptr p v c:=by rw[←hie];exact hri
   have href:=hrel.ref i;rw[hi'] at href;split at hk
   ·rename_i hb;simp only[Af,Bool.or_eq_true,B2] at hb;have key:∀{t0:Ty} {x0:t0.den},RootIs (r p.root).s t0 x0→c0v p t0 x0 (k p)=some res→∃p t t0 x0 cs base fp' cs0 ad,k p t=some res∧r p.root=e.get p.root∧RootIs (e.get p.root).s t0 x0 ∧
      b0q w.heap (e.get p.root).s (a.tm p.root) cs base∧Rep A P t0 Z w.heap cs x0 fp'∧((base=none∧F p.root=fp')∨∃b,base=some b∧F p.root=b::fp')∧Loc w.heap p t0 cs base t cs0 (some ad)∧a.eval (.tmp i)=.pointer (some ad):=by
     intro t0 x0 hR hpt;have hre:=hs p.root (a5u hR);rw[hre] at hR hb;obtain⟨t',cs,base,h1,h2,h3⟩:=href.2.2 (a1p hb.1) (fun hx=>hb.2.elim (fun h=>by simp[Pl.idx,hx] at h) a1p);obtain⟨cs',base',fp',g1,g2,g3,g4⟩:=d1o hR (hrel.own p.root);rw[h1] at g1;obtain rfl:=Ag g1;obtain⟨rfl,rfl⟩:=b8o h2 g2;unfold c0v at hpt;rcases h3 with⟨t1,cs0,ad,h4,ad',rfl,hv⟩|⟨h4,o1,tsl,h5,h6⟩
     ·have hl:=h4;unfold Loc at h4;cases hix:p.ix with
      |none =>
       simp only[hix] at h4 hpt;obtain⟨o1,u1,u2,u3⟩:=h4;obtain⟨x1,fs,fr,v1,_⟩:=a7f (x:=x0) u1 g3;rw[v1] at hpt;exact⟨p,t1,t',x0,cs,base,fp',cs0,ad',hpt,hre,hR,h2,g3,g4,hl,hv⟩
      |some jq =>
       obtain⟨j,q⟩:=jq;simp only[hix] at h4 hpt;obtain⟨o1,tsl,e1,te,n,cap,b,c',o2,u1,u2,u3,u4,u5,u6,u7,u8,u9,u10,u11,u12⟩:=h4;obtain⟨x1,fs,fr,v1,_⟩:=a7f (x:=x0) u1 g3;rw[v1] at hpt;cases tsl with
       |sl m e1' te' =>
        cases m <;> simp[a6p] at u2;obtain⟨rfl,rfl⟩:=u2;dsimp only at hpt;have hty:∀{q:List Stp} {te:Ty} {y:te.den} {o2:Nat} {t1:Ty},a1w q te=some (o2,t1)→∀{k:Ty→Option R} {res:R},(b2z q te y fun t3 _=>k t3)=some res→k t1=some res:=by
         intro q
         induction q with
         |nil=>intro te y o2 t1 h k res hk;simp only[a1w,Ad,Aj] at h;obtain⟨_,rfl⟩:=h;exact hk
         |cons s q ih =>
          intro te y o2 t1 h k res hk;cases s with
          |f f =>
           cases te with
           |st te =>
            simp only[a1w] at h;split at h
            ·rename_i oc tc hc;split at h
             ·rename_i hq;simp only[Ad,Aj] at h;obtain⟨_,rfl⟩:=h;simp only[b2z] at hk;have hcomp:∀{t:Ty} {x:t.den} {i o:Nat} {t0:Ty} {k:(t':Ty)→t'.den→Option R} {res:R},a1h t i=some (o,t0)→comp t x i k=some res→∃x0,k t0 x0=some res:=by
               intro t
               induction t with
               |pair a b iha ihb =>
                intro x i o t0 k res hc hk;cases i with
                |zero=>simp only[a1h,Ad,Aj] at hc;obtain⟨_,rfl⟩:=hc;exact⟨_,hk⟩
                |succ i =>
                 simp only[a1h] at hc;split at hc <;> simp only[Ad,Aj,reduceCtorEq] at hc;rename_i h;obtain⟨_,rfl⟩:=hc;exact ihb h hk
               |_=>intro x i o t0 k res hc;simp[a1h] at hc
              obtain⟨x0',hk'⟩:=hcomp hc hk;exact ih hq hk'
             ·simp at h
            ·simp at h
           |_=>simp[a1w] at h
          |a j' =>
           cases te with
           |arr n' te =>
            simp only[a1w] at h;split at h
            ·split at h
             ·rename_i hq;simp only[Ad,Aj] at h;obtain⟨_,rfl⟩:=h;exact ih hq hk
             ·simp at h
            ·simp at h
           |_=>simp[a1w] at h
        exact⟨p,t1,t',x0,cs,base,fp',cs0,ad',hty u9 hpt,hre,hR,h2,g3,g4,hl,hv⟩
       |slh e1' te' =>
        simp only[a6p,Ad,Aj] at u2;obtain⟨rfl,rfl⟩:=u2;cases q with
        |nil =>
         simp only[a1w,Ad,Aj] at u9;obtain⟨_,rfl⟩:=u9;exact⟨p,te',t',x0,cs,base,fp',cs0,ad',hpt,hre,hR,h2,g3,g4,hl,hv⟩
        |cons=>simp at hpt
       |_=>simp[a6p] at u2
     ·exfalso;obtain⟨x1,fs,fr,v1,_⟩:=a7f (x:=x0) h5 g3;rw[v1] at hpt;cases hix:p.ix with
      |none=>rw[hix] at h4;simp at h4
      |some jq =>
       simp only[hix] at hpt;cases tsl with
       |sl m e1' te'=>cases m <;> simp[a6p] at h6 <;> simp at hpt
       |slh=>simp[a6p] at h6
       |_=>simp at hpt
    split at hk
    ·rename_i hr;exact key (by rw[hr];exact .val _ _) hk
    ·rename_i hr;exact key (by rw[hr];exact .box _ _) hk
    ·simp at hk
   ·simp at hk
  |_=>rw[hri] at hk;simp at hk
 |_=>simp at hk
theorem d7p(htab:a3c P C)(hft:FtOK A P C)(hrel:Rel A P C B e a w Z F [])(hs:Sub r e){T:Nat}{ao x:Operand}{ty:Nat}
  (hop:o.op=.store T ao x) {k:List Up→Option R} {res:R} (hk:sem C (.store T ao x) ty o.dst r k=some res) :
  ∃us,k us=some res∧Snd A P C B e a w us o:=by
 simp only[sem] at hk;split at hk
 ·simp at hk
 ·rename_i hdst;have key:∀{t':Ty} {y:t'.den} {us:List Up},Got A P C B e a w Z [] r us (a.eval x) t' y→sem.put2 C r k T ao t' y us=some res→∃us,k us=some res∧Snd A P C B e a w us o:=by
   rintro t' y us ⟨⟨Z',F',fs,ys,g1,g2,g3,g4⟩,gs⟩ hk;unfold sem.put2 at hk;obtain⟨p,t,t0,x0,cs,base,fp',cs0,ad,hk,h1,h2,h3,h4,h5,h6,h7⟩:=c1x g1 gs hk;split at hk
   ·rename_i hlay;obtain⟨tt,hT,hi,_⟩:=b4s hlay;rw[d3m (by rw[h1];exact h2)] at hk;rw[h1] at hk;obtain⟨hsp,c,hb,hle,hcs0⟩:=c9b h4 h3 h6;rw[A9] at g1;have hti:t'.imm=t.imm:=by
     unfold Loc at h6;split at h6
     ·rename_i hix;obtain⟨o,q1,q2,q3⟩:=h6;obtain⟨_,_,_,_,_,_,q4,_⟩:=e3b h4 hix q1 hk;exact q4
     ·rename_i j q hix;obtain⟨o1,tsl,e1,te,n,cap,b,c',o2,u1,u2,u3,u4,u5,u6,u7,u8,u9,u10,u11,u12⟩:=h6;obtain⟨hnd,_,hnz,_⟩:=d8w g1 h5;cases tsl with
      |sl m e1' te' =>
       cases m <;> simp[a6p] at u2;obtain⟨rfl,rfl⟩:=u2;obtain⟨_,_,_,_,_,_,q4,_⟩:=f1r h4 hix u1 u3 u4 u5 (by omega) u9 hnd hnz hk;exact q4
      |slh e1' te' =>
       simp only[a6p,Ad,Aj] at u2;obtain⟨rfl,rfl⟩:=u2;obtain⟨q1,q2,_⟩:=e2j h4 hix u1 u3 u4 u5 (by omega) u9 hnd hnz hk;rw[q1,q2]
      |_=>simp[a6p] at u2
    have hylen:ys.length=tt.size:=by rw[a1j g4,a3x (hti.trans hi.symm)]
    have hyt:ys.length=t.size:=by rw[a1j g4,a3x hti]
    obtain⟨w',r1,r2,r3,r4,r5,r6⟩:=c7o (htab _ _ hT) hsp hb (b0c (hti.trans hi.symm) g3) hylen (by omega) (a5q g4);obtain⟨t1,x1,F1,q1,q2⟩:=f0x g1 h2 h3 h4 h5 h6 g4 r6 r2 r3 r4 hk;refine⟨_,q1,?_⟩;intro next Q hnext;unfold Ch;have hrun:(execOp a.eval o).run P w=.ok .skip w':=by
     simp only[execOp,hop,Instr.storeAt,h7,Instr.sureAddr,AK,BJ,AI,r1]
    rw[hrun,Oper.upon_skip,hdst];refine hnext _ _ Z' F1 ?_;rw[a2b];exact q2
   ·simp at hk
  obtain⟨p,t,t0,x0,cs,base,fp',cs0,ad,hk,h1,h2,h3,h4,h5,h6,h7⟩:=c1x hrel hs hk;split at hk
  ·obtain⟨t',y,us,hk,hg⟩:=b8u hrel hs hk;exact key hg hk
  ·obtain⟨y,us,hk,hg⟩:=a9b hft hrel hs hk;exact key hg hk
end Go.Rb

namespace Go.Rb
variable {A:Amb} {P:Program} {Z Z':Nat→Prop} {h h':Array Obj} {R:Type} {C:Ctx} {B:Base} {e:En} {a:Act} {w w':World} {F F0:Nat→List Nat} {X X0:List Nat} {r:Nat→Ent} {o:Oper}
theorem c2v{l m:List (List Nat)}(hl:l.length=m.length)(hg:∀i,i<l.length→l.getD i []=m.getD i []):l=m:=by
 refine List.ext_getElem hl fun i h1 h2=>?_
 have:=hg i h1;rwa [a0h _ h1,a0h _ h2] at this
theorem e1e:∀{t:Ty} {Z Z':Nat→Prop} {cs:List Value} {x:t.den} {fp fp':List Nat},Rep A P t Z h cs x fp→Rep A P t Z' h cs x fp'→fp=fp':=by
 intro t
 induction t with
 |sl m e t ih =>
  intro Z Z' cs x fp fp' h1 h2;obtain⟨a,n,cap,rfl,h1⟩:=h1;obtain⟨a',n',cap',hcs,h2⟩:=h2;simp only[AG,AR,and_true] at hcs;obtain⟨rfl,rfl,rfl⟩:=hcs;cases m with
  |hole=>rw[h1,h2]
  |imm=>rw[h1.1,h2.1]
  |own =>
   obtain⟨_,_,_,_,h1⟩:=h1;obtain⟨_,_,_,_,h2⟩:=h2;rcases h1 with⟨rfl,_,_,rfl⟩|⟨b,c,fps,rfl,g1,g2,rfl,g4,g5⟩
   ·rcases h2 with⟨_,_,_,rfl⟩|⟨b,c,fps,hx,_⟩
    ·rfl
    ·simp at hx
   ·rcases h2 with⟨hx,_⟩|⟨b',c',fps',hx,k1,k2,rfl,k4,k5⟩
    ·simp at hx
    ·simp only[Ad,B0,and_true] at hx;subst hx;obtain rfl:=g1.blk.same k1.blk;rw[c2v (by omega) fun i hi=>ih (g5 i (by omega)) (k5 i (by omega))]
 |slh e t ih =>
  intro Z Z' cs x fp fp' h1 h2;obtain⟨b,n,cap,c,fps,rfl,_,_,_,_,g1,g2,rfl,g4,_,_,g5⟩:=h1;obtain⟨b',n',cap',c',fps',hcs,_,_,_,_,k1,k2,rfl,k4,_,_,k5⟩:=h2;simp only[AG,AR,Ad,B0,and_true] at hcs;obtain⟨rfl,rfl,rfl⟩:=hcs;obtain rfl:=g1.blk.same k1.blk;have heq:fps=fps':=by
   refine c2v (by omega) fun i hi=>?_
   have q1:=g5 i (by omega);have q2:=k5 i (by omega);split at q1
   ·rw[if_pos ‹_›] at q2;rw[q1,q2]
   ·rw[if_neg ‹_›] at q2;exact ih q1 q2
  rw[heq]
 |st t ih=>intro Z Z' cs x fp fp' h1 h2;exact ih h1 h2
 |pair a b iha ihb =>
  intro Z Z' cs x fp fp' h1 h2;obtain⟨c1,c2,f1,f2,rfl,rfl,h3,h4⟩:=h1;obtain⟨c1',c2',f1',f2',hc,rfl,h3',h4'⟩:=h2;have l1:=a1j h3;have l2:=a1j h3';obtain⟨rfl,rfl⟩:=List.append_inj hc (by omega);rw[iha h3 h3',ihb h4 h4']
 |arr n t ih=>intro Z Z' cs x fp fp' h1 h2;rw[h1.1,h2.1]
 |unit=>intro Z Z' cs x fp fp' h1 h2;rw[h1.2,h2.2]
 |_=>intro Z Z' cs x fp fp' h1 h2;rw[h1.1,h2.1]
theorem e1r{s:SV}(hs:∃t x,RootIs s t x){v:Value}{fp fp':List Nat}(h1:Own A P Z h s v fp)(h2:Own A P Z' h s v fp'):fp=fp':=by
 obtain⟨t,x,hs⟩:=hs;cases hs with
 |val =>
  obtain⟨cs,q1,q2⟩:=h1;obtain⟨cs',k1,k2⟩:=h2;obtain rfl:=f1i q1 k1;exact e1e q2 k2
 |box =>
  obtain⟨b,c,fp1,q1,q2,rfl,q4⟩:=h1;obtain⟨b',c',fp2,k1,k2,rfl,k4⟩:=h2;rw[q1] at k1;simp only[C9,Ad,B0,and_true] at k1;subst k1;obtain rfl:=q2.same k2;rw[e1e q4 k4]
theorem c1u:∀{t:Ty} {Z Z':Nat→Prop} {cs:List Value} {x:t.den} {fp:List Nat},t.flat=true→Rep A P t Z h cs x fp→Rep A P t Z' h cs x fp:=by
 intro t
 induction t with
 |sl m e t ih =>
  intro Z Z' cs x fp hf hr;cases m <;> simp[Ty.flat] at hf;obtain⟨a,n,cap,rfl,h1,h2,h3,h4,h5⟩:=hr;refine⟨a,n,cap,rfl,h1,h2,h3,h4,h5.imp id ?_⟩;rintro⟨b,c,fps,g1,g2,g3,g4,g5,g6⟩;exact⟨b,c,fps,g1,g2,g3,g4,g5,fun i hi=>ih hf (g6 i hi)⟩
 |st t ih=>intro Z Z' cs x fp hf hr;exact ih hf hr
 |pair a b iha ihb =>
  intro Z Z' cs x fp hf hr;simp only[Ty.flat,Af] at hf;obtain⟨c1,c2,f1,f2,h1,h2,h3,h4⟩:=hr;exact⟨c1,c2,f1,f2,h1,h2,iha hf.1 h3,ihb hf.2 h4⟩
 |arr n t ih =>
  intro Z Z' cs x fp hf hr;obtain⟨h1,h2,h3,h4,h5⟩:=hr;exact⟨h1,h2,h3,h4,fun i hi=>ih hf (h5 i hi)⟩
 |int=>intro Z Z' cs x fp hf hr;exact hr
 |bool=>intro Z Z' cs x fp hf hr;exact hr
 |str=>intro Z Z' cs x fp hf hr;exact hr
 |err=>intro Z Z' cs x fp hf hr;exact hr
 |unit=>intro Z Z' cs x fp hf hr;exact hr
 |_=>intro Z Z' cs x fp hf hr;simp[Ty.flat] at hf
theorem b4t:∀{ps:List PS} {vs:List Value} {x:a3a ps} {fp:List Nat},a7t A P Z h ps vs x fp→(∀b,Z b→Z' b)→a7t A P Z' h ps vs x fp
 |[],_,_,_,hr,_=>hr
 |.val t::ps,_,_,_,hr,hz=>by
  obtain⟨v,vs',cs,f1,f2,h1,h2,h3,h4,h5⟩:=hr;exact⟨v,vs',cs,f1,f2,h1,h2,a0g h3 hz fun _ _=>rfl,b4t h4 hz,h5⟩
 |.io t::ps,_,_,_,hr,hz=>by
  obtain⟨v,vs',b,c,f1,f2,h1,h2,h3,h4,h5,h6⟩:=hr;exact⟨v,vs',b,c,f1,f2,h1,h2,h3,a0g h4 hz fun _ _=>rfl,b4t h5 hz,h6⟩
 |.sio t::ps,_,_,_,hr,hz=>by
  obtain⟨v,vs',cs,f1,f2,h1,h2,h3,h4,h5⟩:=hr;exact⟨v,vs',cs,f1,f2,h1,h2,a0g h3 hz fun _ _=>rfl,b4t h4 hz,h5⟩
def d4z(e:En)(a:Act):(ps:List PS)→List Value→List Nat→Prop
 |[],_,qs=>qs=[]
 |.val _::ps,vs,qs=>d4z e a ps vs.tail qs
 |.io t::ps,vs,qs=>∃q qs',qs=q::qs'∧(∃x,(e.get q).s=.box t x)∧vs.head?=some (a.tm q)∧d4z e a ps vs.tail qs'
 |.sio t::ps,vs,qs=>∃q qs',qs=q::qs'∧(∃x,(e.get q).s=.val t x)∧vs.head?=some (a.tm q)∧d4z e a ps vs.tail qs'
theorem a8p:∀{us:List Up} {e:En} {i:Nat},(∀u,u∈us→u.d≠i)→(e.app us).get i=e.get i
 |[],_,_,_=>rfl
 |u::us,e,i,hu=>by
  rw[c6o,a8p (us:=us) (fun u' hu'=>hu u' (by simp[hu'])),c9d,b2v,if_neg (hu u (by simp))]
theorem d7b{bs:List Nat}{us:List Up}(ha:e9e bs us=true):∀i,i∈bs→∀u,u∈us→u.d≠i:=by
 intro i hi u hu h;have:=List.all_eq_true.1 ha u hu;simp at this;exact this (h ▸ hi)
theorem b6f:∀{us:List Up} {r:Nat→Ent} {i:Nat},(∀u,u∈us→u.d≠i)→upd r us i=r i
 |[],_,_,_=>rfl
 |u::us,r,i,hu=>by
  show upd _ us i=r i;rw[b6f (us:=us) (fun u' hu'=>hu u' (by simp[hu']))];have:AB u.d i=false:=by
   cases hb:AB u.d i with
   |false=>rfl
   |true=>exact absurd (a1p hb) (hu u (by simp))
  simp only[this]
theorem d2v(hft:FtOK A P C)(hrel:Rel A P C B e a w Z F X)(hs:Sub r e){t:Ty}(hp:t.pure=true){o:Operand}{k:t.den→List Up→List Nat→Option R}{res:R}(hk:c3z C t o r k=some res) :
  ∃y ups b Z1 F1 cs,k y ups b=some res∧Rel A P C B (e.app ups) a w Z1 F1 X∧(∀b,Z b→Z1 b)∧Sub (upd r ups) (e.app ups)∧VC t (a.eval o) cs∧Rep A P t (fun b'=>Z1 b'∨∃i,i∈b∧b'∈F1 i) w.heap cs y [] ∧
   (∀i,i∈b→(r i).s≠.none∧ups=[]∧∃t' x',RootIs (e.get i).s t' x'):=by
 have hasT:(asT C r o t fun y us=>k y us [])=some res→∃y ups b Z1 F1 cs,k y ups b=some res∧Rel A P C B (e.app ups) a w Z1 F1 X∧(∀b,Z b→Z1 b)∧Sub (upd r ups) (e.app ups)∧VC t (a.eval o) cs ∧
   Rep A P t (fun b'=>Z1 b'∨∃i,i∈b∧b'∈F1 i) w.heap cs y []∧(∀i,i∈b→(r i).s≠.none∧ups=[]∧∃t' x',RootIs (e.get i).s t' x'):=by
  intro hk;obtain⟨y,ups,hk,⟨Z1,F1,fs,cs,g1,g2,g3,g4⟩,gs⟩:=a9b hft hrel hs hk;obtain rfl:=a1y g4 hp;exact⟨y,ups,[],Z1,F1,cs,hk,g1,g2,gs,g3,a0g g4 (fun b=>.inl) fun _ _=>rfl,by simp⟩
 unfold c3z at hk;split at hk
 ·rename_i i;split at hk
  ·rename_i t' x hi;have hie:=a3r hs hi (by simp);have hi':(e.get i).s=.val t' x:=by rw[←hie];exact hi
   have ho:=hrel.own i;rw[hi'] at ho;obtain⟨cs,g1,g2⟩:=ho;rcases c4f hk with hk|⟨rfl|rfl,rfl,y,hy,hk⟩
   rotate_left
   ·obtain rfl:=eq_of_heq hy;exact⟨x,[],_,Z,F,cs,hk,hrel,fun b=>id,hs,g1,a0g (e0j g2) (fun b=>.inl) fun _ _=>rfl,fun j hj=>by simp[Ty.pure] at hj⟩
   ·obtain rfl:=eq_of_heq hy;exact⟨x,[],_,Z,F,cs,hk,hrel,fun b=>id,hs,g1,a0g (d9w g2) (fun b=>.inl) fun _ _=>rfl,fun j hj=>by simp[Ty.pure] at hj⟩
   obtain⟨hl,y,hy,hk⟩:=a1x hk;have hr:=a6c hl hp hy g2;refine⟨y,[],_,Z,F,cs,hk,hrel,fun b=>id,hs,b0c (c0c hl) g1,?_,?_⟩
   ·cases hpu:t'.pure with
    |true =>
     have hf:=a1y g2 hpu;rw[hf] at hr;exact a0g hr (fun b hb=>hb.elim .inl (by simp)) fun _ _=>rfl
    |false=>exact a0g hr (fun b hb=>hb.imp id fun hb=>⟨i,by simp,hb⟩) fun _ _=>rfl
   ·intro j hj;cases hpu:t'.pure with
    |true=>rw[hpu] at hj;simp at hj
    |false =>
     rw[hpu] at hj;obtain rfl:j=i:=by simpa using hj
     exact⟨by rw[hi];simp,rfl,t',x,by rw[hi'];exact .val t' x⟩
  ·rename_i p v c hi;have hie:=a3r hs hi (by simp);have hi':(e.get i).s=.ali p v c:=by rw[←hie];exact hi
   obtain⟨t0,x0,h1,h2,h3,hk⟩:=a8m hk;have hre:=hs p.root (a5u h1);have href:=hrel.ref i;rw[hi'] at href;have h1':=h1;rw[hre] at h1 h2 h3;have hat:=href.2.2 h2 h3;obtain⟨cs,base,fp',t1,cs0,ad,x1,fs,fr,g1,g2,g3,g4,g5,g6,g7,g8⟩:=b7n (hrel.own p.root) h1 hat hk;rw[g6] at hk;rcases c4f hk with hk|⟨rfl|rfl,rfl,y,hy,hk⟩
   rotate_left
   ·obtain rfl:=eq_of_heq hy;refine⟨x1,[],_,Z,F,cs0,hk,hrel,fun b=>id,hs,g5.1,a0g (e0j g8) (fun b=>.inl) fun _ _=>rfl,fun j hj=>?_⟩;obtain rfl:j=p.root:=by simpa using hj
    exact⟨a5u h1',rfl,t0,x0,h1⟩
   ·obtain rfl:=eq_of_heq hy;refine⟨x1,[],_,Z,F,cs0,hk,hrel,fun b=>id,hs,g5.1,a0g (d9w g8) (fun b=>.inl) fun _ _=>rfl,fun j hj=>?_⟩;obtain rfl:j=p.root:=by simpa using hj
    exact⟨a5u h1',rfl,t0,x0,h1⟩
   obtain⟨hl,y,hy,hk⟩:=a1x hk;have hr:=a6c hl hp hy g8;refine⟨y,[],_,Z,F,cs0,hk,hrel,fun b=>id,hs,b0c (c0c hl) g5.1,a0g hr (fun b hb=>hb.imp id fun hb=>⟨p.root,by simp,?_⟩) fun _ _=>rfl,?_⟩
   ·have hb':b∈fp':=g7.mem_iff.2 (Al _ hb);rcases g3 with⟨_,h⟩|⟨b0,_,h⟩ <;> rw[h]
    ·exact hb'
    ·exact AE _ hb'
   ·intro j hj;obtain rfl:j=p.root:=by simpa using hj
    exact⟨a5u h1',rfl,t0,x0,h1⟩
  ·exact hasT hk
 ·exact hasT hk
end Go.Rb

namespace Go.Rb
variable {A:Amb} {P:Program} {Z Z':Nat→Prop} {h h':Array Obj} {R:Type} {C:Ctx} {B:Base} {e:En} {a:Act} {w w':World} {F F0:Nat→List Nat} {X X0:List Nat} {r:Nat→Ent} {o:Oper}
theorem e3r{i:Nat}(hs:Sub r e):Sub (upd r [⟨i,.no,.none⟩]) e:=by
 intro j hj;by_cases hij:i=j
 ·subst hij;exfalso;have:AB i i=true:=by simp
  simp only[upd,this,Ent.bump] at hj;exact hj rfl
 ·have hb:AB i j=false:=by
   cases hb:AB i j with
   |false=>rfl
   |true=>exact absurd (a1p hb) hij
  simp only[upd,hb] at hj ⊢;exact hs j hj
theorem e2h{i j:Nat}:(upd r [⟨i,.no,.none⟩] j).s=(if i=j then .none else(r j).s):=by
 by_cases hij:i=j
 ·subst hij;simp[upd,Ent.bump]
 ·have hb:AB i j=false:=by
   cases hb:AB i j with
   |false=>rfl
   |true=>exact absurd (a1p hb) hij
  simp[upd,hb,hij]
theorem b3s{e e':En}:∀{ps:List PS} {vs:List Value} {qs:List Nat},(∀q,q∈qs→e'.get q=e.get q)→d4z e a ps vs qs→d4z e' a ps vs qs
 |[],_,_,_,h=>h
 |.val _::ps,vs,qs,hq,h=>b3s (ps:=ps) hq h
 |.io t::ps,vs,qs,hq,h=>by
  obtain⟨q,qs',rfl,⟨x,h1⟩,h2,h3⟩:=h;exact⟨q,qs',rfl,⟨x,by rw[hq q (by simp)];exact h1⟩,h2,b3s (fun q' hq'=>hq q' (by simp[hq'])) h3⟩
 |.sio t::ps,vs,qs,hq,h=>by
  obtain⟨q,qs',rfl,⟨x,h1⟩,h2,h3⟩:=h;exact⟨q,qs',rfl,⟨x,by rw[hq q (by simp)];exact h1⟩,h2,b3s (fun q' hq'=>hq q' (by simp[hq'])) h3⟩
theorem b3f(hft:FtOK A P C){flat:Bool}:∀(ps:List PS) (os:List Operand) {r:Nat→Ent} {us:List Up} {bs qs:List Nat} {Z:Nat→Prop} {F:Nat→List Nat} {X:List Nat} {k:a3a ps→List Up→List Nat→Option R} {res:R},
  Rel A P C B (e.app us) a w Z F X→Sub r (e.app us)→(∀i,i∈qs→(r i).s=.none)→b5u C flat ps os r us bs qs k=some res →
  ∃(z:a3a ps) (us':List Up) (qs1 bs1:List Nat) (Z':Nat→Prop) (F':Nat→List Nat) (X1 fp:List Nat),k z us' (qs.reverse++qs1)=some res∧Rel A P C B (e.app us') a w Z' F' (X1++X)∧(∀b,Z b→Z' b) ∧
   (∀i,i∈bs++qs→(e.app us').get i=(e.app us).get i)∧(∀i,i∈bs++qs→i∉qs1)∧(∀i,i∈qs→i∉bs1)∧qs1.Nodup∧(∀i,i∈bs1→i∉qs1)∧(bs1≠[]→flat=true) ∧
   d4z (e.app us') a ps (os.map a.eval) qs1∧a7t A P (fun b=>Z' b∨∃i,i∈bs1∧b∈F' i) w.heap ps (os.map a.eval) z fp∧fp.Perm (X1++(qs1.map F').flatten)
 |[],[],r,us,bs,qs,Z,F,X,k,res,hrel,hs,hq,hk=>by
  refine⟨(),us,[],[],Z,F,[],[],by rw[A9];exact hk,hrel,fun b=>id,fun _ _=>rfl,by simp,by simp,Ax,by simp,by simp,rfl,⟨rfl,rfl⟩,by simp⟩
 |.val t::ps,ob::os,r,us,bs,qs,Z,F,X,k,res,hrel,hs,hq,hk=>by
  unfold b5u at hk;split at hk
  ·
   rename_i hfp;simp only[Af] at hfp;obtain⟨y,ups,b,Z1,F1,cs,hk,g1,g2,g3,g4,g5,g6⟩:=d2v hft hrel hs hfp.2 hk;split at hk
   ·rename_i hap;have hne:=d7b hap;obtain⟨z,us',qs1,bs1,Z',F',X1,fp,k1,k2,k3,k4,k5,k6,k7,k8,k9,k10,k11,k12⟩:=b3f hft ps os (us:=us++ups) (bs:=b++bs) (qs:=qs) (by rw[a2b];exact g1) (by rw[a2b];exact g3)
     (fun i hi=>by rw[b6f (hne i (Al _ hi))];exact hq i hi) hk
    have hsame:∀i,i∈bs++qs→(e.app us').get i=(e.app us).get i:=by
     intro i hi;rw[k4 i (by rcases Aq.1 hi with h|h <;> simp[h]),a2b,a8p (hne i hi)]
    have hFb:∀i,i∈b→F' i=F1 i:=by
     intro i hi;obtain⟨h1,h2,t',x',h3⟩:=g6 i hi;subst h2;have h4:=k4 i (by simp[hi]);rw[A9] at h4;have h5:=k2.own i;rw[h4] at h5;exact e1r ⟨t',x',h3⟩ h5 (g1.own i)
    refine⟨(y,z),us',qs1,b++bs1,Z',F',X1,fp,k1,k2,fun b hb=>k3 b (g2 b hb),hsame,fun i hi=>k5 i (by rcases Aq.1 hi with h|h <;> simp[h]),?_,k7,?_,fun _=>hfp.1,k10,?_,k12⟩
    ·intro i hi hb;rcases Aq.1 hb with hb|hb
     ·exact(g6 i hb).1 (hq i hi)
     ·exact k6 i hi hb
    ·intro i hi;rcases Aq.1 hi with hi|hi
     ·exact k5 i (by simp[hi])
     ·exact k8 i hi
    ·refine⟨_,_,cs,[],fp,rfl,g4,?_,b4t k11 (fun b' hb'=>hb'.imp id fun⟨i,h1,h2⟩=>⟨i,Al _ h1,h2⟩),rfl⟩;exact a0g g5 (fun b' hb'=>hb'.imp (k3 b') fun⟨i,h1,h2⟩=>⟨i,Am _ h1,by rw[hFb i h1];exact h2⟩) fun _ _=>rfl
   ·simp at hk
  ·
   obtain⟨y,ups,hk,⟨Z1,F1,fs,cs,g1,g2,g3,g4⟩,gs⟩:=a9b hft hrel hs hk;split at hk
   ·rename_i hap;have hne:=d7b hap;obtain⟨z,us',qs1,bs1,Z',F',X1,fp,k1,k2,k3,k4,k5,k6,k7,k8,k9,k10,k11,k12⟩:=b3f hft ps os (us:=us++ups) (bs:=bs) (qs:=qs) (by rw[a2b];exact g1) (by rw[a2b];exact gs)
     (fun i hi=>by rw[b6f (hne i (Al _ hi))];exact hq i hi) hk
    refine⟨(y,z),us',qs1,bs1,Z',F',X1++fs,fs++fp,k1,by rw[Ae];exact k2,fun b hb=>k3 b (g2 b hb),?_,k5,k6,k7,k8,k9,k10,?_,?_⟩
    ·intro i hi;rw[k4 i hi,a2b,a8p (hne i hi)]
    ·exact⟨_,_,cs,fs,fp,rfl,g3,a0g g4 (fun b hb=>.inl (k3 b hb)) fun _ _=>rfl,k11,rfl⟩
    ·refine(Ay fs k12).trans ?_;rw[←Ae];exact Az _ Aw
   ·simp at hk
 |.io t::ps,ob::os,r,us,bs,qs,Z,F,X,k,res,hrel,hs,hq,hk=>by
  unfold b5u at hk;rcases a9y hrel hs hk with⟨t',x,hk,_⟩|⟨p,v,c,t',x,hk,hl⟩
  ·simp at hk
  ·split at hk
   ·rename_i hcond;simp only[Af,B2,Cy,decide_eq_false_iff_not] at hcond;obtain⟨⟨hw,hnb⟩,hnq⟩:=hcond;split at hk
    ·rename_i tb xb hrb;obtain⟨heq,y,hy,hk⟩:=b0y hk;subst heq;obtain rfl:=eq_of_heq hy;obtain⟨t0,x0,h6,h7⟩:=hl.is;obtain⟨t0',x0',cs,base,fp',cs0,ad,fs,fr,m1,m2,m3,m4,m5,m6,m7,m8,m9⟩:=b4h hrel hl;have hix:p.ix=none∧p.p1=[]:=by
      unfold Pl.whole at hw;split at hw
      ·exact⟨‹_›,‹_›⟩
      ·simp at hw
     have hre:(e.app us).get p.root=r p.root:=hl.root.symm;have hsb:((e.app us).get p.root).s=.box tb xb:=by rw[hre];exact hrb
     rw[hsb] at m1 m2;cases m1;obtain⟨b,cc,n1,n2,rfl,rfl⟩:=m2;have hgx:(⟨t',x⟩:Dyn)=⟨tb,xb⟩:=by
      have:=m6 fun t x=>some (⟨t,x⟩:Dyn)
      unfold a3m at this;rw[hix.2] at this;simp only[b2z,hix.1] at this;exact(Ag this).symm
     cases hgx;have had:a.eval ob=a.tm p.root:=by
      rw[m9,n1];unfold Loc at m5;rw[hix.1] at m5;obtain⟨o1,u1,u2,u3⟩:=m5;rw[hix.2] at u1;simp only[a1w,Ad,Aj] at u1;rw[←u1.1] at u3;simpa using u3
     have hFq:F p.root=b::fp':=by
      rcases m4 with⟨h,_⟩|⟨b',h,h2⟩
      ·simp at h
      ·obtain rfl:=Ag h;exact h2
     obtain⟨z,us',qs1,bs1,Z',F',X1,fp,k1,k2,k3,k4,k5,k6,k7,k8,k9,k10,k11,k12⟩:=b3f hft ps os (us:=us) (bs:=bs) (qs:=p.root::qs) hrel (e3r hs)
      (fun i hi=>by
       rw[e2h];split
       ·rfl
       ·rename_i hne;rcases A3.1 hi with rfl|hi
        ·exact absurd rfl hne
        ·exact hq i hi) hk
     have hFq':F' p.root=b::fp':=by
      have h4:=k4 p.root (by simp);have h5:=k2.own p.root;rw[h4] at h5;rw[←hFq];exact e1r ⟨t',x,by rw[hsb];exact .box _ _⟩ h5 (hrel.own p.root)
     refine⟨(x,z),us',p.root::qs1,bs1,Z',F',X1,(b::fp')++fp,by simpa using k1,k2,k3,fun i hi=>k4 i (by rcases Aq.1 hi with h|h <;> simp[h]),?_,fun i hi=>k6 i (by simp[hi]),?_,?_,k9,?_,?_,?_⟩
     ·intro i hi;rw[A3];rintro(rfl|h)
      ·rcases Aq.1 hi with h|h
       ·exact hnb h
       ·exact hnq h
      ·exact k5 i (by rcases Aq.1 hi with h|h <;> simp[h]) h
     ·exact AO.2 ⟨k5 p.root (by simp),k7⟩
     ·intro i hi;rw[A3];rintro(rfl|h)
      ·exact k6 p.root (by simp) hi
      ·exact k8 i hi h
     ·refine⟨p.root,qs1,rfl,⟨x,?_⟩,by simp[had],k10⟩;rw[k4 p.root (by simp)];exact hsb
     ·exact⟨_,_,b,cc,fp',fp,rfl,by rw[had];exact n1,n2,a0g m3 (fun b hb=>.inl (k3 b hb)) fun _ _=>rfl,k11,rfl⟩
     ·rw[Bc,Bt,hFq'];refine(Ay _ k12).trans ?_;rw[←Ae,←Ae];exact Az _ Aw
    ·simp at hk
   ·simp at hk
 |.sio t::ps,ob::os,r,us,bs,qs,Z,F,X,k,res,hrel,hs,hq,hk=>by
  unfold b5u at hk;have key:∀{q:Nat} {t':Ty} {x:t'.den} {z0:t.den},r q=(e.app us).get q→(r q).s=.val t' x→a.eval ob=a.tm q→t'=t→HEq x z0→q∉bs→q∉qs →
    b5u C flat ps os (upd r [⟨q,.no,.none⟩]) us bs (q::qs) (fun z us' qs'=>k (z0,z) us' qs')=some res →
    ∃(z:a3a (.sio t::ps)) (us':List Up) (qs1 bs1:List Nat) (Z':Nat→Prop) (F':Nat→List Nat) (X1 fp:List Nat),k z us' (qs.reverse++qs1)=some res∧Rel A P C B (e.app us') a w Z' F' (X1++X)∧(∀b,Z b→Z' b) ∧
    (∀i,i∈bs++qs→(e.app us').get i=(e.app us).get i)∧(∀i,i∈bs++qs→i∉qs1)∧(∀i,i∈qs→i∉bs1)∧qs1.Nodup∧(∀i,i∈bs1→i∉qs1)∧(bs1≠[]→flat=true) ∧
    d4z (e.app us') a (.sio t::ps) ((ob::os).map a.eval) qs1∧a7t A P (fun b=>Z' b∨∃i,i∈bs1∧b∈F' i) w.heap (.sio t::ps) ((ob::os).map a.eval) z fp∧fp.Perm (X1++(qs1.map F').flatten):=by
   intro q t' x z0 hre hsb had heq hz hnb hnq hk;subst heq;obtain rfl:=eq_of_heq hz;rw[hre] at hsb;have ho:=hrel.own q;rw[hsb] at ho;obtain⟨cs,n1,n2⟩:=ho;obtain⟨z,us',qs1,bs1,Z',F',X1,fp,k1,k2,k3,k4,k5,k6,k7,k8,k9,k10,k11,k12⟩:=b3f hft ps os (us:=us) (bs:=bs) (qs:=q::qs) hrel (e3r hs)
    (fun i hi=>by
     rw[e2h];split
     ·rfl
     ·rename_i hne;rcases A3.1 hi with rfl|hi
      ·exact absurd rfl hne
      ·exact hq i hi) hk
   have hFq':F' q=F q:=by
    have h4:=k4 q (by simp);have h5:=k2.own q;rw[h4] at h5;exact e1r ⟨t',x,by rw[hsb];exact .val _ _⟩ h5 (hrel.own q)
   refine⟨(x,z),us',q::qs1,bs1,Z',F',X1,F q++fp,by simpa using k1,k2,k3,fun i hi=>k4 i (by rcases Aq.1 hi with h|h <;> simp[h]),?_,fun i hi=>k6 i (by simp[hi]),?_,?_,k9,?_,?_,?_⟩
   ·intro i hi;rw[A3];rintro(rfl|h)
    ·rcases Aq.1 hi with h|h
     ·exact hnb h
     ·exact hnq h
    ·exact k5 i (by rcases Aq.1 hi with h|h <;> simp[h]) h
   ·exact AO.2 ⟨k5 q (by simp),k7⟩
   ·intro i hi;rw[A3];rintro(rfl|h)
    ·exact k6 i (by simp) hi
    ·exact k8 i hi h
   ·refine⟨q,qs1,rfl,⟨x,?_⟩,by simp[had],k10⟩;rw[k4 q (by simp)];exact hsb
   ·exact⟨_,_,cs,F q,fp,rfl,by rw[had];exact n1,a0g n2 (fun b hb=>.inl (k3 b hb)) fun _ _=>rfl,k11,rfl⟩
   ·rw[Bc,Bt,hFq'];refine(Ay _ k12).trans ?_;rw[←Ae,←Ae];exact Az _ Aw
  cases ob with
  |tmp i =>
   dsimp only at hk;cases hri:(r i).s with
   |val t' x =>
    rw[hri] at hk;dsimp only at hk;split at hk
    ·rename_i hcond;simp only[Af,B2,Cy,decide_eq_false_iff_not] at hcond;obtain⟨heq,y,hy,hk⟩:=b0y hk;exact key (a3r hs hri (by simp)) hri rfl heq hy hcond.1 hcond.2 hk
    ·simp at hk
   |ali p v c =>
    rw[hri] at hk;dsimp only at hk;split at hk
    ·rename_i hcond;simp only[Af,B2,Cy,decide_eq_false_iff_not] at hcond;obtain⟨⟨hw,hnb⟩,hnq⟩:=hcond;obtain⟨t',x,h1,h2,h3,hk⟩:=a8m hk;have hre:=hs p.root (a5u h1);have hie:=a3r hs hri (by simp);split at hk
     ·rename_i tb xb hrb;rw[hrb] at h1;cases h1;obtain⟨heq,y,hy,hk⟩:=b0y hk;have href:=hrel.ref i;rw[show((e.app us).get i).s=.ali p v c from by rw[←hie];exact hri] at href;rw[hre] at h2 h3;have hat:=href.2.2 h2 h3;have hix:p.ix=none∧p.p1=[]:=by
       unfold Pl.whole at hw;split at hw
       ·exact⟨‹_›,‹_›⟩
       ·simp at hw
      have hsb:((e.app us).get p.root).s=.val t' x:=by rw[←hre];exact hrb
      obtain⟨t1,cs,base,u1,u2,u3⟩:=hat;rw[hsb] at u1 u2;obtain rfl:t'=t1:=by simpa[SV.rootTy] using u1
      have had:a.eval (.tmp i)=a.tm p.root:=by
       rcases u3 with⟨t2,cs2,ad2,v1,v2,_⟩|⟨v1,_⟩
       ·unfold Loc at v1;rw[hix.1] at v1;obtain⟨o1,x1,x2,x3⟩:=v1;rw[hix.2] at x1;simp only[a1w,Ad,Aj] at x1;obtain⟨rfl,rfl⟩:=x1;have ho:=hrel.own p.root;rw[hsb] at ho;obtain⟨cs3,y1,y2⟩:=ho;obtain rfl:=f1i u2.1 y1;rw[x2,b1n (a1j y2)] at v2;have h4:=v2;have h5:=y1;unfold VC at h4 h5;split at h4
        ·rw[if_pos ‹_›] at h5;rw[a5s,h4,h5]
        ·rw[if_neg ‹_›] at h5;have:=h4.1.symm.trans h5.1;simpa[a5s] using this
       ·rw[hix.1] at v1;simp at v1
      exact key hre hrb had heq hy hnb hnq hk
     ·simp at hk
    ·simp at hk
   |_=>rw[hri] at hk;simp at hk
  |_=>simp at hk
 |[],_::_,r,us,bs,qs,Z,F,X,k,res,hrel,hs,hq,hk=>by simp[b5u] at hk
 |.val _::_,[],r,us,bs,qs,Z,F,X,k,res,hrel,hs,hq,hk=>by simp[b5u] at hk
 |.io _::_,[],r,us,bs,qs,Z,F,X,k,res,hrel,hs,hq,hk=>by simp[b5u] at hk
 |.sio _::_,[],r,us,bs,qs,Z,F,X,k,res,hrel,hs,hq,hk=>by simp[b5u] at hk
end Go.Rb

namespace Go.Rb
variable {A:Amb} {P:Program} {Z Z':Nat→Prop} {h h':Array Obj} {R:Type} {C:Ctx} {B:Base} {e:En} {a:Act} {w w':World} {F F0:Nat→List Nat} {X X0:List Nat} {r:Nat→Ent} {o:Oper}
def e4a(A:Amb)(P:Program)(Z:Nat→Prop)(h:Array Obj)(x x':Ent)(v:Value)(fp:List Nat):Prop :=
 (∃t y y',x.s=.box t y∧x'=⟨x.v,x.c+1,.box t y'⟩∧Own A P Z h (.box t y') v fp) ∨
 (∃t y y',x.s=.val t y∧x'=⟨x.v+1,x.c,.val t y'⟩∧Own A P Z h (.val t y') v fp)
theorem b9s:∀{ps:List PS} {vs:List Value} {qs:List Nat} {e:En} {y:b3g ps} {fi:List Nat},d4z e a ps vs qs→qs.Nodup→b0u A P Z h ps vs y fi →
  ∃G:Nat→List Nat,fi=(qs.map G).flatten∧(∀q,q∈qs→e4a A P Z h (e.get q) ((e.app (c9q ps y qs)).get q) (a.tm q) (G q)) ∧
   ∀q,q∉qs→(e.app (c9q ps y qs)).get q=e.get q
 |[],vs,qs,e,y,fi,hi,hn,hr=>by
  obtain rfl:qs=[]:=hi;obtain rfl:fi=[]:=hr;exact⟨fun _=>[],rfl,by simp,fun _ _=>rfl⟩
 |.val t::ps,vs,qs,e,y,fi,hi,hn,hr=>b9s (ps:=ps) hi hn hr
 |.io t::ps,vs,qs,e,y,fi,hi,hn,hr=>by
  obtain⟨q,qs',rfl,⟨x,h1⟩,h2,h3⟩:=hi;obtain⟨b,c,f1,f2,g1,g2,g3,g4,rfl⟩:=hr;obtain⟨hq,hn⟩:=AO.1 hn;have hoth:∀i,i≠q→(e.app [⟨q,.cont,.box t y.1⟩]).get i=e.get i:=fun i hi=>by rw[a0j,if_neg (BM hi)]
  obtain⟨G,k1,k2,k3⟩:=b9s (ps:=ps) (e:=e.app [⟨q,.cont,.box t y.1⟩]) (b3s (fun i hi=>hoth i fun h=>hq (h ▸ hi)) h3) hn g4;refine⟨setF G q (b::f1),?_,fun i hi=>?_,fun i hi=>?_⟩
  ·rw[Bc,Bt];congr 1
   ·simp[setF]
   ·rw[k1];congr 1;exact EM fun i hi=>by simp only[setF];rw[if_neg (fun h:i=q=>hq (h ▸ hi))]
  ·show e4a A P Z h _ ((En.app (e.app [⟨q,.cont,.box t y.1⟩]) (c9q ps y.2 qs')).get i) _ _;by_cases hiq:i=q
   ·subst hiq;rw[k3 i hq,a0j,if_pos rfl];refine .inl ⟨t,x,y.1,h1,rfl,?_⟩;rw[h2] at g1;exact⟨b,c,f1,Ag g1,g2,by simp[setF],g3⟩
   ·have:=k2 i ((A3.1 hi).resolve_left hiq);rw[hoth i hiq] at this;simp only[setF,if_neg hiq];exact this
  ·show(En.app (e.app [⟨q,.cont,.box t y.1⟩]) (c9q ps y.2 qs')).get i=_;rw[k3 i fun h=>hi (AE _ h),hoth i fun h=>hi (by simp[h])]
 |.sio t::ps,vs,qs,e,y,fi,hi,hn,hr=>by
  obtain⟨q,qs',rfl,⟨x,h1⟩,h2,h3⟩:=hi;obtain⟨v,cs,f1,f2,g1,g2,g3,g4,rfl⟩:=hr;obtain⟨hq,hn⟩:=AO.1 hn;have hoth:∀i,i≠q→(e.app [⟨q,.slot,.val t y.1⟩]).get i=e.get i:=fun i hi=>by rw[a0j,if_neg (BM hi)]
  obtain⟨G,k1,k2,k3⟩:=b9s (ps:=ps) (e:=e.app [⟨q,.slot,.val t y.1⟩]) (b3s (fun i hi=>hoth i fun h=>hq (h ▸ hi)) h3) hn g4;refine⟨setF G q f1,?_,fun i hi=>?_,fun i hi=>?_⟩
  ·rw[Bc,Bt];congr 1
   ·simp[setF]
   ·rw[k1];congr 1;exact EM fun i hi=>by simp only[setF];rw[if_neg (fun h:i=q=>hq (h ▸ hi))]
  ·show e4a A P Z h _ ((En.app (e.app [⟨q,.slot,.val t y.1⟩]) (c9q ps y.2 qs')).get i) _ _;by_cases hiq:i=q
   ·subst hiq;rw[k3 i hq,a0j,if_pos rfl];refine .inr ⟨t,x,y.1,h1,rfl,?_⟩;rw[h2] at g1;obtain rfl:=Ag g1;exact⟨cs,g2,by simpa[setF] using g3⟩
   ·have:=k2 i ((A3.1 hi).resolve_left hiq);rw[hoth i hiq] at this;simp only[setF,if_neg hiq];exact this
  ·show(En.app (e.app [⟨q,.slot,.val t y.1⟩]) (c9q ps y.2 qs')).get i=_;rw[k3 i fun h=>hi (AE _ h),hoth i fun h=>hi (by simp[h])]
theorem f5n{e':En}{F:Nat→List Nat}{tm:Nat→Value}{s:SV}{v:Value}(ho:∀i,Own A P Z h (e.get i).s (tm i) (F i))(hpk:∀l,s=.pts l→∀b n c,v=.slice (some ⟨b,0,none⟩) n c→h'[b]?=h[b]?)(hr:Ref e tm h s v)
  (hroot:∀r,((e'.get r=e.get r)∧∀b,b∈F r→h'[b]?=h[b]?)∨∃Z' fp',e4a A P Z' h' (e.get r) (e'.get r) (tm r) fp'):Ref e' tm h' s v:=by
 have hptr:∀p n c v,Ref e tm h (.ptr p n c) v→Ref e' tm h' (.ptr p n c) v:=by
  intro p n c v hr;obtain⟨h1,h2,h3⟩:=hr;rcases hroot p.root with⟨g1,g3⟩|⟨_,_,⟨t,y,y',g1,g2,g3⟩|⟨t,y,y',g1,g2,g3⟩⟩
  ·exact⟨by rw[g1];exact h1,by rw[g1];exact h2,fun k1 k2=>b2i (ho _) (by rw[g1]) rfl g3 (h3 (by rw[←g1];exact k1) fun hx=>by rw[←g1];exact k2 hx)⟩
  ·refine⟨by rw[g2];exact h1,by rw[g2];show c≤_+1;omega,fun k1 k2=>?_⟩;rw[g2] at k1 k2;cases hix:p.ix with
   |some jq =>
    exfalso;have hcc:(e.get p.root).c+1=c:=k2 (by rw[hix];rfl);omega
   |none =>
    obtain⟨t',cs',base',q1,q2,q3⟩:=h3 k1 (fun hx=>by rw[hix] at hx;simp at hx);rw[g1] at q1 q2;obtain rfl:=Ag q1;obtain⟨b,c0,u1,u2,rfl,rfl⟩:=q2;obtain⟨b',c',fp1,v1,v2,v3,v4⟩:=g3;rw[u1] at v1;simp only[C9,Ad,B0,and_true] at v1;subst v1;refine⟨_,c'.toList,some b,by rw[g2];rfl,by rw[g2];exact⟨b,c',u1,v2,rfl,rfl⟩,?_⟩;rcases q3 with⟨t0,cs0,ad,w1,w2⟩|⟨w1,_⟩
    ·unfold Loc at w1;rw[hix] at w1;obtain⟨o1,w3,w4,w5⟩:=w1;exact .inl ⟨t0,seg c'.toList o1 t0.size,ad,by unfold Loc;rw[hix];exact⟨o1,w3,rfl,w5⟩,w2⟩
    ·rw[hix] at w1;simp at w1
  ·refine⟨by rw[g2];show n≤_+1;omega,by rw[g2];exact h2,fun k1 k2=>?_⟩;rw[g2] at k1;have:(e.get p.root).v+1=n:=k1;omega
 cases s with
 |ptr p n c=>exact hptr p n c v hr
 |pts l=>exact c3u hptr (hpk l rfl) hr
 |pte q n j =>
  obtain⟨h1,h2⟩:=hr;rcases hroot q with⟨g1,_⟩|⟨_,_,⟨t,y,y',g1,g2,_⟩|⟨t,y,y',g1,g2,_⟩⟩
  ·exact⟨by rw[g1];exact h1,fun k=>by rw[g1] at k ⊢;exact h2 k⟩
  ·refine⟨by rw[g2];exact h1,fun k=>?_⟩;rw[g2] at k;obtain⟨l,b,q1,_⟩:=h2 k;rw[g1] at q1;cases q1
  ·refine⟨by rw[g2];show n≤_+1;omega,fun k=>?_⟩;rw[g2] at k;have:(e.get q).v+1=n:=k;omega
 |ali p n c =>
  obtain⟨h1,h2,h3⟩:=hr;rcases hroot p.root with⟨g1,g3⟩|⟨_,_,⟨t,y,y',g1,g2,g3⟩|⟨t,y,y',g1,g2,g3⟩⟩
  ·exact⟨by rw[g1];exact h1,by rw[g1];exact h2,fun k1 k2=>b2i (ho _) (by rw[g1]) rfl g3 (h3 (by rw[←g1];exact k1) (by rw[←g1];exact k2))⟩
  ·refine⟨by rw[g2];exact h1,by rw[g2];show c≤_+1;omega,fun k1 k2=>?_⟩;rw[g2] at k2;have:(e.get p.root).c+1=c:=k2;omega
  ·refine⟨by rw[g2];show n≤_+1;omega,by rw[g2];exact h2,fun k1 k2=>?_⟩;rw[g2] at k1;have:(e.get p.root).v+1=n:=k1;omega
 |sub p n c lo hi =>
  obtain⟨h1,h2,h3⟩:=hr;rcases hroot p.root with⟨g1,g3⟩|⟨_,_,⟨t,y,y',g1,g2,g3⟩|⟨t,y,y',g1,g2,g3⟩⟩
  ·refine⟨by rw[g1];exact h1,by rw[g1];exact h2,fun k1 k2=>?_⟩;obtain⟨q1,q2⟩:=h3 (by rw[←g1];exact k1) (by rw[←g1];exact k2);exact⟨q1,b2i (ho _) (by rw[g1]) rfl g3 q2⟩
  ·refine⟨by rw[g2];exact h1,by rw[g2];show c≤_+1;omega,fun k1 k2=>?_⟩;rw[g2] at k2;have:(e.get p.root).c+1=c:=k2;omega
  ·refine⟨by rw[g2];show n≤_+1;omega,by rw[g2];exact h2,fun k1 k2=>?_⟩;rw[g2] at k1;have:(e.get p.root).v+1=n:=k1;omega
 |_=>trivial
theorem a3u{qs:List Nat}{G:Nat→List Nat}{b:Nat}:b∈(qs.map G).flatten↔∃q,q∈qs∧b∈G q:=by
 simp only[B6,List.mem_map];exact⟨fun⟨_,⟨q,h1,h2⟩,h3⟩=>⟨q,h1,h2 ▸ h3⟩,fun⟨q,h1,h2⟩=>⟨_,⟨q,h1,rfl⟩,h2⟩⟩
theorem d5q{G:Nat→List Nat}:∀{qs:List Nat},(qs.map G).flatten.Nodup→∀i j b,i∈qs→j∈qs→b∈G i→b∈G j→i=j
 |[],_,i,j,b,hi,_,_,_=>by simp at hi
 |q::qs,hn,i,j,b,hi,hj,hbi,hbj=>by
  rw[Bc,Bt] at hn;obtain⟨_,n2,n3⟩:=Ak.1 hn;rcases A3.1 hi with rfl|hi' <;> rcases A3.1 hj with rfl|hj'
  ·rfl
  ·exact absurd rfl (n3 b hbi b (a3u.2 ⟨j,hj',hbj⟩))
  ·exact absurd rfl (n3 b hbj b (a3u.2 ⟨i,hi',hbi⟩))
  ·exact d5q n2 i j b hi' hj' hbi hbj
theorem d2g{G:Nat→List Nat}:∀{qs:List Nat},(qs.map G).flatten.Nodup→∀i,i∈qs→(G i).Nodup
 |[],_,i,hi=>by simp at hi
 |q::qs,hn,i,hi=>by
  rw[Bc,Bt] at hn;obtain⟨n1,n2,_⟩:=Ak.1 hn;rcases A3.1 hi with rfl|hi'
  ·exact n1
  ·exact d2g n2 i hi'
theorem Rel.call(hrel:Rel A P C B e a w Z F X){ps:List PS}{vs:List Value}{qs:List Nat}{y:b3g ps}{fp fr fi:List Nat}(hfp:fp.Perm (X++(qs.map F).flatten))(hq:qs.Nodup)(hi:d4z e a ps vs qs)
  (hio:b0u A P Z' w'.heap ps vs y fi) (hst:Step Z w fp Z' w' (fr++fi)):∃F',Rel A P C B (e.app (c9q ps y qs)) a w' Z' F' fr:=by
 obtain⟨G,rfl,hb,hnb⟩:=b9s hi hq hio;have hnd:=hst.nodup;obtain⟨hn1,hn2,hn3⟩:=Ak.1 hnd;have hmp:∀b,b∈fp↔b∈X∨∃q,q∈qs∧b∈F q:=fun b=>by rw[hfp.mem_iff,Aq,a3u]
 have hZp:∀b,Z b→b∉fp:=fun b hz hb=>by
  rcases(hmp b).1 hb with h1|⟨q,_,h1⟩
  ·exact hrel.xnotZ b h1 hz
  ·exact hrel.notZ q b h1 hz
 have hFp:∀i b,i∉qs→b∈F i→b∉fp:=fun i b hi hbi hb=>by
  rcases(hmp b).1 hb with h1|⟨q,hq,h1⟩
  ·exact hrel.xdisj i b hbi h1
  ·exact hi (hrel.disj i q b hbi h1 ▸ hq)
 have hpb:∀b,b∈fp→b<w.heap.size:=fun b hb=>by
  rcases(hmp b).1 hb with h1|⟨q,_,h1⟩
  ·exact hrel.xb b h1
  ·exact hrel.fb q b h1
 have hpn:∀b,b∈fp→B.fp0 b∨B.w0.heap.size≤b:=fun b hb=>by
  rcases(hmp b).1 hb with h1|⟨q,_,h1⟩
  ·exact hrel.xnew b h1
  ·exact hrel.fnew q b h1
 have hZh:∀b,Z b→w'.heap[b]?=w.heap[b]?:=fun b hz=>hst.keep b (hrel.zb b hz) (hZp b hz)
 have hFh:∀i b,i∉qs→b∈F i→w'.heap[b]?=w.heap[b]?:=fun i b hi hb=>hst.keep b (hrel.fb i b hb) (hFp i b hi hb)
 have hnew:∀b,b∈fr++(qs.map G).flatten→B.fp0 b∨B.w0.heap.size≤b:=fun b hb=>by
  rcases hst.fnew b hb with h1|h1
  ·exact hpn b h1
  ·exact .inr (AM hrel.hs h1)
 have hG:∀i b,i∈qs→b∈G i→b∈fr++(qs.map G).flatten:=fun i b hi hb=>Al _ (a3u.2 ⟨i,hi,hb⟩)
 have hGF:∀j b,j∉qs→b∈F j→b∉fr++(qs.map G).flatten:=fun j b hj hb hx=>by
  rcases hst.fnew b hx with h1|h1
  ·exact hFp j b hj hb h1
  ·have:=hrel.fb j b hb;omega
 refine⟨fun i=>if i∈qs then G i else F i,{ own:=fun i=>?_,ref:=fun i=>?_,nodup:=fun i=>?_,disj:=fun i j b hi hj=>?_,notZ:=fun i b hb=>?_,fb:=fun i b hb=>?_,fnew:=fun i b hb=>?_,xnodup:=hn1,xdisj:=fun i b hb=>?_,xnotZ:=fun b hb=>hst.disj b (Am _ hb),xb:=fun b hb=>hst.fb b (Am _ hb),xnew:=fun b hb=>hnew b (Am _ hb),zb:=hst.zb,z:=fun b hb=>hst.z b (hrel.z b hb),znew:=fun b hb=>?_,hs:=AM hrel.hs hst.size,keep:=fun b hb hn=>?_,os:=hst.os.trans hrel.os,out:=hst.out.trans hrel.out,tape:=hst.tape.trans hrel.tape,defs:=hrel.defs,nt:=hrel.nt,glob:=hrel.glob.mono hst.z hZh,fix:=hrel.fix }⟩
 ·by_cases hi:i∈qs
  ·simp only[if_pos hi];rcases hb i hi with⟨t,y,y',g1,g2,g3⟩|⟨t,y,y',g1,g2,g3⟩ <;> rw[g2] <;> exact g3
  ·simp only[if_neg hi];rw[hnb i hi];exact b4g (hrel.own i) hst.z fun b hb=>hb.elim (hZh b) (hFh i b hi)
 ·by_cases hi:i∈qs
  ·rcases hb i hi with⟨t,y,y',g1,g2,g3⟩|⟨t,y,y',g1,g2,g3⟩ <;> rw[g2] <;> trivial
  ·rw[hnb i hi];refine f5n (F:=F) hrel.own (b2w (hrel.own i) hZh) (hrel.ref i) fun q=>?_
   by_cases hqq:q∈qs
   ·exact .inr ⟨_,_,hb q hqq⟩
   ·exact .inl ⟨hnb q hqq,fun b=>hFh q b hqq⟩
 ·split
  ·exact d2g hn2 i ‹_›
  ·exact hrel.nodup i
 ·try dsimp only at hi hj
  split at hi <;> split at hj
  ·exact d5q hn2 i j b ‹_› ‹_› hi hj
  ·exact absurd (hG i b ‹_› hi) (hGF j b ‹_› hj)
  ·exact absurd (hG j b ‹_› hj) (hGF i b ‹_› hi)
  ·exact hrel.disj i j b hi hj
 ·split at hb
  ·exact hst.disj b (hG i b ‹_› hb)
  ·intro hz;rcases hst.znew b hz with h1|h1|h1
   ·exact hrel.notZ i b hb h1
   ·exact hFp i b ‹_› hb h1
   ·have:=hrel.fb i b hb;omega
 ·split at hb
  ·exact hst.fb b (hG i b ‹_› hb)
  ·exact AU (hrel.fb i b hb) hst.size
 ·split at hb
  ·exact hnew b (hG i b ‹_› hb)
  ·exact hrel.fnew i b hb
 ·split at hb
  ·intro hx;exact hn3 b hx b (a3u.2 ⟨i,‹_›,hb⟩) rfl
  ·exact fun hx=>hGF i b ‹_› hb (Am _ hx)
 ·rcases hst.znew b hb with h1|h1|h1
  ·exact hrel.znew b h1
  ·exact .inr (hpn b h1)
  ·exact .inr (.inr (AM hrel.hs h1))
 ·rw[hst.keep b (AU hb hrel.hs) fun hx=>?_,hrel.keep b hb hn];rcases hpn b hx with h2|h2
  ·exact hn h2
  ·omega
end Go.Rb

namespace Go.Rb
variable {A:Amb} {P:Program} {Z Z':Nat→Prop} {h h':Array Obj} {R:Type} {C:Ctx} {B:Base} {e:En} {a:Act} {w w':World} {F F0:Nat→List Nat} {X X0:List Nat} {r:Nat→Ent} {o:Oper}
def f9q(dst:Option Nat)(s:SV)(us:List Up):List Up :=
 match dst with
 |some d=>us++[⟨d,.slot,s⟩]
 |none=>us
theorem c7u{dst:Option Nat}{s:SV}{us:List Up}{k:List Up→Option R}:fin dst s us k=k (f9q dst s us):=by cases dst <;> rfl
def SV.noRef:SV→Prop
 |.ptr _ _ _|.ali _ _ _|.sub _ _ _ _ _|.pts _|.pte _ _ _=>False
 |_=>True
theorem c9f{s:SV}(hs:s.noRef){tm:Nat→Value}{v:Value}:Ref e tm h s v:=by
 cases s <;> first|exact hs.elim|trivial
theorem c1w{us:List Up}(hrel:Rel A P C B (e.app us) a w Z F X){dst:Option Nat}(hd:∀d,dst=some d→a4f C B d){s:SV}{v:Value}(own:Own A P Z w.heap s v X)(hs:s.noRef) :
  ∃F',Rel A P C B (e.app (f9q dst s us)) (a.put dst v) w Z F' []:=by
 cases dst with
 |none =>
  exact⟨F,{ hrel with xnodup:=Ax,xdisj:=fun _ _ _=>by simp,xnotZ:=by simp,xb:=by simp,xnew:=by simp }⟩
 |some d =>
  refine⟨setF F d X,?_⟩;show Rel A P C B (e.app (us++[⟨d,.slot,s⟩])) _ _ _ _ _;rw[a2b];exact hrel.dst (hd d rfl) (Y:=X) (X':=[]) (by simp) (Ar _) rfl rfl rfl (fun _ _ _=>rfl) (fun b=>id) (fun b=>.inl) hrel.zb own hrel.xnodup (fun b hb=>.inl hb) hrel.xnotZ (c9f hs)
theorem c7e:∀{rs:List RS} {y:b7i rs} {l:List ((t:Ty)×t.den)} {vs:List Value} {fp:List Nat},rsK.tupOf rs y=some l→d5h A P Z h rs vs y fp →
  vs.length=l.length∧rs.length=l.length∧∃fps:List (List Nat),fp=fps.flatten∧fps.length=l.length∧∀i (hi:i<l.length),∃cs,VC l[i].1 (vs.getD i undef) cs∧Rep A P l[i].1 Z h cs l[i].2 (fps.getD i [])
 |[],y,l,vs,fp,ht,hr=>by
  obtain⟨rfl,rfl⟩:=hr;simp only[rsK.tupOf,Ad] at ht;subst ht;exact⟨rfl,rfl,[],rfl,rfl,by simp⟩
 |.val t::rs,y,l,vs,fp,ht,hr=>by
  obtain⟨v,vs',f1,f2,rfl,⟨cs,h1,h2⟩,h3,rfl⟩:=hr;simp only[rsK.tupOf] at ht;split at ht
  ·rename_i l' hl;obtain rfl:=Ag ht;obtain⟨g1,g2,fps,g3,g4,g5⟩:=c7e hl h3;refine⟨by simp[g1],by simp[g2],f1::fps,by simp[g3],by simp[g4],fun i hi=>?_⟩;cases i with
   |zero=>exact⟨cs,by simpa using h1,by simpa using h2⟩
   |succ i=>simpa using g5 i (by simpa using hi)
  ·simp at ht
 |.box t::rs,y,l,vs,fp,ht,hr=>by simp[rsK.tupOf] at ht
theorem e9d{dst:Option Nat}{rs:List RS}{y:b7i rs}{us:List Up}{k:List Up→Option R}{res:R}(hk:rsK dst rs y us k=some res) :
  ∃s,k (f9q dst s us)=some res∧s.noRef∧∀{Z:Nat→Prop} {h:Array Obj} {v:Value} {fp:List Nat},c7r A P Z h rs v y fp→Own A P Z h s v fp:=by
 unfold rsK at hk;split at hk
 ·rw[c7u] at hk;refine⟨_,hk,trivial,fun {Z h v fp} hr=>?_⟩;obtain⟨vs,⟨_,h2⟩,_⟩:=hr;exact h2
 ·rw[c7u] at hk;exact⟨_,hk,trivial,fun {Z h v fp} hr=>b5i hr⟩
 ·rw[c7u] at hk;refine⟨_,hk,trivial,fun {Z h v fp} hr=>?_⟩;obtain⟨vs,h1,h2⟩:=hr;obtain⟨v',vs',f1,f2,rfl,⟨b,c,f3,h3,h4,h5,h6⟩,⟨rfl,rfl⟩,rfl⟩:=h1;have:v=v':=by rw[h2];simp
  subst this;exact⟨b,c,f3,h3,h4,by simp[h6],h5⟩
 ·rename_i hn1 hn2 hn3;split at hk
  ·rename_i l hl;rw[c7u] at hk;refine⟨_,hk,trivial,fun {Z h v fp} hr=>?_⟩;obtain⟨vs,h1,h2⟩:=hr;obtain⟨g1,g2,fps,g3,g4,g5⟩:=c7e hl h1;refine⟨vs.toArray,fps,?_,by simpa using g1,g4,g3,fun i hi=>.inr ?_⟩
   ·rw[h2,dif_neg];intro hsz;have hlen:rs.length=1:=by rw[g2,←g1];simpa using hsz
    cases rs with
    |nil=>simp at hlen
    |cons p rs =>
     cases rs with
     |cons=>simp at hlen
     |nil =>
      cases p with
      |val t=>exact hn2 t y rfl HEq.rfl
      |box t=>exact hn3 t y rfl HEq.rfl
   ·obtain⟨cs,k1,k2⟩:=g5 i hi;exact⟨cs,by simpa using k1,k2⟩
  ·simp at hk
theorem d0s:∀{rs:List RS} {y:b7i rs} {vs:List Value} {fp:List Nat},(rs.all fun|.val t=>t.flat|.box t=>t.flat)=true→d5h A P Z h rs vs y fp→d5h A P Z' h rs vs y fp
 |[],_,_,_,_,hr=>hr
 |p::rs,y,vs,fp,hf,hr=>by
  obtain⟨v,vs',f1,f2,rfl,h1,h3,rfl⟩:=hr;rw[Cc,Af] at hf;refine⟨v,vs',f1,f2,rfl,?_,d0s hf.2 h3,rfl⟩;cases p with
  |val t=>obtain⟨cs,g1,g2⟩:=h1;exact⟨cs,g1,c1u hf.1 g2⟩
  |box t=>obtain⟨b,c,f3,g1,g2,g3,g4⟩:=h1;exact⟨b,c,f3,g1,g2,c1u hf.1 g3,g4⟩
theorem b6a:∀{ps:List PS} {y:b3g ps} {vs:List Value} {fp:List Nat},(ps.all fun|.val _=>true|.io t=>t.flat|.sio t=>t.flat)=true→b0u A P Z h ps vs y fp→b0u A P Z' h ps vs y fp
 |[],_,_,_,_,hr=>hr
 |.val t::ps,y,vs,fp,hf,hr=>b6a (ps:=ps) (by rw[Cc,Af] at hf;exact hf.2) hr
 |.io t::ps,y,vs,fp,hf,hr=>by
  rw[Cc,Af] at hf;obtain⟨b,c,f1,f2,g1,g2,g3,g4,rfl⟩:=hr;exact⟨b,c,f1,f2,g1,g2,c1u hf.1 g3,b6a hf.2 g4,rfl⟩
 |.sio t::ps,y,vs,fp,hf,hr=>by
  rw[Cc,Af] at hf;obtain⟨v,cs,f1,f2,g1,g2,g3,g4,rfl⟩:=hr;exact⟨v,cs,f1,f2,g1,g2,c1u hf.1 g3,b6a hf.2 g4,rfl⟩
theorem c1c{c:Call}(hop:o.op=.call c){g:Operand}(hc:c.callee=.value g){f:FuncId}{first capt:Array Value}(hv:a.eval g=.func (.func f) first capt)(hcl:a2o P f) :
  (execOp a.eval o).run P w=.ok (.enter f (first++c.args.map a.eval++capt)) w:=by
 obtain⟨fn,hf,hname,hb⟩:=hcl;have h1 : ¬ fn.name = "runtime.NumGoroutine" := by simpa using hname
 have h2:¬fn.body=none:=by cases hx:fn.body <;> simp_all
 unfold execOp;simp[hop,hc,hv,resolve,Deferred.ofValue,invoke,callFunc,hf,h1,h2]
theorem d8j(hft:FtOK A P C)(hrel:Rel A P C B e a w Z F [])(hs:Sub r e)(hd:∀d,o.dst=some d→a4f C B d){c:Call}(hop:o.op=.call c){f:FuncId}{g:Operand}(hc:c.callee=.value g)(hgv:a.eval g=.func (.func f) #[] #[])
  {k:List Up→Option R} {res:R} (hk:d7x C f c.args.toList o.dst r k=some res):∃us,k us=some res∧Snd A P C B e a w us o:=by
 unfold d7x at hk;split at hk
 ·rename_i sg G hf;obtain⟨hcl,hsound⟩:=hft f sg G hf;obtain⟨x,us',qs1,bs1,Z1,F1,X1,fp,hk,k2,k3,k4,k5,k6,k7,k8,k9,k10,k11,k12⟩:=b3f hft sg.ps c.args.toList (us:=[]) (bs:=[]) (qs:=[]) hrel hs (by simp) hk;simp only[List.reverse_nil,B5,A9] at hk k2;obtain⟨y,hy,hk⟩:=Bv.1 hk;obtain⟨s,hk,hsr,hown⟩:=e9d (A:=A) (P:=P) hk;refine⟨_,hk,fun next Q hnext=>?_⟩;unfold Ch;rw[c1c hop hc hgv hcl,Ei];have hmp:∀b,b∈fp↔b∈X1∨∃q,q∈qs1∧b∈F1 q:=fun b=>by rw[k12.mem_iff,Aq,a3u]
  have hfpn:fp.Nodup:=by
   rw[k12.nodup_iff];refine Ak.2 ⟨k2.xnodup,?_,fun b hb b' hb' hbb=>?_⟩
   ·have:∀qs:List Nat,qs.Nodup→(qs.map F1).flatten.Nodup:=by
     intro qs
     induction qs with
     |nil=>intro _;simp
     |cons q qs ih =>
      intro hn;obtain⟨h1,h2⟩:=AO.1 hn;rw[Bc,Bt];refine Ak.2 ⟨k2.nodup q,ih h2,fun b hb b' hb' hbb=>?_⟩;subst hbb;obtain⟨q',h3,h4⟩:=a3u.1 hb';exact h1 (k2.disj q q' b hb h4 ▸ h3)
    exact this qs1 k7
   ·subst hbb;obtain⟨q',h3,h4⟩:=a3u.1 hb';exact k2.xdisj q' b h4 hb
  have hfpz:∀b,b∈fp→¬(Z1 b∨∃i,i∈bs1∧b∈F1 i):=by
   rintro b hb (hz|⟨i,hi,hbi⟩)
   ·rcases(hmp b).1 hb with h1|⟨q,_,h1⟩
    ·exact k2.xnotZ b h1 hz
    ·exact k2.notZ q b h1 hz
   ·rcases(hmp b).1 hb with h1|⟨q,hq,h1⟩
    ·exact k2.xdisj i b hbi h1
    ·exact k8 i hi (k2.disj i q b hbi h1 ▸ hq)
  refine(hsound x y hy _ w (#[]++c.args.map a.eval++#[]) fp (k2.glob.mono (fun b=>.inl) fun _ _=>rfl) ?_ ?_ hfpn hfpz).mono ?_
  ·rintro b (hb|⟨i,_,hb⟩)
   ·exact k2.zb b hb
   ·exact k2.fb i b hb
  ·simpa using k11
  ·rintro en w' ⟨v,Z2,fr,fi,rfl,hr,hio,hst⟩;have hio':b0u A P Z2 w'.heap sg.ps (c.args.toList.map a.eval) y.2 fi:=by simpa using hio
   have key:∃Z3,Step Z1 w fp Z3 w' (fr++fi)∧b0u A P Z3 w'.heap sg.ps (c.args.toList.map a.eval) y.2 fi∧c7r A P Z3 w'.heap sg.rs v y.1 fr:=by
    by_cases hb:bs1=[]
    ·subst hb;refine⟨Z2,{ hst with z:=fun b hb=>hst.z b (.inl hb),znew:=fun b hb=>?_ },hio',hr⟩;rcases hst.znew b hb with(h1|⟨i,hi,_⟩)|h1
     ·exact .inl h1
     ·simp at hi
     ·exact .inr h1
    ·have hfl:=k9 hb;simp only[Sig.flat,Af] at hfl;obtain⟨vs,h1,h2⟩:=hr;refine⟨Z1,{ hst with z:=fun b=>id,znew:=fun b hb=>.inl hb,zb:=fun b hb=>AU (k2.zb b hb) hst.size,disj:=fun b hb hz=>hst.disj b hb (hst.z b (.inl hz)) },b6a hfl.2 hio',vs,d0s hfl.1 h1,h2⟩
   obtain⟨Z3,hst3,hio3,hr3⟩:=key;obtain⟨F2,hrel2⟩:=k2.call k12 k7 k10 hio3 hst3;rw[←a2b] at hrel2;obtain⟨F3,hrel3⟩:=c1w hrel2 hd (hown hr3) hsr;exact hnext _ _ _ _ hrel3
 ·simp at hk
end Go.Rb

namespace Go.Rb
variable {A:Amb} {P:Program} {Z Z':Nat→Prop} {h h':Array Obj} {R:Type} {C:Ctx} {B:Base} {e:En} {a:Act} {w w':World} {F F0:Nat→List Nat} {X X0:List Nat} {r:Nat→Ent} {o:Oper}
def a8o(ps:List PS):Bool:=ps.all fun|.val _=>true|_=>false
theorem c1g:∀{ps:List PS} {vs:List Value} {y:b3g ps} {fp:List Nat},a8o ps=true→b0u A P Z h ps vs y fp→fp=[]
 |[],_,_,_,_,hr=>hr
 |.val _::ps,vs,y,fp,hv,hr=>c1g (ps:=ps) (by unfold a8o at *;rw[Cc,Af] at hv;exact hv.2) hr
 |.io _::ps,_,_,_,hv,_=>by simp[a8o] at hv
 |.sio _::ps,_,_,_,hv,_=>by simp[a8o] at hv
theorem c1p:∀{ps:List PS} {vs:List Value} {x:a3a ps} {fp:List Nat},a8o ps=true→a7t A P Z h ps vs x fp→(∀b,Z b→Z' b)→(∀b,Z b∨b∈fp→h'[b]?=h[b]?)→a7t A P Z' h' ps vs x fp
 |[],_,_,_,_,hr,_,_=>hr
 |.val t::ps,vs,x,fp,hv,hr,hz,hh=>by
  unfold a8o at *;rw[Cc,Af] at hv;obtain⟨v,vs',cs,f1,f2,h1,h2,h3,h4,rfl⟩:=hr;exact⟨v,vs',cs,f1,f2,h1,h2,a0g h3 hz fun b hb=>hh b (hb.imp id (Am _)),c1p hv.2 h4 hz fun b hb=>hh b (hb.imp id (Al _)),rfl⟩
 |.io _::ps,_,_,_,hv,_,_,_=>by simp[a8o] at hv
 |.sio _::ps,_,_,_,hv,_,_,_=>by simp[a8o] at hv
theorem g1i(hft:FtOK A P C)(hg:GlobOK A P C Z h){f:Nat}{ta tb:Ty}{ps:List PS}{G:(⟨.val ta::ps,[.val tb]⟩:Sig).arg→Option (⟨.val ta::ps,[.val tb]⟩:Sig).res}(hf:C.ft f=some ⟨⟨.val ta::ps,[.val tb]⟩,G⟩)
  (hp:tb.pure=true) (hv:a8o ps=true) {capt:Array Value} {z:a3a ps} (hc:a7t A P Z h ps capt.toList z []) :
  Rep A P (.fn ta tb) Z h [.func (.func f) #[] capt] (fun x=>(G (x,z)).bind fun y=>some y.1.1) []:=by
 refine⟨rfl,f,#[],capt,rfl,(hft f _ G hf).1,fun Z' w' v cv x r hx hzb hvc hr hgx=>?_⟩;dsimp only at hgx;cases hgx':G (x,z) with
 |none=>rw[hgx'] at hgx;simp at hgx
 |some y =>
  rw[hgx'] at hgx;simp only[Ab,Ad] at hgx;refine((hft f _ G hf).2 (x,z) y hgx' Z' w' _ [] (hg.mono hx.1 hx.2) hzb ⟨v,capt.toList,cv,[],[],by simp,hvc,hr,c1p hv hc hx.1 fun b hb=>hb.elim (hx.2 b) (by simp),rfl⟩ Ax (by simp)).mono ?_;rintro en w'' ⟨v',Z'',fr,fi,rfl,h1,h2,h3⟩;obtain⟨cs,h4,h5⟩:=b5i h1;obtain rfl:=a1y h5 hp;obtain rfl:fi=[]:=c1g (ps:=ps) hv h2;exact⟨v',cs,Z'',rfl,h4,h3,hgx ▸ h5⟩
theorem f9h(hft:FtOK A P C)(hg:GlobOK A P C Z h){f:Nat}{ta ta2 tb:Ty}{ps:List PS}{G:(⟨.val ta::.val ta2::ps,[.val tb]⟩:Sig).arg→Option (⟨.val ta::.val ta2::ps,[.val tb]⟩:Sig).res}
  (hf:C.ft f=some ⟨⟨.val ta::.val ta2::ps,[.val tb]⟩,G⟩) (hp:tb.pure=true) (hv:a8o ps=true) {capt:Array Value} {z:a3a ps} (hc:a7t A P Z h ps capt.toList z []) :
  Rep A P (.fn2 ta ta2 tb) Z h [.func (.func f) #[] capt] (fun x x2=>(G (x,x2,z)).bind fun y=>some y.1.1) []:=by
 refine⟨rfl,f,#[],capt,rfl,(hft f _ G hf).1,fun Z' w' v cv x v2 cv2 x2 r hx hzb hvc hr hvc2 hr2 hgx=>?_⟩;dsimp only at hgx;cases hgx':G (x,x2,z) with
 |none=>rw[hgx'] at hgx;simp at hgx
 |some y =>
  rw[hgx'] at hgx;simp only[Ab,Ad] at hgx;refine((hft f _ G hf).2 (x,x2,z) y hgx' Z' w' _ [] (hg.mono hx.1 hx.2) hzb ⟨v,v2::capt.toList,cv,[],[],by simp,hvc,hr,⟨v2,capt.toList,cv2,[],[],rfl,hvc2,hr2,c1p hv hc hx.1 fun b hb=>hb.elim (hx.2 b) (by simp),rfl⟩,rfl⟩ Ax (by simp)).mono ?_;rintro en w'' ⟨v',Z'',fr,fi,rfl,h1,h2,h3⟩;obtain⟨cs,h4,h5⟩:=b5i h1;obtain rfl:=a1y h5 hp;obtain rfl:fi=[]:=c1g (ps:=ps) hv h2;exact⟨v',cs,Z'',rfl,h4,h3,hgx ▸ h5⟩
theorem Rel.frzBox(hrel:Rel A P C B e a w Z F X){q:Nat}{t' t:Ty}{x:t'.den}{y:t.den}(hq:(e.get q).s=.box t' x)(hl:t'.le t=true)(hy:HEq x y)(hp:t.pure=true) :
  Rel A P C B (e.app [⟨q,.slot,.pv t y⟩]) a w (fun b=>Z b∨b∈F q) (setF F q []) X∧Own A P (fun b=>Z b∨b∈F q) w.heap (.pv t y) (a.tm q) []:=by
 have ho:=hrel.own q;rw[hq] at ho;obtain⟨b,c,fp',h1,h2,h3,h4⟩:=ho;have hsz:t.size=c.size:=by rw[←c4m hl,←a1j h4];simp
 have own:Own A P (fun b=>Z b∨b∈F q) w.heap (.pv t y) (a.tm q) []:=by
  refine⟨rfl,⟨b,0,none⟩,c.toList,h1,.inr (by rw[h3];simp),?_,?_⟩
  ·have:=h2.row (n:=t.size) (by omega);rwa [List.take_of_length_le (by simp;omega)] at this
  ·exact a0g (a6c hl hp hy h4) (fun b hb=>hb.imp id fun hb=>by rw[h3];exact AE _ hb) fun _ _=>rfl
 refine⟨hrel.root (w':=w) (bp:=.slot) rfl rfl rfl rfl (fun _ _ _=>rfl) (fun b=>.inl) (fun b hb=>hb.imp id .inl) own (by simpa using hrel.xnodup) (fun b hb=>.inr (by simpa using hb)) ?_ trivial ?_,own⟩
 ·intro b hb hz;have hb':b∈X:=by simpa using hb
  exact hz.elim (hrel.xnotZ b hb') fun h=>hrel.xdisj q b h hb'
 ·intro i hi;refine a9o (F:=F) hrel.own (hrel.ref i) (fun _ _ _ _ _ _=>rfl) fun p=>?_
  rw[a0j];by_cases hp:p=q
  ·subst hp;right;simp[Ent.bump]
  ·left;rw[if_neg (BM hp)];exact⟨rfl,rfl,fun _ _=>rfl⟩
theorem f6k{t:Ty}{ad:Option Addr}:VC (.ptr t) (.pointer ad) [.pointer ad]:=a1c rfl rfl (by simp)
theorem b5w:∀(ps:List PS) (os:List Operand) {r:Nat→Ent} {us:List Up} {Z:Nat→Prop} {F:Nat→List Nat} {k:a3a ps→List Up→Option R} {res:R},
  Rel A P C B (e.app us) a w Z F X→Sub r (e.app us)→a9c C ps os r us k=some res →
  ∃z us' Z' F',k z us'=some res∧Rel A P C B (e.app us') a w Z' F' X∧(∀b,Z b→Z' b)∧a8o ps=true∧a7t A P Z' w.heap ps (os.map a.eval) z []
 |[],[],r,us,Z,F,k,res,hrel,hs,hk=>by
  unfold a9c at hk;exact⟨(),us,Z,F,hk,hrel,fun b=>id,rfl,rfl,rfl⟩
 |.val (.ptr t)::ps,ob::os,r,us,Z,F,k,res,hrel,hs,hk=>by
  unfold a9c at hk;split at hk
  ·rename_i hp;rcases a9y hrel hs hk with⟨t',x,hk,hpo⟩|⟨p,v,c,t',x,hk,hl⟩
   ·obtain⟨hle,y,hy,hk⟩:=a1x hk;obtain⟨z,us',Z1,F1,k1,k2,k3,k4,k5⟩:=b5w ps os hrel hs hk;obtain⟨ad,cs,g1,g2,g3,g4⟩:=hpo;refine⟨(y,z),us',Z1,F1,k1,k2,k3,by simpa[a8o] using k4,_,_,[.pointer (some ad)],[],[],rfl,by rw[g1];exact f6k,?_,k5,rfl⟩;exact⟨rfl,ad,cs,rfl,k3 _ g2,by rw[←c4m hle];exact g3,a0g (a6c hle hp hy g4) (fun b hb=>k3 b (by simpa using hb)) fun _ _=>rfl⟩
   ·split at hk
    ·rename_i tb xb hw hrb;obtain⟨t0',x0',cs,base,fp',cs0,ad,fs,fr,m1,m2,m3,m4,m5,m6,m7,m8,m9⟩:=b4h hrel hl;have hix:p.ix=none∧p.p1=[]:=by
      unfold Pl.whole at hw;split at hw
      ·exact⟨‹_›,‹_›⟩
      ·simp at hw
     have hre:(e.app us).get p.root=r p.root:=hl.root.symm;have hsb:((e.app us).get p.root).s=.box tb xb:=by rw[hre];exact hrb
     rw[hsb] at m1 m2;cases m1;obtain⟨b,cc,n1,n2,rfl,rfl⟩:=m2;have hgx:(⟨t',x⟩:Dyn)=⟨tb,xb⟩:=by
      have:=m6 fun t x=>some (⟨t,x⟩:Dyn)
      unfold a3m at this;rw[hix.2] at this;simp only[b2z,hix.1] at this;exact(Ag this).symm
     cases hgx;have had:a.eval ob=a.tm p.root:=by
      rw[m9,n1];unfold Loc at m5;rw[hix.1] at m5;obtain⟨o1,u1,u2,u3⟩:=m5;rw[hix.2] at u1;simp only[a1w,Ad,Aj] at u1;rw[←u1.1] at u3;simpa using u3
     obtain⟨hle,y,hy,hk⟩:=a1x hk;obtain⟨hr1,ho1⟩:=hrel.frzBox hsb hle hy hp;obtain⟨z,us',Z1,F1,k1,k2,k3,k4,k5⟩:=b5w ps os (us:=us++[⟨p.root,.slot,.pv t y⟩]) (by rw[a2b];exact hr1) (by rw[a2b];exact b1e hs hl.root) hk;obtain⟨_,ad',cs',g1,g2,g3,g4⟩:=ho1;refine⟨(y,z),us',Z1,F1,k1,k2,fun b hb=>k3 b (.inl hb),by simpa[a8o] using k4,_,_,[.pointer (some ad')],[],[],rfl,by rw[had,g1];exact f6k,?_,k5,rfl⟩;exact⟨rfl,ad',cs',rfl,k3 _ g2,g3,a0g g4 k3 fun _ _=>rfl⟩
    ·simp at hk
  ·simp at hk
 |[],_::_,r,us,Z,F,k,res,hrel,hs,hk=>by simp[a9c] at hk
 |.val _::_,[],r,us,Z,F,k,res,hrel,hs,hk=>by simp[a9c] at hk
 |.io _::_,_,r,us,Z,F,k,res,hrel,hs,hk=>by simp[a9c] at hk
 |.sio _::_,_,r,us,Z,F,k,res,hrel,hs,hk=>by simp[a9c] at hk
 |.val (.int _)::_,_::_,r,us,Z,F,k,res,hrel,hs,hk=>by simp[a9c] at hk
 |.val .bool::_,_::_,r,us,Z,F,k,res,hrel,hs,hk=>by simp[a9c] at hk
 |.val .str::_,_::_,r,us,Z,F,k,res,hrel,hs,hk=>by simp[a9c] at hk
 |.val .err::_,_::_,r,us,Z,F,k,res,hrel,hs,hk=>by simp[a9c] at hk
 |.val (.sl _ _ _)::_,_::_,r,us,Z,F,k,res,hrel,hs,hk=>by simp[a9c] at hk
 |.val (.slh _ _)::_,_::_,r,us,Z,F,k,res,hrel,hs,hk=>by simp[a9c] at hk
 |.val (.fn _ _)::_,_::_,r,us,Z,F,k,res,hrel,hs,hk=>by simp[a9c] at hk
 |.val (.fn2 _ _ _)::_,_::_,r,us,Z,F,k,res,hrel,hs,hk=>by simp[a9c] at hk
 |.val (.st _)::_,_::_,r,us,Z,F,k,res,hrel,hs,hk=>by simp[a9c] at hk
 |.val (.pair _ _)::_,_::_,r,us,Z,F,k,res,hrel,hs,hk=>by simp[a9c] at hk
 |.val .unit::_,_::_,r,us,Z,F,k,res,hrel,hs,hk=>by simp[a9c] at hk
 |.val (.arr _ _)::_,_::_,r,us,Z,F,k,res,hrel,hs,hk=>by simp[a9c] at hk
theorem e1g(hft:FtOK A P C)(hrel:Rel A P C B e a w Z F X)(hs:Sub r e){f:Nat}{caps:List Operand}{k:(t:Ty)→t.den→List Up→Option R}{res:R}(hk:e7h C f caps r k=some res) :
  ∃t x us Z' F' cs,k t x us=some res∧Rel A P C B (e.app us) a w Z' F' X∧VC t (.func (.func f) #[] (caps.map a.eval).toArray) cs∧Rep A P t Z' w.heap cs x []:=by
 have one:∀{ta tb:Ty} {ps:List PS} {G:(⟨.val ta::ps,[.val tb]⟩:Sig).arg→Option (⟨.val ta::ps,[.val tb]⟩:Sig).res},C.ft f=some ⟨⟨.val ta::ps,[.val tb]⟩,G⟩→tb.pure=true →
   a9c C ps caps r [] (fun z us=>k (.fn ta tb) (fun x=>(G (x,z)).bind fun y=>some y.1.1) us)=some res →
   ∃t x us Z' F' cs,k t x us=some res∧Rel A P C B (e.app us) a w Z' F' X∧VC t (.func (.func f) #[] (caps.map a.eval).toArray) cs∧Rep A P t Z' w.heap cs x []:=by
  intro ta tb ps G hf hp hk;obtain⟨z,us',Z1,F1,k1,k2,k3,k4,k5⟩:=b5w (us:=[]) ps caps hrel hs hk;exact⟨_,_,us',Z1,F1,_,k1,k2,a1c rfl rfl (by simp),g1i hft k2.glob hf hp k4 (by simpa using k5)⟩
 have two:∀{ta ta2 tb:Ty} {ps:List PS} {G:(⟨.val ta::.val ta2::ps,[.val tb]⟩:Sig).arg→Option (⟨.val ta::.val ta2::ps,[.val tb]⟩:Sig).res},C.ft f=some ⟨⟨.val ta::.val ta2::ps,[.val tb]⟩,G⟩→tb.pure=true →
   a9c C ps caps r [] (fun z us=>k (.fn2 ta ta2 tb) (fun x x2=>(G (x,x2,z)).bind fun y=>some y.1.1) us)=some res →
   ∃t x us Z' F' cs,k t x us=some res∧Rel A P C B (e.app us) a w Z' F' X∧VC t (.func (.func f) #[] (caps.map a.eval).toArray) cs∧Rep A P t Z' w.heap cs x []:=by
  intro ta ta2 tb ps G hf hp hk;obtain⟨z,us',Z1,F1,k1,k2,k3,k4,k5⟩:=b5w (us:=[]) ps caps hrel hs hk;exact⟨_,_,us',Z1,F1,_,k1,k2,a1c rfl rfl (by simp),f9h hft k2.glob hf hp k4 (by simpa using k5)⟩
 unfold e7h at hk;split at hk
 ·rename_i hf;split at hk
  ·exact one hf ‹_› hk
  ·simp at hk
 ·rename_i hf;split at hk
  ·exact one hf ‹_› hk
  ·simp at hk
 ·rename_i hf;split at hk
  ·exact two hf ‹_› hk
  ·simp at hk
 ·rename_i hf;split at hk
  ·exact two hf ‹_› hk
  ·simp at hk
 ·rename_i hf;split at hk
  ·exact one hf ‹_› (by rw[a9c];exact hk)
  ·simp at hk
 ·rename_i hf;split at hk
  ·exact two hf ‹_› (by rw[a9c];exact hk)
  ·simp at hk
 ·simp at hk
theorem d8i(hft:FtOK A P C)(hrel:Rel A P C B e a w Z F [])(hs:Sub r e){d:Nat}(hdst:o.dst=some d)(hd:a4f C B d){f:Fn}{first caps:Array Operand}{ty:Nat}
  (hop:o.op=.makeFunc f first caps) {k:List Up→Option R} {res:R} (hk:sem C (.makeFunc f first caps) ty o.dst r k=some res):∃us,k us=some res∧Snd A P C B e a w us o:=by
 cases f with
 |func f =>
  simp only[sem] at hk;split at hk
  ·rename_i hfi;obtain⟨t,x,us,Z1,F1,cs,hk,g1,g2,g3⟩:=e1g hft hrel hs hk;refine⟨_,a0c hdst hk,a6m (v:=.func (.func f) #[] (caps.map a.eval)) g1 hdst hd ?_ (by rw[show caps.map a.eval=(caps.toList.map a.eval).toArray from by apply D4.1;simp];exact g2) g3⟩;have:first=#[]:=by rw[←Array.toList_eq_nil_iff];exact hfi
   subst this;unfold execOp;simp[hop,Instr.makeFunc]
  ·simp at hk
 |_=>simp[sem] at hk
theorem f1c{l:List (Int×Nat)}{x:Int}{k:Nat→Option R}{res:R}(hk:cfsK l x k=some res):∃f,cfsV l x=.func (.func f) #[] #[]∧k f=some res:=by
 induction l with
 |nil=>simp[cfsK] at hk
 |cons q l ih =>
  obtain⟨q,f⟩:=q;unfold cfsK at hk;unfold cfsV;split at hk
  ·rename_i hx;rw[if_pos hx];exact⟨f,rfl,hk⟩
  ·rename_i hx;rw[if_neg hx];exact ih hk
theorem d9b{x:Int}:∀{es:List MapEntry} {l:List (Int×Nat×Nat)} (i:Nat),es.map (fun e=>(e.key,e.val))=l.map (fun q=>(Cv .i64 q.1,Ih #[.func (.func q.2.1) #[] #[],.func (.func q.2.2) #[] #[]])) →
  ∃r,FG (.int .i64) (.int .i64 x) es i=some r∧r.isSome=b5e l x∧∀q,r=some q→q.2=.agg #[cfsV (l.map fun q=>(q.1,q.2.1)) x,cfsV (l.map fun q=>(q.1,q.2.2)) x]
 |[],[],i,_=>⟨none,rfl,rfl,by simp⟩
 |[],_::_,_,h=>by simp at h
 |_::_,[],_,h=>by simp at h
 |e::es,q::l,i,h=>by
  simp only[Bc,AG,Aj] at h;obtain⟨⟨h1,h2⟩,h3⟩:=h;obtain⟨k,f,g⟩:=q;dsimp only at h1 h2;unfold FG;rw[h1];simp only[Instr.sameNow,if_true,b5e,Bc,cfsV];by_cases hx:x=k
  ·subst hx;simp[h2]
  ·obtain⟨r,g1,g2,g3⟩:=d9b (x:=x) (i+1) h3;simp only[hx,if_false];have:(x==k)=false:=by simpa using hx
   rw[this];exact⟨r,g1,by simp[g2],g3⟩
theorem d2d{x:Int}:∀{l:List (Int×Nat×Nat)},b5e l x=false→cfsV (l.map fun q=>(q.1,q.2.1)) x=.nilFunc∧cfsV (l.map fun q=>(q.1,q.2.2)) x=.nilFunc
 |[],_=>⟨rfl,rfl⟩
 |(k,f,g)::l,h=>by
  simp only[b5e,Bool.or_eq_false_iff,decide_eq_false_iff_not] at h;obtain⟨h1,h2⟩:=d2d h.2;simp only[Bc,cfsV,if_neg h.1];exact⟨h1,h2⟩
theorem d0j{l:List (Int×Nat×Nat)}(h:zeroCells (b6z l)≠none):zeroCells (b6z l)=some [.nilFunc,.nilFunc]:=by
 unfold b6z at *;simp only[zeroCells] at *;cases h1:d0q (l.map fun q=>(q.1,q.2.1)) 0 <;> cases h2:d0q (l.map fun q=>(q.1,q.2.2)) 0 <;> simp[h1,h2] at *
theorem c6r(htab:a3c P C){T:TypeId}{l:List (Int×Nat×Nat)}(hT:C.ty T=some (.lf (.fmap l)))(hz:zeroCells (b6z l)≠none){r:Nat}{es:Array MapEntry}{ck:Nat}(hh:w.heap[r]?=some (.map es ck))
  (hes:es.toList.map (fun e=>(e.key,e.val))=l.map (fun q=>(Cv .i64 q.1,Ih #[.func (.func q.2.1) #[] #[],.func (.func q.2.2) #[] #[]]))) {x:Int} {co:Bool} :
  (E5 T (.map (some r)) (.int .i64 x) co).run P w=.ok (if co then .tuple #[.agg #[cfsV (l.map fun q=>(q.1,q.2.1)) x,cfsV (l.map fun q=>(q.1,q.2.2)) x],.bool (b5e l x)] else .agg #[cfsV (l.map fun q=>(q.1,q.2.1)) x,cfsV (l.map fun q=>(q.1,q.2.2)) x]) w:=by
 obtain⟨i,d,h1,h2,h3,h4,_⟩:=(htab T _ hT).ex;have hd:∃k el,d=.map k el∧P.underlying k=some (.int .i64)∧C.ty el=some (b6z l):=by
  cases d <;> first|exact h4.elim|exact⟨_,_,rfl,h4.1,h4.2⟩
 obtain⟨k,el,rfl,hk,hel⟩:=hd;obtain⟨v,hv,hzr⟩:=e3m (htab el _ hel) (d0j hz);obtain⟨q,g1,g2,g3⟩:=d9b (x:=x) 0 hes;have hvv:v=.agg #[.nilFunc,.nilFunc]:=by
  have:VC (b6z l) v [.nilFunc,.nilFunc]:=hv;unfold VC at this;exact this
 have hck:∀e n w,(Fz e (n+1) k (.int .i64 x)).run P w=.ok () w:=by
  intro e n w;unfold Fz;simp[An hk]
 have hgo:(getObj r).run P w=.ok (.map es ck) w:=by simp[getObj,Sem.run,hh]
 unfold E5;cases q with
 |none =>
  have hno:b5e l x=false:=by rw[←g2];rfl
  obtain⟨n1,n2⟩:=d2d hno;simp[An h2,An hk,hgo,hck,FH,g1,hzr,hvv,n1,n2,hno]
 |some q =>
  have hyes:b5e l x=true:=by rw[←g2];rfl
  have:=g3 q rfl;obtain⟨j,u⟩:=q;dsimp only at this;subst this;simp[An h2,An hk,hgo,hck,FH,g1,hyes]
theorem d5s(hft:FtOK A P C)(hrel:Rel A P C B e a w Z F [])(hs:Sub r e)(hd:∀d,o.dst=some d→a4f C B d){c:Call}(hop:o.op=.call c){f:Operand}(hc:c.callee=.value f){t:Ty}{g:t.den}{org:Org}
  (hv:VO A P e a w.heap Z F r f t g org) {k:List Up→Option R} {res:R}
  (hk:(match(generalizing:=false) t,g,c.args.toList with
   |.lf (.cfs l),g,_=>cfsK l g fun f'=>d7x C f' c.args.toList o.dst r k
   |.fn a b,g,[x]=>match a.pure with
    |true=>asT C r x a fun y us=>(g y).bind fun z=>fin o.dst (.val b z) us k
    |false=>none
   |.fn2 a a2 b,g,[x,x2]=>match a.pure&&a2.pure with
    |true=>asT C r x a fun y us=>asT C (upd r us) x2 a2 fun y2 us2=>(g y y2).bind fun z=>fin o.dst (.val b z) (us++us2) k
    |false=>none
   |_,_,_=>none)=some res):∃us,k us=some res∧Snd A P C B e a w us o:=by
 obtain⟨cf,ff,hvc,hrf⟩:=a6d hrel hv;split at hk
 ·obtain⟨f',h1,h2⟩:=f1c hk;obtain⟨_,hcs⟩:=hrf;have hcs':cf=[cfsV _ _]:=hcs;subst hcs';have hfv:=a0n rfl hvc;exact d8j hft hrel hs hd hop hc (hfv.trans h1) h2
 ·rename_i ta tb g x hargs;split at hk
  ·rename_i hp;obtain⟨y,us,hk,⟨⟨Z1,F1,fs,cs,g1,g2,g3,g4⟩,gs⟩⟩:=a9b hft hrel hs hk;obtain rfl:=a1y g4 hp;obtain⟨z,hz,hk⟩:=Bv.1 hk;rw[c7u] at hk;obtain⟨rfl,f0,first,capt,rfl,hcl,hcon⟩:=hrf;have hfv:=a0n rfl hvc;refine⟨_,hk,fun next Q hnext=>?_⟩;unfold Ch;rw[c1c hop hc hfv hcl,Ei];have hargs':c.args.map a.eval=#[a.eval x]:=by
    apply D4.1;simp[hargs]
   rw[hargs'];refine(hcon Z1 w (a.eval x) cs y z ⟨g2,fun _ _=>rfl⟩ g1.zb g3 g4 hz).mono ?_;rintro en w' ⟨v',cv',Z2,rfl,q1,q2,q3⟩;have hst:Step Z1 w [] Z2 w' ([]++[]):=q2;obtain⟨F2,hrel2⟩:=g1.call (ps:=[]) (vs:=[]) (qs:=[]) (y:=()) (fp:=[]) (fr:=[]) (fi:=[]) (by simp) Ax rfl rfl hst;obtain⟨F3,hrel3⟩:=c1w (us:=us) hrel2 hd (s:=.val tb z) ⟨cv',q1,q3⟩ trivial;exact hnext _ _ _ _ hrel3
  ·simp at hk
 ·rename_i ta ta2 tb g x x2 hargs;split at hk
  ·rename_i hp;rw[Af] at hp;obtain⟨y,us,hk,⟨⟨Z1,F1,fs,cs,g1,g2,g3,g4⟩,gs⟩⟩:=a9b hft hrel hs hk;obtain rfl:=a1y g4 hp.1;obtain⟨y2,us2,hk,⟨⟨Z3,F3,fs2,cs2,k1,k2,k3,k4⟩,ks⟩⟩:=a9b hft g1 gs hk;obtain rfl:=a1y k4 hp.2;obtain⟨z,hz,hk⟩:=Bv.1 hk;rw[c7u] at hk;obtain⟨rfl,f0,first,capt,rfl,hcl,hcon⟩:=hrf;have hfv:=a0n rfl hvc;refine⟨_,hk,fun next Q hnext=>?_⟩;unfold Ch;rw[c1c hop hc hfv hcl,Ei];have hargs':c.args.map a.eval=#[a.eval x,a.eval x2]:=by
    apply D4.1;simp[hargs]
   rw[hargs'];refine(hcon Z3 w (a.eval x) cs y (a.eval x2) cs2 y2 z ⟨fun b hb=>k2 b (g2 b hb),fun _ _=>rfl⟩ k1.zb g3 (a0g g4 k2 fun _ _=>rfl) k3 k4 hz).mono ?_;rintro en w' ⟨v',cv',Z2,rfl,q1,q2,q3⟩;have hst:Step Z3 w [] Z2 w' ([]++[]):=q2;rw[←a2b] at k1;obtain⟨F2,hrel2⟩:=k1.call (ps:=[]) (vs:=[]) (qs:=[]) (y:=()) (fp:=[]) (fr:=[]) (fi:=[]) (by simp) Ax rfl rfl hst;obtain⟨F4,hrel3⟩:=c1w (us:=us++us2) hrel2 hd (s:=.val tb z) ⟨cv',q1,q3⟩ trivial;exact hnext _ _ _ _ hrel3
  ·simp at hk
 ·simp at hk
theorem f5a{l:List (Int×Nat×Nat)}{x:Int}:VC (b6z l) (.agg #[cfsV (l.map fun q=>(q.1,q.2.1)) x,cfsV (l.map fun q=>(q.1,q.2.2)) x]) [cfsV (l.map fun q=>(q.1,q.2.1)) x,cfsV (l.map fun q=>(q.1,q.2.2)) x] ∧
  Rep A P (b6z l) Z h [cfsV (l.map fun q=>(q.1,q.2.1)) x,cfsV (l.map fun q=>(q.1,q.2.2)) x] ((x,x,()):(b6z l).den) [] :=
 ⟨by unfold VC b6z;rfl,⟨[_],[_],[],[],rfl,rfl,⟨rfl,rfl⟩,⟨[_],[],[],[],rfl,rfl,⟨rfl,rfl⟩,⟨rfl,rfl⟩⟩⟩⟩
theorem e4p(htab:a3c P C)(hrel:Rel A P C B e a w Z F [])(hs:Sub r e){d:Nat}(hdst:o.dst=some d)(hd:a4f C B d){T:Nat}{m x:Operand}{co:Bool}{ty:Nat}
  (hop:o.op=.lookup T m x co) {k:List Up→Option R} {res:R} (hk:sem C (.lookup T m x co) ty o.dst r k=some res):∃us,k us=some res∧Snd A P C B e a w us o:=by
 simp only[sem] at hk;rw[hdst] at hk;obtain⟨t,y,org,hk,hv⟩:=a0v hrel hs hk;obtain⟨cs,fp,g1,g2⟩:=a6d hrel hv;split at hk
 ·rename_i l l' y hT;split at hk
  ·rename_i hll;simp only[Af] at hll;have hll':=of_decide_eq_true hll.1;subst hll';have hzc:zeroCells (b6z l)≠none:=fun h=>by rw[h] at hll;simp at hll
   obtain⟨tx,n,org2,hk,hv2⟩:=a0v hrel hs hk;obtain⟨cs2,fp2,p1,p2⟩:=a6d hrel hv2;split at hk
   ·rename_i n;obtain⟨_,rr,es,ck,rfl,hz,hheap,hent⟩:=g2;have hx0:=a0n rfl g1;obtain⟨_,rfl,hlo,hhi⟩:=p2;have hx1:=a0n rfl p1;have hrun:=c6r htab hT hzc hheap hent (x:=n) (co:=co);have hrun0:∀{v:Value},(E5 T (.map (some rr)) (.int .i64 n) co).run P w=.ok v w→(execOp a.eval o).run P w=.ok (.value v) w:=by
     intro v hv';simp[execOp,hop,hx0,hx1,hv']
    obtain⟨q1,q2⟩:=f5a (A:=A) (P:=P) (Z:=Z) (h:=w.heap) (l:=l) (x:=n);split at hk
    ·rw[if_neg (by simp)] at hrun;exact⟨_,a0c rfl hk,a6m (us:=[]) (a3g hrel) hdst hd (hrun0 hrun) q1 q2⟩
    ·rw[if_pos rfl] at hrun;refine⟨_,a0c rfl hk,a2f (us:=[]) (fp:=[]) (a3g hrel) hdst hd (hrun0 hrun) ?_ Ax (by simp) trivial⟩;refine⟨_,[[],[]],rfl,rfl,rfl,rfl,fun i hi=>.inr ?_⟩
     match i,hi with
     |0,_=>exact⟨_,q1,q2⟩
     |1,_=>exact⟨[.bool (b5e l n)],a1c rfl rfl (by simp),rfl,rfl⟩
   ·simp at hk
  ·simp at hk
 ·simp at hk
end Go.Rb

namespace Go.Rb
variable {A:Amb} {P:Program} {Z Z':Nat→Prop} {h h':Array Obj} {R:Type} {C:Ctx} {B:Base} {e:En} {a:Act} {w w':World} {F F0:Nat→List Nat} {X X0:List Nat} {r:Nat→Ent} {o:Oper}
theorem e1p{T ty el:TypeId}{z:Value}{sz:Nat}(ht:P.underlying T=some (.slice el))(hz:∀w,(zeroValue el).run P w=.ok z w)(hzs:z.cells.size=sz)(hsz:1≤sz)(hz1:∀v,v∈z.cells.toList→v.oneCell'=true){b off n cap:Nat}{c:Array Value}
  (hblk:Blk w.heap b c) (hn:0<n) (hfit:off+n*sz≤c.size) :
  ∃w',(B3 #[T] ty #[.slice (some ⟨b,off,none⟩) n cap]).run P w=.ok (.tuple #[]) w'∧w'.os=w.os∧w'.output=w.output∧w'.tape=w.tape∧Wr w.heap w'.heap ⟨b,off,none⟩ (As n z.cells.toList).flatten:=by
 have hzc:(B1 z.cells n).toList=(As n z.cells.toList).flatten:=by
  unfold B1;have:=d4u (n:=n) hzs hsz;rw[←hzs] at this;rw[this]
 have hlen:(As n z.cells.toList).flatten.length=n*sz:=by simp[hzs]
 obtain⟨w',q1,q2,q3,q4,q5,q6⟩:=a2h (P:=P) (As n z.cells.toList).flatten 0 w ⟨b,off,none⟩ c rfl hblk (by simp only;rw[hlen];exact hfit) (fun v hv=>by
  obtain⟨l,hl,hv⟩:=B6.1 hv;exact hz1 v (by rw[←List.eq_of_mem_replicate hl];exact hv))
 refine⟨w',?_,q2,q3,q4,q6⟩;obtain⟨m,rfl⟩:∃m,n=m+1:=⟨n - 1,by omega⟩
 simp[B3,An ht,hz,hzc,q1]
theorem c5x:∀{t t':Ty} {z z':List Value},t.imm=t'.imm→zeroCells t'=some z'→zeroCells t=some z→z'=z:=by
 intro t
 induction t with
 |sl m e t ih =>
  intro t' z z' hi h1 h2;cases t' <;> simp only[Ty.imm,reduceCtorEq] at hi
  ·simp[zeroCells] at h1 h2;rw[←h1,←h2]
  ·simp[zeroCells] at h1
 |slh e t ih=>intro t' z z' hi h1 h2;simp[zeroCells] at h2
 |st t ih =>
  intro t' z z' hi h1 h2;cases t' <;> simp only[Ty.imm,reduceCtorEq] at hi;simp only[Ty.st.injEq] at hi;exact ih hi h1 h2
 |pair a b iha ihb =>
  intro t' z z' hi h1 h2;cases t' <;> simp only[Ty.imm,reduceCtorEq] at hi;simp only[Ty.pair.injEq] at hi;simp only[zeroCells] at h1 h2;split at h1 <;> simp only[Ad,reduceCtorEq] at h1;split at h2 <;> simp only[Ad,reduceCtorEq] at h2;rename_i a1 a2 b1 b2;rw[←h1,←h2];rename_i c1 c2 d1 d2
  first|rw[iha hi.1 c1 a1,ihb hi.2 c2 a2]|rw[iha hi.1 c1 b1,ihb hi.2 c2 b2]|rw[iha hi.1 a1 b1,ihb hi.2 a2 b2]|rw[iha hi.1 c1 d1,ihb hi.2 c2 d2]
 |arr n t ih =>
  intro t' z z' hi h1 h2;cases t' <;> simp only[Ty.imm,reduceCtorEq] at hi;simp only[Ty.arr.injEq] at hi;simp only[zeroCells] at h1 h2;split at h1 <;> simp only[Ad,reduceCtorEq] at h1;split at h2 <;> simp only[Ad,reduceCtorEq] at h2;rename_i a0 a1 _ _ _ b0 b1;rw[←h1,←h2,ih hi.2 a1 b1,hi.1]
 |_ =>
  intro t' z z' hi h1 h2;cases t' <;> simp only[Ty.imm,reduceCtorEq] at hi
  all_goals (try cases hi);first|(rw[h1] at h2;exact Ag h2)|simp_all [zeroCells]
theorem d2t{cs ys:List Value}{o i n:Nat}(hl:o+ys.length≤cs.length)(hn:i+n≤ys.length):seg (a1d cs o ys) (o+i) n=seg ys i n:=by
 have h1:seg (a1d cs o ys) o ys.length=ys:=a3s rfl hl;have h2:seg (seg (a1d cs o ys) o ys.length) i n=seg (a1d cs o ys) (o+i) n:=a9u hn;rw[←h2,h1]
theorem d0k{T ty:TypeId}{u:TypeDesc}(ht:P.underlying T=some u)(b:Option Addr)(cap:Nat):(B3 #[T] ty #[.slice b 0 cap]).run P w=.ok (.tuple #[]) w:=by
 cases b <;> simp[B3,An ht]
theorem d6w{e1:Nat}{te:Ty}{l m:List te.den}{b n cap L:Nat}{cc:Array Value}{fs:List Nat}{news:List Value}(hp:te.pure=true)
  (hr:Rep A P (.sl .own e1 te) Z h [.slice (some ⟨b,0,none⟩) n cap] l fs) (hL:L+m.length≤l.length) (hb:Blk h b cc) (hw:Wr h h' ⟨b,L*te.size,none⟩ news) (hn:news.length=m.length*te.size) (hbZ:¬Z b)
  (hm:∀i (hi:i<m.length),Rep A P te Z h' (seg news (i*te.size) te.size) m[i] []) :
  fs=[b]∧Rep A P (.sl .own e1 te) Z h' [.slice (some ⟨b,0,none⟩) n cap] (l.take L++(m++l.drop (L+m.length))) fs:=by
 obtain⟨a0,n',cap',hcs,n2,n3,n4,n5,n6⟩:=hr;simp only[AG,AR,and_true] at hcs;obtain⟨rfl,rfl,rfl⟩:=hcs;rcases n6 with⟨h0,_⟩|⟨b',cc',fps,hb',v1,v2,rfl,v4,v5⟩
 ·simp at h0
 simp only[Ad,B0,and_true] at hb';subst hb';obtain rfl:=hb.same v1.blk;have hel:∀j (hj:j<l.length),fps.getD j []=[]:=fun j hj=>a1y (v5 j hj) hp
 have hfl:fps.flatten=[]:=by
  rw[List.flatten_eq_nil_iff];intro x hx;obtain⟨j,hj,rfl⟩:=List.getElem_of_mem hx;have:=hel j (by omega);rwa [a0h _ hj] at this
 obtain⟨c2,k1,k2,k3,k4⟩:=hw.blk v1.blk;have hnb:∀b',b'≠b→h'[b']?=h[b']?:=fun b' hb'=>hw.other hb'
 have hnm:e1≠1→NoMk h' b:=by
  intro he;have h0:=v1.nm he;obtain⟨c3,c4,el',fr',_,f1,f2,f3,f4,_,_⟩:=hw;intro c5 el5 fr5 h5;rw[f2] at h5;simp only[Ad,Obj.cells.injEq] at h5;obtain⟨rfl,rfl,rfl⟩:=h5;have hs4:c4.size=c3.size:=by
   rw[←AN,f3,a4i (by simpa using f4)];simp
  rw[hs4];exact h0 _ _ _ f1
 have hll:(l.take L++(m++l.drop (L+m.length))).length=l.length:=by simp;omega
 refine⟨by rw[hfl],_,_,_,rfl,by omega,n3,n4,n5,.inr ⟨b,c2,fps,rfl,⟨k1,hnm⟩,by omega,rfl,by omega,fun j hj=>?_⟩⟩;have hj':j<l.length:=by omega
 rw[hel j hj',k2];have hold:=v5 j hj';rw[hel j hj'] at hold;have hold':Rep A P te Z h' (seg cc.toList (j*te.size) te.size) (l[j]) []:=a0g hold (fun _ h=>h) fun b' hb'=>hb'.elim (fun hz'=>hnb b' (fun h=>hbZ (h ▸ hz'))) (by simp)
 have hccl:cc.toList.length=cc.size:=by simp
 have hfit:L*te.size+news.length≤cc.toList.length:=by rw[hccl];exact k3
 by_cases hjL:j<L
 ·have e1:seg (a1d cc.toList (L*te.size) news) (j*te.size) te.size=seg cc.toList (j*te.size) te.size:=by
   refine a1z hfit (.inl ?_);rw[←AC];exact Ai _ hjL
  rw[e1,BK (by simp;omega),Cq];exact hold'
 ·by_cases hjH:j<L+m.length
  ·have e1:seg (a1d cc.toList (L*te.size) news) (j*te.size) te.size=seg news ((j - L)*te.size) te.size:=by
    have e2:j*te.size=L*te.size+(j - L)*te.size:=by rw[←AA];congr 1;omega
    rw[e2];exact d2t hfit (by rw[hn,←AC];exact Ai _ (by omega))
   rw[e1,Br (by simp;omega),BK (by simp;omega)];have e3:j - (Fr L l).length=j - L:=by simp;omega
   simp only[e3];exact hm (j - L) (by omega)
  ·have e1:seg (a1d cc.toList (L*te.size) news) (j*te.size) te.size=seg cc.toList (j*te.size) te.size:=by
    refine a1z hfit (.inr ?_);rw[hn,←AA];exact Ai _ (by omega)
   rw[e1,Br (by simp;omega),Br (by simp;omega),List.getElem_drop];simp only[A7];have:L+m.length+(j - min L l.length - m.length)=j:=by omega
   simp only[this];exact hold'
theorem d2s(hrel:Rel A P C B e a w Z F [])(hd:∀d,o.dst=some d→a4f C B d){p:Pl}(hix:p.ix=none){t0:Ty}{x0:t0.den}{cs:List Value}{base:Option Nat}{fp' fr fs:List Nat}{o1 e1:Nat}{te:Ty}{x1 nl:List te.den}{cs0:List Value}
  (h1:RootIs (e.get p.root).s t0 x0) (g1:b0q w.heap (e.get p.root).s (a.tm p.root) cs base) (g2:Rep A P t0 Z w.heap cs x0 fp') (g3:(base=none∧F p.root=fp')∨∃b,base=some b∧F p.root=b::fp')
  (l1:a1w p.p1 t0=some (o1,.sl .own e1 te)) (l2:cs0=seg cs o1 (Ty.sl Md.own e1 te).size) (g6:∀{R:Type} (k:(t':Ty)→t'.den→Option R),a3m p t0 x0 k=k (.sl .own e1 te) x1) (g7:fp'.Perm (fr++fs)) (g8:Rep A P (.sl .own e1 te) Z w.heap cs0 x1 fs)
  {v:Value} {s:SV} (hrun:(execOp a.eval o).run P w=.ok (.value v) w') (r2:w'.os=w.os) (r3:w'.output=w.output) (r4:w'.tape=w.tape) (r5:w'.heap.size=w.heap.size) (r6:∀b,b∉fs→w'.heap[b]?=w.heap[b]?)
  (r7:Rep A P (.sl .own e1 te) Z w'.heap cs0 nl fs) (hown:∀h,Own A P Z h s v []) (hnr:s.noRef) {k:List Up→Option R} {res:R}
  (hk1:(c0p (.sl .own e1 te) nl p t0 x0 fun t' x'=>fin o.dst s [⟨p.root,.cont,(e.get p.root).s.with t' x'⟩] k)=some res):∃us,k us=some res∧Snd A P C B e a w us o:=by
 obtain⟨hnd,hsub,hnz,hnx⟩:=d8w hrel g3;have hFS:∀b,b∈fs→b∈fp':=fun b hb=>g7.mem_iff.2 (Al _ hb)
 have hZh:∀b,Z b→w'.heap[b]?=w.heap[b]?:=fun b hb=>r6 b fun h=>hnz b (hFS b h) hb
 have hgx:(a3m p t0 x0 fun t' x'=>some (⟨t',x'⟩:Dyn))=some ⟨.sl .own e1 te,x1⟩:=g6 _;obtain⟨x0',fs',fr',u1,u2,u3,u4,u5⟩:=e3b g2 hix l1 hk1;have hx01:x0'=x1:=by
  have:=(u1 fun t' x'=>some (⟨t',x'⟩:Dyn)).symm.trans hgx;simpa using this
 have hcs0:seg cs o1 (Ty.sl Md.own e1 te).size=cs0:=l2.symm;have hfs':fs'=fs:=by
  rw[hcs0,hx01] at u3;exact e1e u3 g8
 subst hfs';have hdisj:∀b,b∈fr'→b∉fs':=fun b hb hb'=>(Ak.1 (u2.nodup_iff.1 hnd)).2.2 b hb b hb' rfl
 obtain⟨t1',x1',fp1,y1,y2,y3,y4,_,_⟩:=u5 Z w'.heap cs0 fs' r7 (fun _ h=>h) fun b hb=>hb.elim (hZh b) fun hb=>r6 b (hdisj b hb)
 have hspl:a1d cs o1 cs0=cs:=by
  rw[←hcs0];exact a5b (d3v l1 g2)
 rw[hspl] at y4;have hcb:c0f w'.heap base cs cs:=by
  cases hbs:base with
  |none=>rfl
  |some bb =>
   rw[hbs] at g1 g3;obtain⟨b2,c2',w1,w2,w3,w4⟩:∃b2 c,a.tm p.root=.pointer (some ⟨b2,0,none⟩)∧Blk w.heap b2 c∧cs=c.toList∧some bb=some b2:=by
    generalize (e.get p.root).s=s at h1 g1;cases h1 with
    |val=>exact absurd g1.2 (by simp)
    |box=>exact g1
   obtain rfl:=Ag w4;refine⟨c2',w2.mono (r6 bb ?_),w3⟩;intro hbf;rcases g3 with⟨h,_⟩|⟨b',h,h'⟩
   ·simp at h
   ·obtain rfl:=Ag h;have:=hrel.nodup p.root;rw[h'] at this;exact(AO.1 this).1 (hFS _ hbf)
 have hpm:fp1.Perm fp':=y3.trans u2.symm;have hoth:∀b,b∉F p.root→w'.heap[b]?=w.heap[b]?:=fun b hb=>r6 b fun h=>hb (hsub b (hFS b h))
 have hrelN:=b9a (w':=w') (Z':=Z) (X':=[]) (bp:=.cont) hrel h1 g1 g3 y2 hcb y4 (by rw[A9];exact hpm.nodup_iff.2 hnd) (fun b hb=>.inl (hpm.mem_iff.1 (by simpa using hb))) (fun _ h=>h) (fun _ h=>.inl h)
  (fun b hb=>hnz b (hpm.mem_iff.1 (by simpa using hb))) r5 r2 r3 r4 (fun b _ hb=>hoth b hb) fun j _=>c6e hrel h1 g1 y2 hcb hoth (b2w (hrel.own j) fun b hb=>hoth b fun h=>hrel.notZ _ b h hb) (hrel.ref j)
 rw[c7u] at y1;refine⟨_,y1,?_⟩;intro next Q hnext;unfold Ch;rw[hrun,Oper.upon_value];obtain⟨F3,hrel3⟩:=c1w (us:=[⟨p.root,.cont,(e.get p.root).s.with t1' x1'⟩]) hrelN hd (s:=s) (hown _) hnr;exact hnext _ _ _ _ hrel3
theorem d7c(htab:a3c P C)(hrel:Rel A P C B e a w Z F [])(hs:Sub r e)(hd:∀d,o.dst=some d→a4f C B d){c:Call}{ty:Nat}
  (hop:o.op=.call c) (hc:c.callee=.builtin .clear) {k:List Up→Option R} {res:R} (hk:sem C (.call c) ty o.dst r k=some res) :
  ∃us,k us=some res∧Snd A P C B e a w us o:=by
 simp only[sem,hc] at hk;split at hk
 rotate_left
 ·simp at hk
 rename_i x T hargs' hats';have hargs:c.args=#[x]:=by rw[←By (xs:=c.args),hargs']
 have hats:c.argTypes=#[T]:=by rw[←By (xs:=c.argTypes),hats']
 unfold d6t at hk;cases x with
 |tmp i =>
  dsimp only at hk;split at hk
  rotate_left
  ·simp at hk
  rename_i p v cc lo hi m0 e0 te0 hri hT;have hie:=a3r hs hri (by simp);have hi2:(e.get i).s=.sub p v cc lo hi:=by rw[←hie];exact hri
  obtain⟨t0,x0,h1,h2',h3,hk1⟩:=a8m hk;have hre:=hs p.root (a5u h1);have href:=hrel.ref i;rw[hi2] at href;rw[hre] at h1 h2' h3;obtain⟨hix,hat⟩:=href.2.2 h2' h3;obtain⟨cs,base,fp',t1,cs0,ad,x1,fs,fr,g1,g2,g3,g4,g5,g6,g7,g8⟩:=b7n (hrel.own p.root) h1 hat hk1;rw[g6] at hk1;cases t1 with
  |sl m1 e1 te =>
   cases m1 with
   |own =>
    dsimp only at hk1;split at hk1
    rotate_left
    ·simp at hk1
    rename_i hcond;simp only[Af,decide_eq_true_eq,Option.isSome_iff_exists] at hcond;obtain⟨⟨⟨⟨c1,c2⟩,z0,hz0⟩,z,hz⟩,c3⟩:=hcond;split at hk1
    rotate_left
    ·simp at hk1
    rename_i hb;obtain⟨b1,b2,b3⟩:=hb;rw[d3m (by rw[hre];exact h1)] at hk1;rw[hre] at hk1;obtain⟨e2,te2,a0,n,cap,s1,s2,s3,s4,s5,s6,s7⟩:=g5;have hte2:te2.size=te.size:=by
     simp only[Ty.imm,Ty.sl.injEq,true_and] at s1;have:=congrArg Ty.size s1.2;rw[a1e] at this;exact this.symm
    unfold Loc at g4;rw[hix] at g4;obtain⟨o1,l1,l2,l3⟩:=g4;obtain⟨el,ii,q1,q2,q3,q4,q5,q6,q7,q8,q9⟩:=a9v htab hT;obtain⟨i',dd,r1,r2,r3,r4,r5⟩:=(htab _ _ q2).ex;rw[q3] at r1;obtain rfl:=Ag r1;obtain⟨zv,p0,p1⟩:=r5 z0 hz0;have hsz:ii.size=te.size:=by rw[q9,a3x c2]
    have hz1:zv.cells.toList=z0:=a6t p1;have hzz:z0=z:=c5x c2 hz0 hz;have hzr:Rep A P te Z w.heap z te.dflt []:=a6f hz;have hzl:z.length=te.size:=a1j hzr;have hzs:zv.cells.size=te.size:=by rw[←AN,hz1,hzz,hzl]
    have hzv:∀w:World,(zeroValue el).run P w=.ok zv w:=fun w=>by simp[zeroValue,typeInfo,q3,p0]
    have g8':=g8;rw[s2] at g8';obtain⟨a1,n1,cap1,hcs,n2,n3,n4,n5,n6⟩:=g8';simp only[AG,AR,and_true] at hcs;obtain⟨rfl,rfl,rfl⟩:=hcs;obtain⟨L,hL⟩:∃L:Nat,lo=(L:Int):=⟨lo.toNat,(B4 b1).symm⟩
    obtain⟨H,hH⟩:∃H:Nat,hi=(H:Int):=⟨hi.toNat,(B4 (by omega)).symm⟩
    subst hL hH;simp only[Ah] at hk1 s7;have hLH:L≤H:=by omega
    have hHn:H≤Cj x1:=by omega
    have hval:a.eval (.tmp i)=.slice (if cap=L then a0 else a0.map (·.add (L*te.size))) (H - L) (cap - L):=by rw[a5s,s7,hte2]
    obtain⟨nl,hnl⟩:∃nl,Fr L x1++(As (H - L) te.dflt++Ip H x1)=nl:=⟨_,rfl⟩
    rw[hnl] at hk1;have hnll:nl.length=x1.length:=by rw[←hnl];simp;omega
    have hfin:∀{w':World},(B3 #[T] o.type #[a.eval (.tmp i)]).run P w=.ok (.tuple #[]) w'→(execOp a.eval o).run P w=.ok (.value (.tuple #[])) w':=by
     intro w' r1;simp only[execOp,hop,resolve,hc,hargs,hats,AK,BJ,AI,invoke,builtin];simp[r1]
    by_cases hLH0:H=L
    ·have hnl1:nl=x1:=by rw[←hnl,hLH0,Ej];simp
     exact d2s (s:=.none) (w':=w) hrel hd hix h1 g1 g2 g3 l1 l2 (fun k=>g6 k) g7 g8 (hfin (by rw[hval,hLH0,Ej];exact d0k q1 _ _)) rfl rfl rfl rfl (fun _ _=>rfl) (by rw[hnl1];exact g8) (fun _=>rfl) trivial hk1
    ·have hne:a0≠none:=by
      rintro rfl;rcases n6 with⟨_,h0,_⟩|⟨b,_,_,h0,_⟩
      ·rw[h0] at hHn;simp at hHn;omega
      ·simp at h0
     have hb:∃b cc',a0=some ⟨b,0,none⟩∧Blk w.heap b cc'∧cc'.size=cap*te.size∧b∈fs:=by
      rcases n6 with⟨h0,_⟩|⟨b,cc',fps,h0,v1,v2,v3,_,_⟩
      ·exact absurd h0 hne
      ·exact⟨b,cc',h0,v1.blk,v2,by rw[v3];simp⟩
     obtain⟨b,cc',rfl,v1,v2,hbfs⟩:=hb;have hcapL:¬cap=L:=by omega
     have hadd:(some (⟨b,0,none⟩:Addr)).map (·.add (L*te.size))=some ⟨b,L*te.size,none⟩:=by
      simp only[Ca];rw[a8j (ad:=⟨b,0,none⟩) rfl];simp
     have hfit:L*te.size+(H - L)*te.size≤cc'.size:=by
      rw[←AA,v2];exact Ai _ (by omega)
     obtain⟨w',r1,r2,r3,r4,r6⟩:=e1p (P:=P) (w:=w) (T:=T) (ty:=o.type) (n:=H - L) (cap:=cap - L) q1 hzv hzs (by omega) (fun v hv=>a5q hzr v (by rw[←hzz,←hz1];exact hv)) v1 (by omega) hfit;rw[hz1,hzz] at r6;have hbZ:¬Z b:=hrel.notZ p.root b (by
      have hmem:b∈fp':=g7.mem_iff.2 (Al _ hbfs);rcases g3 with⟨_,h⟩|⟨_,_,h⟩ <;> rw[h] <;> simp[hmem])
     have g8s:=g8;rw[s2] at g8s;obtain⟨hfs,hrep⟩:=d6w (l:=x1) (m:=As (H - L) te.dflt) (L:=L) c1 g8s (by simp;omega) v1 r6 (by simp[hzl]) hbZ (fun j hj=>by
      have hj':j<H - L:=by simpa using hj
      have h5:=a3t (x:=z) (n:=H - L) (i:=j) hj';rw[hzl] at h5;rw[h5,List.getElem_replicate];exact a6f hz)
     have hnl2:Fr L x1++(As (H - L) te.dflt++Ip (L+(As (H - L) te.dflt).length) x1)=nl:=by
      rw[←hnl,List.length_replicate,show L+(H - L)=H by omega]
     rw[hnl2,←s2] at hrep;exact d2s (s:=.none) (w':=w') hrel hd hix h1 g1 g2 g3 l1 l2 (fun k=>g6 k) g7 g8 (hfin (by rw[hval,if_neg hcapL,hadd];exact r1)) r2 r3 r4 r6.size (fun b' hb'=>r6.other fun h=>hb' (by rw[hfs,h];simp)) hrep (fun _=>rfl) trivial hk1
   |_=>simp at hk1
  |_=>simp at hk1
 |_=>simp at hk
structure OwnAt (A:Amb) (P:Program) (e:En) (a:Act) (h:Array Obj) (Z:Nat→Prop) (F:Nat→List Nat) (r:Nat→Ent) (x:Operand) (p:Pl) (e1:Nat) (te:Ty) (l:List te.den) (lo hi:Int):Prop where
 ix:p.ix=none
 root:r p.root=e.get p.root
 ex:∃(t0:Ty) (x0:t0.den) (cs:List Value) (base:Option Nat) (fp' fr fs:List Nat) (o1:Nat) (cs0:List Value) (a0:Option Addr) (n cap:Nat),RootIs (e.get p.root).s t0 x0∧b0q h (e.get p.root).s (a.tm p.root) cs base∧Rep A P t0 Z h cs x0 fp' ∧
  ((base=none∧F p.root=fp')∨∃b,base=some b∧F p.root=b::fp')∧a1w p.p1 t0=some (o1,.sl .own e1 te)∧cs0=seg cs o1 (Ty.sl Md.own e1 te).size∧(∀{R:Type} (k:(t':Ty)→t'.den→Option R),a3m p t0 x0 k=k (.sl .own e1 te) l) ∧
  fp'.Perm (fr++fs)∧Rep A P (.sl .own e1 te) Z h cs0 l fs∧cs0=[.slice a0 n cap]∧n=l.length ∧
  a.eval x=.slice (if cap=lo.toNat then a0 else a0.map (·.add (lo.toNat*te.size))) (hi.toNat - lo.toNat) (cap - lo.toNat)
theorem d9n(hrel:Rel A P C B e a w Z F X)(hs:Sub r e){x:Operand}{k:Pl→Nat→(t:Ty)→List t.den→Int→Int→Option R}{res:R}(hk:e4x r x k=some res) :
  ∃p e1 te l lo hi,k p e1 te l lo hi=some res∧OwnAt A P e a w.heap Z F r x p e1 te l lo hi:=by
 unfold e4x at hk;cases x with
 |tmp i =>
  dsimp only at hk;have hview:(view r (.tmp i) fun t' x' org=>match t',x' with
   |.sl .own e t,l=>c5z org fun p=>k p e t l 0 l.length
   |_,_=>none)=some res→∃p e1 te l lo hi,k p e1 te l lo hi=some res∧OwnAt A P e a w.heap Z F r (.tmp i) p e1 te l lo hi:=by
   intro hk;obtain⟨t,y,org,hk,hv⟩:=a0v hrel hs hk;cases t with
   |sl m1 e1 te =>
    cases m1 with
    |own =>
     dsimp only at hk;have hval:∀{a0:Option Addr} {n cap:Nat} {fs:List Nat},Rep A P (.sl .own e1 te) Z w.heap [.slice a0 n cap] y fs→a.eval (.tmp i)=.slice a0 n cap →
       n=Cj y∧a.eval (.tmp i)=.slice (if cap=(0:Int).toNat then a0 else a0.map (·.add ((0:Int).toNat*te.size))) ((((Cj y:Nat):Int)).toNat - (0:Int).toNat) (cap - (0:Int).toNat):=by
      intro a0 n cap fs hr he;obtain⟨a1,n1,cap1,hh,h1,_⟩:=hr;simp only[AG,AR,and_true] at hh;obtain⟨rfl,rfl,rfl⟩:=hh;refine⟨h1,?_⟩;have hz:a0.map (fun x=>x.add 0)=a0:=by
       cases a0 with
       |none=>rfl
       |some ad=>simp[Addr.add]
      have h0:(0:Int).toNat=0:=rfl;rw[he];simp only[h0,Nat.zero_mul,hz,ite_self,Ah,Nat.sub_zero,h1]
     unfold c5z at hk;split at hk
     ·rename_i j;obtain⟨hj,h2,h3⟩:=hv;simp only[Iq] at hj;subst hj;have ho:=hrel.own i;rw[h2] at ho;obtain⟨cs,g1,g2⟩:=ho;have g2':=g2;obtain⟨a0,n,cap,rfl,_⟩:=g2';obtain⟨v1,v2⟩:=hval g2 (a0n rfl g1);refine⟨⟨i,[],none⟩,e1,te,y,0,Cj y,hk,rfl,h3,_,y,[.slice a0 n cap],none,F i,[],F i,0,[.slice a0 n cap],a0,n,cap,by rw[h2];exact .val _ y,by rw[h2];exact⟨g1,rfl⟩,g2,.inl ⟨rfl,rfl⟩,rfl,(b1n rfl).symm,fun k=>rfl,by simp,g2,rfl,v1,v2⟩
     ·rename_i p;obtain⟨t0,x0,cs,base,fp',cs0,ad,fs,fr,k1,k2,k3,k4,k5,k6,k7,k8,k9,k10,_⟩:=b9w hrel hv;split at hk
      ·simp at hk
      ·rename_i hix;have hix:p.ix=none:=by simpa[Pl.idx] using hix
       unfold Loc at k5;rw[hix] at k5;obtain⟨o1,l1,l2,l3⟩:=k5;have k8':=k8;obtain⟨a0,n,cap,rfl,_⟩:=k8';obtain⟨v1,v2⟩:=hval k8 (a0n rfl k9);exact⟨p,e1,te,y,0,Cj y,hk,hix,k10,t0,x0,cs,base,fp',fr,fs,o1,_,a0,n,cap,k1,k2,k3,k4,l1,l2,fun k=>k6 k,k7,k8,rfl,v1,v2⟩
     ·simp at hk
    |_=>simp at hk
   |_=>simp at hk
  split at hk
  ·rename_i p v c lo hi hri;have hie:=a3r hs hri (by simp);have hi2:(e.get i).s=.sub p v c lo hi:=by rw[←hie];exact hri
   obtain⟨t0,x0,h1,h2',h3,hk1⟩:=a8m hk;have hre:=hs p.root (a5u h1);have href:=hrel.ref i;rw[hi2] at href;rw[hre] at h1 h2' h3;obtain⟨hix,hat⟩:=href.2.2 h2' h3;obtain⟨cs,base,fp',t1,cs0,ad,x1,fs,fr,g1,g2,g3,g4,g5,g6,g7,g8⟩:=b7n (hrel.own p.root) h1 hat hk1;rw[g6] at hk1;cases t1 with
   |sl m1 e1 te =>
    cases m1 with
    |own =>
     obtain⟨e2,te2,a0,n,cap,s1,s2,s3,s4,s5,s6,s7⟩:=g5;have hte2:te2.size=te.size:=by
      simp only[Ty.imm,Ty.sl.injEq,true_and] at s1;have:=congrArg Ty.size s1.2;rw[a1e] at this;exact this.symm
     unfold Loc at g4;rw[hix] at g4;obtain⟨o1,l1,l2,l3⟩:=g4;have hn:n=Cj x1:=by
      have g8':=g8;rw[s2] at g8';obtain⟨a1,n1,cap1,hh,h1',_⟩:=g8';simp only[AG,AR,and_true] at hh;rw[hh.2.1];exact h1'
     exact⟨p,e1,te,x1,lo,hi,hk1,hix,hre,t0,x0,cs,base,fp',fr,fs,o1,cs0,a0,n,cap,h1,g1,g2,g3,l1,l2,fun k=>g6 k,g7,g8,s2,hn,by rw[a5s,s7,hte2]⟩
    |_=>simp at hk1
   |_=>simp at hk1
  ·exact hview hk
 |_=>simp at hk
theorem e4c{T T2 ty el:TypeId}{i:TypeInfo}(ht:P.underlying T=some (.slice el))(hi:P.info? el=some i){b off dl dc m:Nat}{c:Array Value}{t:Ty}{l:List t.den}{v:Value}(hsz:i.size=t.size)(hlm:l.length=m)
  (hblk:Blk w.heap b c) (hfit:off+min m dl*t.size≤c.size) (hv:SrcV A P Z w.heap false v t l) :
  ∃w' news,(AP #[T,T2] ty #[.slice (some ⟨b,off,none⟩) dl dc,v]).run P w=.ok (goInt (min m dl:Nat)) w'∧w'.os=w.os∧w'.output=w.output∧w'.tape=w.tape∧Wr w.heap w'.heap ⟨b,off,none⟩ news∧news.length=min m dl*t.size ∧
   ∀i (hi:i<(l.take dl).length),Rep A P t Z w.heap (seg news (i*t.size) t.size) (l.take dl)[i] []:=by
 have hv':=hv;rcases hv with⟨ad,n,c0,cells,rfl,rfl,h2,h3,h4,h5⟩|⟨h,_⟩
 rotate_left
 ·simp at h
 subst hlm;have hkl:min l.length dl*t.size≤cells.length:=by rw[h3];exact Ai _ (Nat.min_le_left _ _)
 have hnl:(cells.take (min l.length dl*t.size)).length=min l.length dl*t.size:=by rw[A7];exact Nat.min_eq_left hkl
 have hone:∀v,v∈cells→v.oneCell'=true:=by
  intro v hv;obtain⟨j,hj,hv⟩:=c1h h3 hv;exact a5q (h5 j hj) v hv
 have hfc:(AD i.size (min l.length dl) (.slice ad l.length c0)).run P w=.ok (cells.take (min l.length dl*t.size)).toArray w:=by
  have hload:∀ad',(∀j v,(cells.take (min l.length dl*t.size))[j]?=some v→w.cell? (ad'.add j)=some v)→(AD i.size (min l.length dl) (.slice (some ad') l.length c0)).run P w=.ok (cells.take (min l.length dl*t.size)).toArray w:=by
   intro ad' hc;have:=run_loadCells_list (P:=P) w ad' (cells.take (min l.length dl*t.size)) hc;simp only[AD,hsz];rw[hnl] at this;exact this
  rcases h4 with h4|⟨a',rfl,hrow⟩
  ·have h0:cells=[]:=List.eq_nil_of_length_eq_zero (by rw[h3,h4];simp);subst h0;cases ad with
   |none=>simp[AD]
   |some ad'=>exact hload ad' (by simp)
  ·refine hload a' fun j v hj=>?_
   refine Row.cell hrow j v ?_;rw[List.getElem?_take] at hj;split at hj
   ·exact hj
   ·simp at hj
 obtain⟨w',q1,r2,r3,r4,q5,r5⟩:=a2h (P:=P) (cells.take (min l.length dl*t.size)) 0 w ⟨b,off,none⟩ c rfl hblk (by simp only;rw[hnl];exact hfit) (fun v hv=>hone v (List.mem_of_mem_take hv));have r1:(AP #[T,T2] ty #[.slice (some ⟨b,off,none⟩) dl dc,.slice ad l.length c0]).run P w=.ok (goInt (min l.length dl:Nat)) w':=by
  have hlen:(Bq (.slice ad l.length c0)).run P w=.ok l.length w:=by simp[Bq]
  have hmin:Nat.min l.length dl=min l.length dl:=rfl;simp[AP,An ht,sizeOf,typeInfo,hi,hlen,hmin,hfc,q1]
 refine⟨w',_,r1,r2,r3,r4,r5,hnl,fun j hj=>?_⟩;have hj':j<min l.length dl:=by rw[A7] at hj;omega
 rw[Cq,b0k (by rw[←AC];exact Ai _ hj')];exact h5 j (by omega)
theorem d2z{T T2 ty el:TypeId}{i:TypeInfo}(ht:P.underlying T=some (.slice el))(hi:P.info? el=some i){dc m:Nat}{t:Ty}{l:List t.den}{v:Value}(hlm:l.length=m)(hv:SrcV A P Z w.heap false v t l)(ad:Option Addr) :
  (AP #[T,T2] ty #[.slice ad 0 dc,v]).run P w=.ok (goInt 0) w:=by
 rcases hv with⟨ad',n,c0,cells,rfl,rfl,h2,h3,h4,h5⟩|⟨h,_⟩
 ·cases ad <;> cases ad' <;> simp[AP,An ht,sizeOf,typeInfo,hi,Bq,AD,loadCells,loadCellsFrom,storeCells]
 ·simp at h
theorem e2t(htab:a3c P C)(hrel:Rel A P C B e a w Z F [])(hs:Sub r e)(hd:∀d,o.dst=some d→a4f C B d){c:Call}{ty:Nat}
  (hop:o.op=.call c) (hc:c.callee=.builtin .copy) {k:List Up→Option R} {res:R} (hk:sem C (.call c) ty o.dst r k=some res) :
  ∃us,k us=some res∧Snd A P C B e a w us o:=by
 simp only[sem,hc] at hk;split at hk
 rotate_left
 ·simp at hk
 rename_i x y T T2 hargs' hats';have hargs:c.args=#[x,y]:=by rw[←By (xs:=c.args),hargs']
 have hats:c.argTypes=#[T,T2]:=by rw[←By (xs:=c.argTypes),hats']
 unfold f1t at hk;split at hk
 rotate_left
 ·simp at hk
 rename_i m0 e0 te0 hT;obtain⟨p,e1,te,l,lo,hi,hk,hix,hre,t0,x0,cs,base,fp',fr,fs,o1,cs0,a0,n,cap,h1,g1,g2,g3,l1,l2,g6,g7,g8,s2,hn,s7⟩:=d9n hrel hs hk;split at hk
 rotate_left
 ·simp at hk
 rename_i hcond;simp only[Af,decide_eq_true_eq] at hcond;obtain⟨⟨c1,c2⟩,c3⟩:=hcond;obtain⟨m,hk,hsrc⟩:=c4j hrel hs hk;split at hk
 rotate_left
 ·simp at hk
 rename_i hb;obtain⟨b1,b2,b3⟩:=hb;rw[d3m (by rw[hre];exact h1)] at hk;rw[hre] at hk;obtain⟨el,ii,q1,q2,q3,q4,q5,q6,q7,q8,q9⟩:=a9v htab hT;have hsz:ii.size=te.size:=by rw[q9,a3x c2]
 obtain⟨L,hL⟩:∃L:Nat,lo=(L:Int):=⟨lo.toNat,(B4 b1).symm⟩
 obtain⟨H,hH⟩:∃H:Nat,hi=(H:Int):=⟨hi.toNat,(B4 (by omega)).symm⟩
 subst hL hH;simp only[Ah] at hk s7;have hLH:L≤H:=by omega
 have hHn:H≤l.length:=by omega
 have hroom:m.length≤room:=by
  rcases hsrc with⟨_,_,_,_,_,h,h',_⟩|⟨h,_⟩
  ·omega
  ·simp at h
 have hfin:∀{w':World} {q:Nat},(AP #[T,T2] o.type #[a.eval x,a.eval y]).run P w=.ok (goInt q) w'→(execOp a.eval o).run P w=.ok (.value (.int .i64 q)) w':=by
  intro w' q r1;simp only[execOp,hop,resolve,hc,hargs,hats,AK,BJ,AI,invoke,builtin];simp[r1,goInt]
 have hown:∀(q:Nat),q≤room→∀h,Own A P Z h (.val (.int .i64) ((q:Nat):Int)) (.int .i64 q) []:=fun q hq h=>⟨_,a1c rfl rfl (by simp),rfl,rfl,by show(Aa).min≤_;have:(Aa).min=-9223372036854775808:=rfl;omega,by show _≤(Aa).max;have:(Aa).max=9223372036854775807:=rfl;unfold room at hq;omega⟩
 by_cases hLH0:H=L
 ·subst hLH0;simp only[Ej,Nat.zero_min,List.take_zero,B5,Nat.add_zero,List.take_append_drop] at hk s7;exact d2s (s:=.val (.int .i64) ((0:Nat):Int)) (w':=w) hrel hd hix h1 g1 g2 g3 l1 l2 (fun k=>g6 k) g7 g8 (hfin (q:=0) (by rw[s7];exact d2z q1 q3 rfl hsrc _)) rfl rfl rfl rfl (fun _ _=>rfl) g8 (hown 0 (Nat.zero_le _)) trivial hk
 ·have g8s:=g8;rw[s2] at g8s;have g8t:=g8s;obtain⟨a1,n1,cap1,hcs,n2,n3,n4,n5,n6⟩:=g8t;simp only[AG,AR,and_true] at hcs;obtain⟨rfl,rfl,rfl⟩:=hcs;have hb:∃b cc',a0=some ⟨b,0,none⟩∧Blk w.heap b cc'∧cc'.size=cap*te.size∧b∈fs:=by
   rcases n6 with⟨_,h0,_⟩|⟨b,cc',fps,h0,v1,v2,v3,_,_⟩
   ·rw[h0] at hHn;simp at hHn;omega
   ·exact⟨b,cc',h0,v1.blk,v2,by rw[v3];simp⟩
  obtain⟨b,cc',rfl,v1,v2,hbfs⟩:=hb;have hcapL:¬cap=L:=by omega
  have hadd:(some (⟨b,0,none⟩:Addr)).map (·.add (L*te.size))=some ⟨b,L*te.size,none⟩:=by
   simp only[Ca];rw[a8j (ad:=⟨b,0,none⟩) rfl];simp
  have hfit:L*te.size+min m.length (H - L)*te.size≤cc'.size:=by
   rw[←AA,v2];exact Ai _ (by omega)
  obtain⟨w',news,r1,r2,r3,r4,r6,r7,r8⟩:=e4c (A:=A) (P:=P) (Z:=Z) (w:=w) (T:=T) (T2:=T2) (ty:=o.type) (dl:=H - L) (dc:=cap - L) (m:=m.length) q1 q3 hsz rfl v1 hfit hsrc;have hbZ:¬Z b:=hrel.notZ p.root b (by
   have hmem:b∈fp':=g7.mem_iff.2 (Al _ hbfs);rcases g3 with⟨_,h⟩|⟨_,_,h⟩ <;> rw[h] <;> simp[hmem])
  have htl:(m.take (H - L)).length=min (H - L) m.length:=A7;obtain⟨hfs,hrep⟩:=d6w (l:=l) (m:=m.take (H - L)) (L:=L) c1 g8s (by rw[htl];omega) v1 r6 (by rw[r7,htl,HY]) hbZ (fun j hj=>a0g (r8 j hj) (fun _ h=>h) fun b' hb'=>hb'.elim (fun hz=>r6.other fun h=>hbZ ((show b'=b from h) ▸ hz)) (by simp));rw[htl,←s2] at hrep;refine d2s (s:=.val (.int .i64) ((min (H - L) m.length:Nat):Int)) (w':=w') hrel hd hix h1 g1 g2 g3 l1 l2 (fun k=>g6 k) g7 g8 (hfin (q:=min (H - L) m.length) (by rw[s7,if_neg hcapL,hadd,HY];exact r1)) r2 r3 r4 r6.size (fun b' hb'=>r6.other fun h=>hb' (by rw[hfs,h];simp)) hrep (hown _ (by omega)) trivial hk
end Go.Rb

namespace Go.Rb
variable {A:Amb} {P:Program} {Z Z':Nat→Prop} {h h':Array Obj} {R:Type} {C:Ctx} {B:Base} {e:En} {a:Act} {w w':World} {F F0:Nat→List Nat} {X X0:List Nat} {r:Nat→Ent} {o:Oper}
def b9y(C:Ctx)(B:Base):Prop:=∀i v,B.fix i=some v→i∈C.prot
theorem b8t(hfix:b9y C B)(hok:d9p C o=true){d:Nat}(hdst:o.dst=some d):a4f C B d:=by
 unfold d9p at hok;rw[hdst] at hok;simp only[Af,B2,Cy,decide_eq_false_iff_not] at hok;refine⟨Nat.blt_eq.mp hok.1,?_⟩;cases hb:B.fix d with
 |none=>rfl
 |some v=>exact absurd (hfix d v hb) hok.2
theorem e8i(htab:a3c P C)(hft:FtOK A P C)(hrel:Rel A P C B e a w Z F [])(hs:Sub r e)(hfix:b9y C B)(hok:d9p C o=true)(hrd:∀d,o.dst=some d→r d=e.get d)
  {k:List Up→Option R} {res:R} (hk:sem C o.op o.type o.dst r k=some res):∃us,k us=some res∧Snd A P C B e a w us o:=by
 cases hdst:o.dst with
 |none =>
  have hds:∀d,o.dst=some d→a4f C B d:=fun d hd=>by rw[hdst] at hd;cases hd
  unfold d9p at hok;rw[hdst] at hok;dsimp only at hok;split at hok
  ·rename_i t x y hop;rw[hop] at hk;exact d7p htab hft hrel hs hop hk
  ·rename_i c hop;rw[hop] at hk;split at hok
   ·rename_i hc;exact d7c htab hrel hs hds hop hc hk
   ·rename_i hc;exact e2t htab hrel hs hds hop hc hk
   ·cases hok
  ·cases hok
 |some d =>
  have hd:=b8t hfix hok hdst;have hds:∀d,o.dst=some d→a4f C B d:=fun d hdd=>b8t hfix hok hdd
  cases hop:o.op with
  |move x =>
   rw[hop] at hk;simp only[sem] at hk;exact e2m hrel hs hdst hd (hrd d hdst) (.inl hop) hk
  |assign x =>
   rw[hop] at hk;simp only[sem] at hk;exact e2m hrel hs hdst hd (hrd d hdst) (.inr hop) hk
  |pick c x y=>rw[hop] at hk;exact f4d hrel hs hdst hd hop hk
  |alloc t=>rw[hop] at hk;exact f0q htab hrel hdst hd hop hk
  |box t x=>rw[hop] at hk;exact f9j htab hft hrel hs hdst hd hop hk
  |build t ps=>rw[hop] at hk;exact e9w htab hrel hs hdst hd hop hk
  |buildSlice t n ps=>rw[hop] at hk;exact d0d htab hft hrel hs hdst hd hop hk
  |load t x=>rw[hop] at hk;exact f4a htab hrel hs hdst hd hop hk
  |store t x y=>rw[hop] at hk;exact d7p htab hft hrel hs hop hk
  |nilCheck x=>rw[hop] at hk;exact d7w hrel hs hdst hd hop hk
  |binOp op T x y yt=>rw[hop] at hk;exact f0s htab hrel hs hdst hd hop hk
  |unOp op T x=>rw[hop] at hk;exact f3b hrel hs hdst hd hop hk
  |convert s t x=>rw[hop] at hk;exact e0v htab hrel hs hdst hd hop hk
  |makeInterface t x=>rw[hop] at hk;exact c3j htab hrel hs hdst hd hop hk
  |makeFunc f x y=>rw[hop] at hk;exact d8i hft hrel hs hdst hd hop hk
  |makeSlice t x y=>rw[hop] at hk;exact d3b htab hrel hs hdst hd hop hk
  |slice t x lo hi mx =>
   cases mx with
   |none=>rw[hop] at hk;exact e9x htab hrel hs hdst hd hop hk
   |some m=>rw[hop] at hk;simp[sem] at hk
  |fieldAddr t x f=>rw[hop] at hk;exact d2x htab hrel hs hdst hd hop hk
  |field t x f=>rw[hop] at hk;exact f0a htab hrel hs hdst hd hop hk
  |indexAddr t x i=>rw[hop] at hk;exact d4p htab hrel hs hdst hd hop hk
  |index t x i=>rw[hop] at hk;exact f1q htab hrel hs hdst hd hop hk
  |extract x i=>rw[hop] at hk;exact e0s hrel hs hdst hd hop hk
  |lookup T m x co=>rw[hop] at hk;exact e4p htab hrel hs hdst hd hop hk
  |call c =>
   cases hc:c.callee with
   |value f =>
    by_cases hf:∃g,f=.func g
    ·obtain⟨g,rfl⟩:=hf;rw[hop] at hk;simp only[sem,hc] at hk;exact d8j hft hrel hs hds hop hc rfl hk
    ·rw[hop] at hk;simp only[sem,hc] at hk;cases f with
     |func g=>exact absurd ⟨g,rfl⟩ hf
     |const v =>
      obtain⟨t,g,org,hk,hv⟩:=a0v hrel hs hk;exact d5s hft hrel hs hds hop hc hv hk
     |tmp i =>
      obtain⟨t,g,org,hk,hv⟩:=a0v hrel hs hk;exact d5s hft hrel hs hds hop hc hv hk
     |_=>simp[view] at hk
   |invoke x m=>rw[hop] at hk;simp[sem,hc] at hk
   |builtin b =>
    cases b with
    |len=>rw[hop] at hk;exact f7b htab hrel hs hdst hd hop hc hk
    |append=>rw[hop] at hk;exact e6x htab hrel hs hdst hd hop hc hk
    |copy=>rw[hop] at hk;exact e2t htab hrel hs hds hop hc hk
    |clear=>rw[hop] at hk;exact d7c htab hrel hs hds hop hc hk
    |max=>rw[hop] at hk;simp only[sem,hc] at hk;exact d1n (mx:=true) hrel hs hdst hd hop hc hk
    |min=>rw[hop] at hk;simp only[sem,hc] at hk;exact d1n (mx:=false) hrel hs hdst hd hop hc hk
    |_=>rw[hop] at hk;simp[sem,hc] at hk
  |_=>rw[hop] at hk;simp[sem] at hk
end Go.Rb

namespace Go.Rb
variable {A:Amb} {P:Program} {Z Z':Nat→Prop} {h h':Array Obj} {R:Type} {C:Ctx} {B:Base} {e:En} {a:Act} {w w':World} {F F0:Nat→List Nat} {X X0:List Nat} {r:Nat→Ent} {o:Oper}
theorem b5c{l:List Nat×List Nat}{i:Nat}(hi:i∈l.1):e.look l i=e.get i:=by
 unfold En.look;simp[hi]
theorem c9t{l:List Nat×List Nat}{i:Nat}(hn:i∉l.1)(hi:2*i∈l.2):e.look l i=(e.get i).mask:=by
 unfold En.look;simp[hi,hn]
theorem c3y{l:List Nat×List Nat}{i:Nat}(hn:i∉l.1)(h2:2*i∉l.2)(hi:2*i+1∈l.2):e.look l i=(e.get i).maskC:=by
 unfold En.look;simp[hi,hn,h2]
theorem d3z{l:List Nat×List Nat}{i:Nat}(hn:i∉l.1)(hi:2*i∉l.2)(hc:2*i+1∉l.2):e.look l i=⟨0,0,.none⟩:=by
 unfold En.look;simp[hi,hn,hc]
theorem f2t{l:List Nat×List Nat}(hl:l.2=[]):Sub (e.look l) e:=by
 intro i hi;by_cases h1:i∈l.1
 ·exact b5c h1
 ·rw[d3z h1 (by rw[hl];simp) (by rw[hl];simp)] at hi;exact absurd rfl hi
theorem Sub.refl:Sub e.get e:=fun _ _=>rfl
theorem d6f{op:Op}{dst:Option Nat}{d:Nat}(hd:dst=some d):d∈(a1n C e op dst).1:=by
 subst hd;unfold a1n
 repeat' split
 all_goals simp
theorem e8a{op:Op}{dst:Option Nat}(h1:∀i,op≠.move (.tmp i))(h2:∀i,op≠.nilCheck (.tmp i))(h3:∀t i f,op≠.fieldAddr t (.tmp i) f)(h4:∀t i,op=.load t (.tmp i)→alB C dst=false):(a1n C e op dst).2=[]:=by
 unfold a1n;split
 ·rw[h4 _ _ rfl];dsimp only;split <;> rfl
 ·exact absurd rfl (h1 _)
 ·exact absurd rfl (h2 _)
 ·exact absurd rfl (h3 _ _ _)
 ·rfl
theorem d0i{K:Option R}:∀{t:Ty} {t':Ty} {x:t.den} {y:t'.den} {f:Nat},t.imm=t'.imm→comp t x f (fun _ _=>K)=comp t' y f (fun _ _=>K):=by
 intro t
 induction t with
 |pair a b iha ihb =>
  intro t' x y f hi;cases t' <;> simp only[Ty.imm,reduceCtorEq] at hi;simp only[Ty.pair.injEq] at hi;cases f with
  |zero=>rfl
  |succ f=>exact ihb hi.2
 |_ =>
  intro t' x y f hi;cases t' <;> simp only[Ty.imm,reduceCtorEq] at hi <;> rfl
theorem e9a{t t':Ty}{s:Nat}(hi:t.imm=t'.imm):lay C s t=lay C s t':=by
 unfold lay;rw[hi,←c3o t,←c3o t',←a1e t,←a1e t',hi]
def faK(C:Ctx)(s f:Nat)(K:Option R)(t:Ty)(x:t.den):Option R :=
 match lay C s t with
 |true=>match t,x with
  |.st t,x=>comp t x f fun _ _=>K
  |_,_=>none
 |false=>none
theorem f2h{s f:Nat}{K:Option R}{t t':Ty}{x:t.den}{y:t'.den}(hi:t.imm=t'.imm):faK C s f K t x=faK C s f K t' y:=by
 unfold faK;rw[e9a hi];cases lay C s t' with
 |false=>rfl
 |true =>
  cases t <;> cases t' <;> simp only[Ty.imm,reduceCtorEq] at hi <;> try rfl
  simp only[Ty.st.injEq] at hi;exact d0i hi
theorem e7t:∀{t:Ty} {i o:Nat} {t0:Ty},a1h t i=some (o,t0)→∀x:t.den,∃x0:t0.den,∀{R:Type} (k:(t':Ty)→t'.den→Option R),comp t x i k=k t0 x0:=by
 intro t
 induction t with
 |pair a b iha ihb =>
  intro i o t0 hc x;cases i with
  |zero=>simp only[a1h,Ad,Aj] at hc;obtain⟨rfl,rfl⟩:=hc;exact⟨x.1,fun k=>rfl⟩
  |succ i =>
   simp only[a1h] at hc;split at hc <;> simp only[Ad,Aj,reduceCtorEq] at hc;rename_i h1;obtain⟨rfl,rfl⟩:=hc;obtain⟨x0,h2⟩:=ihb h1 x.2;exact⟨x0,fun k=>h2 k⟩
 |_=>intro i o t0 hc;simp[a1h] at hc
theorem b0o:∀{p:List Stp} {t:Ty} {o:Nat} {t0:Ty},a1w p t=some (o,t0)→∀x:t.den,∃x0:t0.den,∀{R:Type} (k:(t':Ty)→t'.den→Option R),b2z p t x k=k t0 x0
 |[],t,o,t0,hc,x=>by
  simp only[a1w,Ad,Aj] at hc;obtain⟨rfl,rfl⟩:=hc;exact⟨x,fun k=>rfl⟩
 |.f i::p,t,o,t0,hc,x=>by
  cases t with
  |st t =>
   simp only[a1w] at hc;split at hc
   ·rename_i h1;split at hc <;> simp only[Ad,Aj,reduceCtorEq] at hc;rename_i h2;obtain⟨rfl,rfl⟩:=hc;obtain⟨x1,g1⟩:=e7t h1 x;obtain⟨x2,g2⟩:=b0o h2 x1;exact⟨x2,fun k=>by simp only[b2z];rw[g1,g2]⟩
   ·simp at hc
  |_=>simp[a1w] at hc
 |.a j::p,t,o,t0,hc,x=>by
  cases t with
  |arr n t =>
   simp only[a1w] at hc;split at hc
   ·split at hc <;> simp only[Ad,Aj,reduceCtorEq] at hc;rename_i h2;obtain⟨rfl,rfl⟩:=hc;obtain⟨x2,g2⟩:=b0o h2 (x.getD j.toNat t.dflt);exact⟨x2,fun k=>by simp only[b2z];exact g2 k⟩
   ·simp at hc
  |_=>simp[a1w] at hc
theorem e2b(hrel:Rel A P C B e a w Z F X){i:Nat}{p:Pl}{v c:Nat}(hi:(e.get i).s=.ptr p v c)(hix:p.ix=none)(hv:(e.get p.root).v=v) :
  ∃t o t0,(e.get p.root).s.rootTy=some t∧a1w p.p1 t=some (o,t0):=by
 have href:=hrel.ref i;rw[hi] at href;obtain⟨t,cs,base,h1,_,h3⟩:=href.2.2 hv fun hx=>by rw[hix] at hx;simp at hx
 rcases h3 with⟨t0,cs0,ad,h4,_⟩|⟨h4,_⟩
 ·unfold Loc at h4;rw[hix] at h4;obtain⟨o,h5,_⟩:=h4;exact⟨t,o,t0,h1,h5⟩
 ·rw[hix] at h4;simp at h4
theorem g1c{x:Ent}(hs:x.mask.s≠.none):x.mask.v=x.v:=by
 unfold Ent.mask at *;split
 ·rfl
 ·split <;> rfl
 ·rename_i h1 h2;exfalso;apply hs;split
  ·exact absurd ‹_› (h1 _ _)
  ·exact absurd ‹_› (h2 _ _)
  ·rfl
theorem b4m{x:Ent}{t:Ty}{y:t.den}(hs:x.s=.box t y):x.mask=⟨x.v,0,.box t.imm t.imm.dflt⟩:=by
 unfold Ent.mask;rw[hs]
theorem b8x{x:Ent}{t:Ty}{y:t.den}(hs:x.s=.val t y)(hp:t.pure=false):x.mask=⟨x.v,x.c,.val (.sl .hole 0 .unit) ([]:List Unit)⟩:=by
 unfold Ent.mask;rw[hs];dsimp only;rw[hp]
theorem c7c{x:Ent}{t:Ty}{y:t.den}(hs:x.s=.val t y)(hp:t.pure=true):x.mask=x:=by
 unfold Ent.mask;rw[hs];dsimp only;rw[hp]
theorem c3f{l:List Nat×List Nat}{i:Nat}(hi:2*i∈l.2):e.look l i=e.get i∨e.look l i=(e.get i).mask:=by
 by_cases h1:i∈l.1
 ·exact .inl (b5c h1)
 ·exact .inr (c9t h1 hi)
theorem d9d(hrel:Rel A P C B e a w Z F X){i:Nat}{p:Pl}{v c:Nat}(hi:(e.get i).s=.ptr p v c)(hix:p.ix=none){r:Nat→Ent}(hri:r i=e.get i)(hrr:r p.root=e.get p.root∨r p.root=(e.get p.root).mask)
  {kp:(t:Ty)→t.den→Option R} {kl kl':Pl→Nat→Nat→(t:Ty)→t.den→Option R} {res:R} (hk:locK C r (.tmp i) kp kl=some res)
  (hst:∀c c' t x t' x',t.imm=t'.imm→kl p v c t x=some res→kl' p v c' t' x'=some res)
  (hho:∀c x,kl p v c (.sl .hole 0 .unit) x=some res→∀c' t' x',kl' p v c' t' x'=some res):locK C e.get (.tmp i) kp kl'=some res:=by
 have hidx:p.idx=false:=by unfold Pl.idx;rw[hix];rfl
 unfold locK at hk ⊢;dsimp only at hk ⊢;rw[hri] at hk;simp only[hi,hidx,FI,FY,FS] at hk ⊢;split at hk
 ·rename_i hvv;have hvv:=a1p hvv;have hne:(r p.root).s≠.none:=by intro hn;rw[hn] at hk;simp at hk
  have hve:(e.get p.root).v=v:=by
   rcases hrr with h1|h1
   ·rw[←h1];exact hvv
   ·rw[h1] at hne hvv;rw[←g1c hne];exact hvv
  have hvb:AB (e.get p.root).v v=true:=by rw[hve];simp
  rw[hvb];dsimp only;obtain⟨t,o,t0,g1,g2⟩:=e2b hrel hi hix hve;have hgoal:∀(x:t.den),a3m p t x (fun t' x'=>kl' p v (e.get p.root).c t' x')=some res:=by
   intro x;obtain⟨x0,g3⟩:=b0o g2 x;unfold a3m;rw[g3];simp only[hix];rcases hrr with h1|h1
   ·rw[h1] at hk;cases hs:(e.get p.root).s with
    |val tt xx =>
     rw[hs] at hk g1;obtain rfl:=Ag g1;dsimp only at hk;obtain⟨x1,g4⟩:=b0o g2 xx;unfold a3m at hk;rw[g4] at hk;simp only[hix] at hk;exact hst _ _ _ _ _ _ rfl hk
    |box tt xx =>
     rw[hs] at hk g1;obtain rfl:=Ag g1;dsimp only at hk;obtain⟨x1,g4⟩:=b0o g2 xx;unfold a3m at hk;rw[g4] at hk;simp only[hix] at hk;exact hst _ _ _ _ _ _ rfl hk
    |_=>rw[hs] at hk;simp at hk
   ·rw[h1] at hk;cases hs:(e.get p.root).s with
    |val tt xx =>
     cases htp:tt.pure with
     |true =>
      rw[c7c hs htp] at hk;rw[hs] at hk g1;obtain rfl:=Ag g1;dsimp only at hk;obtain⟨x1,g4⟩:=b0o g2 xx;unfold a3m at hk;rw[g4] at hk;simp only[hix] at hk;exact hst _ _ _ _ _ _ rfl hk
     |false =>
     rw[b8x hs htp] at hk;dsimp only at hk;unfold a3m at hk;cases hp:p.p1 with
     |nil =>
      rw[hp] at hk;simp only[b2z,hix] at hk;exact hho _ _ hk _ _ _
     |cons st p1=>rw[hp] at hk;cases st <;> simp[b2z] at hk
    |box tt xx =>
     rw[b4m hs] at hk;rw[hs] at g1;obtain rfl:=Ag g1;dsimp only at hk;obtain⟨t0',g5,g6⟩:=b7u (t':=tt.imm) (c1d tt).symm g2;obtain⟨x1,g4⟩:=b0o g5 tt.imm.dflt;unfold a3m at hk;rw[g4] at hk;simp only[hix] at hk;exact hst _ _ _ _ _ _ g6 hk
    |_=>rw[show(e.get p.root).mask=⟨0,0,.none⟩ from by unfold Ent.mask;rw[hs]] at hk;simp at hk
  cases hs:(e.get p.root).s with
  |val tt xx=>rw[hs] at g1;obtain rfl:=Ag g1;exact hgoal xx
  |box tt xx=>rw[hs] at g1;obtain rfl:=Ag g1;exact hgoal xx
  |_=>rw[hs] at g1;simp[SV.rootTy] at g1
 ·simp at hk
theorem f4v{l:List Nat×List Nat}{i:Nat}(hi:2*i+1∈l.2)(hn:2*i∉l.2):e.look l i=e.get i∨e.look l i=(e.get i).maskC:=by
 by_cases h1:i∈l.1
 ·exact .inl (b5c h1)
 ·exact .inr (c3y h1 hn hi)
theorem c8g{x:Ent}{t:Ty}{y:t.den}(hs:x.s=.box t y):x.maskC=⟨x.v,x.c,.box t.imm t.imm.dflt⟩:=by
 unfold Ent.maskC;rw[hs]
theorem e4h(hrel:Rel A P C B e a w Z F X){i:Nat}{p:Pl}{v c:Nat}(hi:(e.get i).s=.ptr p v c)(hix:p.ix=none){r:Nat→Ent}(hri:r i=e.get i)(hrr:r p.root=e.get p.root∨r p.root=(e.get p.root).maskC)
  {kp:(t:Ty)→t.den→Option R} {kl:Pl→Nat→Nat→(t:Ty)→t.den→Option R} {res:R} (hk:locK C r (.tmp i) kp kl=some res)
  (hst:∀c t x t' x',t.imm=t'.imm→kl p v c t x=some res→kl p v c t' x'=some res):locK C e.get (.tmp i) kp kl=some res:=by
 have hidx:p.idx=false:=by unfold Pl.idx;rw[hix];rfl
 rcases hrr with hrr|hrr
 ·unfold locK at hk ⊢;dsimp only at hk ⊢;rw[hri] at hk;simp only[hi,hrr] at hk ⊢;exact hk
 ·unfold locK at hk ⊢;dsimp only at hk ⊢;rw[hri] at hk;simp only[hi,hidx,FI,FY,FS] at hk ⊢;rw[hrr] at hk;cases hs:(e.get p.root).s with
  |box tt xx =>
   rw[c8g hs] at hk;dsimp only at hk;split at hk
   ·rename_i hvv
    try rw[hvv]
    dsimp only;obtain⟨t,o,t0,g1,g2⟩:=e2b hrel hi hix (a1p hvv);rw[hs] at g1;obtain rfl:=Ag g1;obtain⟨t0',g5,g6⟩:=b7u (t':=tt.imm) (c1d tt).symm g2;obtain⟨x1,g4⟩:=b0o g5 tt.imm.dflt;obtain⟨x2,g7⟩:=b0o g2 xx;unfold a3m at hk ⊢;rw[g4] at hk;rw[g7];simp only[hix] at hk ⊢;exact hst _ _ _ _ _ g6 hk
   ·simp at hk
  |_ =>
   rw[show(e.get p.root).maskC=⟨0,0,.none⟩ from by unfold Ent.maskC;rw[hs]] at hk;dsimp only at hk;split at hk <;> simp at hk
theorem g0y(hrel:Rel A P C B e a w Z F X){op:Op}{ty:Nat}{dst:Option Nat}{k:List Up→Option R}{res:R}(hk:sem C op ty dst (e.look (a1n C e op dst)) k=some res) :
  ∃r,Sub r e∧(∀d,dst=some d→r d=e.get d)∧sem C op ty dst r k=some res:=by
 have hdef:(a1n C e op dst).2=[]→∃r,Sub r e∧(∀d,dst=some d→r d=e.get d)∧sem C op ty dst r k=some res :=
  fun h2=>⟨_,f2t h2,fun d hd=>b5c (d6f hd),hk⟩
 by_cases h1:∃i,op=.move (.tmp i)
 ·obtain⟨i,rfl⟩:=h1;cases hs:(e.get i).s with
  |box t y =>
   refine⟨e.get,Sub.refl,fun _ _=>rfl,?_⟩;simp only[sem,sem.moveK] at hk ⊢;have hor:e.look (a1n C e (.move (.tmp i)) dst) i=e.get i∨e.look (a1n C e (.move (.tmp i)) dst) i=(e.get i).mask:=c3f (by simp[a1n,hs]);rcases hor with h2|h2
   ·rw[h2,hs] at hk;rw[hs];exact hk
   ·rw[h2,b4m hs] at hk;rw[hs];exact hk
  |val t y =>
   cases hp:t.pure with
   |true=>exact hdef (by simp[a1n,hs,hp])
   |false =>
    refine⟨e.get,Sub.refl,fun _ _=>rfl,?_⟩;simp only[sem,sem.moveK] at hk ⊢;have hor:e.look (a1n C e (.move (.tmp i)) dst) i=e.get i∨e.look (a1n C e (.move (.tmp i)) dst) i=(e.get i).mask:=c3f (by simp[a1n,hs,hp]);rcases hor with h2|h2
    ·rw[h2,hs] at hk;rw[hs];dsimp only at hk ⊢;rw[hp] at hk ⊢;exact hk
    ·rw[h2,b8x hs hp] at hk;rw[hs];dsimp only at hk ⊢;rw[hp];exact hk
  |_=>exact hdef (by simp[a1n,hs])
 by_cases h2:∃i,op=.nilCheck (.tmp i)
 ·obtain⟨i,rfl⟩:=h2;cases hs:(e.get i).s with
  |box t y =>
   refine⟨e.get,Sub.refl,fun _ _=>rfl,?_⟩;simp only[sem] at hk ⊢;have hor:e.look (a1n C e (.nilCheck (.tmp i)) dst) i=e.get i∨e.look (a1n C e (.nilCheck (.tmp i)) dst) i=(e.get i).mask:=c3f (by simp[a1n,hs]);rcases hor with h2|h2
   ·rw[h2,hs] at hk;rw[hs];exact hk
   ·rw[h2,b4m hs] at hk;rw[hs];exact hk
  |ptr p v c =>
   cases hix:p.ix with
   |some jq=>exact hdef (by simp[a1n,hs,hix])
   |none =>
    refine⟨e.get,Sub.refl,fun _ _=>rfl,?_⟩;have hl:a1n C e (.nilCheck (.tmp i)) dst=(i::dst.toList,[2*p.root]):=by simp[a1n,hs,hix]
    have hi:e.look (a1n C e (.nilCheck (.tmp i)) dst) i=e.get i:=b5c (by rw[hl];simp);simp only[sem] at hk ⊢;rw[hi] at hk;rw[hs] at hk ⊢;dsimp only at hk ⊢;exact d9d hrel hs hix hi (c3f (by rw[hl];simp)) hk (fun _ _ _ _ _ _ _ h=>h) fun _ _ h _ _ _=>h
  |_=>exact hdef (by simp[a1n,hs])
 by_cases h3:∃t i f,op=.fieldAddr t (.tmp i) f
 ·obtain⟨s,i,f,rfl⟩:=h3;cases hs:(e.get i).s with
  |box t y =>
   refine⟨e.get,Sub.refl,fun _ _=>rfl,?_⟩;simp only[sem,locK] at hk ⊢;have hor:e.look (a1n C e (.fieldAddr s (.tmp i) f) dst) i=e.get i∨e.look (a1n C e (.fieldAddr s (.tmp i) f) dst) i=(e.get i).mask:=c3f (by simp[a1n,hs]);rcases hor with h2|h2
   ·rw[h2,hs] at hk;rw[hs];exact hk
   ·rw[h2,b4m hs] at hk;rw[hs];exact(f2h (C:=C) (s:=s) (f:=f) (K:=fin dst (d5v ((⟨i,[],none⟩:Pl).step (.f f)) (e.get i).v 0) [] k) (t:=t.imm) (t':=t) (x:=t.imm.dflt) (y:=y) (c1d t)).symm.trans hk
  |ptr p v c =>
   cases hix:p.ix with
   |some jq=>exact hdef (by simp[a1n,hs,hix])
   |none =>
    refine⟨e.get,Sub.refl,fun _ _=>rfl,?_⟩;have hl:a1n C e (.fieldAddr s (.tmp i) f) dst=(i::dst.toList,[2*p.root]):=by simp[a1n,hs,hix]
    have hi:e.look (a1n C e (.fieldAddr s (.tmp i) f) dst) i=e.get i:=b5c (by rw[hl];simp);simp only[sem] at hk ⊢;have hpt:∀c c',d5v (p.step (.f f)) v c=d5v (p.step (.f f)) v c':=by
     intro c c';unfold d5v Pl.step;rw[hix]
    refine d9d hrel hs hix hi (c3f (by rw[hl];simp)) hk (fun c c' t x t' x' him h=>?_) fun c x h=>?_
    ·rw[hpt c' c];exact(f2h (C:=C) (s:=s) (f:=f) (K:=fin dst (d5v (p.step (.f f)) v c) [] k) him).symm.trans h
    ·dsimp only at h;split at h <;> simp at h
  |_=>exact hdef (by simp[a1n,hs])
 by_cases h4:∃t i,op=.load t (.tmp i)∧alB C dst=true
 ·obtain⟨t,i,rfl,hal⟩:=h4;cases hs:(e.get i).s with
  |ptr p v c =>
   cases hix:p.ix with
   |some jq=>exact hdef (by simp[a1n,hs,hix,hal])
   |none =>
    refine⟨e.get,Sub.refl,fun _ _=>rfl,?_⟩;have hl:a1n C e (.load t (.tmp i)) dst=(i::dst.toList,[2*p.root+1]):=by simp[a1n,hs,hix,hal]
    have hi:e.look (a1n C e (.load t (.tmp i)) dst) i=e.get i:=b5c (by rw[hl];simp);simp only[sem,hal,if_true] at hk ⊢;exact e4h hrel hs hix hi (f4v (by rw[hl];simp) (by rw[hl];simp <;> omega)) hk fun c t x t' x' him h=>by
     simp only[hix] at h ⊢;rw[←e9a him];exact h
  |_=>exact hdef (by simp[a1n,hs,hal])
 ·refine hdef (e8a (fun i h=>h1 ⟨i,h⟩) (fun i h=>h2 ⟨i,h⟩) (fun t i f h=>h3 ⟨t,i,f,h⟩) fun t i h=>?_);cases hal:alB C dst with
  |false=>rfl
  |true=>exact absurd ⟨t,i,h,hal⟩ h4
end Go.Rb

namespace Go.Rb
variable {A:Amb} {P:Program} {Z Z':Nat→Prop} {h h':Array Obj} {R:Type} {C:Ctx} {B:Base} {e:En} {a:Act} {w w':World} {F F0:Nat→List Nat} {X X0:List Nat} {r:Nat→Ent} {o:Oper}
theorem c2c(hrel:Rel A P C B e a w Z F []){x:Operand}{b:Bool}(hb:a.eval x=.bool b):∃F',Rel A P C B (e.know x b) a w Z F' []:=by
 unfold En.know;split
 ·rename_i i;split
  ·rename_i y hi;have ho:=hrel.own i;rw[hi] at ho;obtain⟨cs,g1,g2⟩:=ho;have hF:F i=[]:=g2.1;refine⟨_,hrel.root (w':=w) (bp:=.slot) (f1:=[]) (X':=[]) rfl rfl rfl rfl (fun _ _ _=>rfl) (fun b=>id) (fun b=>.inl) ⟨rfl,hb⟩ (by simp) (by simp) (by simp) trivial fun j hj=>?_⟩;refine a9o (F:=F) hrel.own (hrel.ref j) (fun _ _ _ _ _ _=>rfl) fun p=>?_
   rw[a0j];by_cases hp:p=i
   ·subst hp;right;simp[Ent.bump]
   ·left;rw[if_neg (BM hp)];exact⟨rfl,rfl,fun _ _=>rfl⟩
  ·exact⟨F,hrel⟩
 ·exact⟨F,hrel⟩
theorem f7q(hrel:Rel A P C B e a w Z F []){dst:Option Nat}(hd:∀d,dst=some d→a4f C B d):∃F',Rel A P C B (e.app (d5c dst)) (a.put dst undef) w Z F' []:=by
 cases dst with
 |none=>exact⟨F,hrel⟩
 |some d =>
  exact⟨setF F d [],hrel.dst (hd d rfl) (Y:=[]) (X':=[]) (by simp) (Ar _) rfl rfl rfl (fun _ _ _=>rfl) (fun b=>id) (fun b=>.inl) hrel.zb ⟨rfl,rfl⟩ (by simp) (by simp) (by simp) trivial⟩
def d1q(A:Amb)(P:Program)(C:Ctx)(B:Base)(ops:Array Oper)(o:Oper)(a:Act)(w:World)(e':En):Prop :=
 ∀(next:Act→World→Prop) (Q:Exit→Act→World→Prop),(∀a' w' Z' F',Rel A P C B e' a' w' Z' F' []→next a' w') →
  if Bs o (yielded ops a.tmps) then o.wp P a w next Q∨(o.asks P a w∧LetsOut Q) else next (a.put o.dst undef) w
theorem g0r{g:Nat}{v:Value}(hv:a.tm g=v)(hn:v≠undef):a.tmps[g]?=some v:=by
 unfold Act.tm at hv;rw[Bp] at hv;cases ht:a.tmps[g]? with
 |none=>rw[ht] at hv;exact absurd hv.symm hn
 |some u=>rw[ht] at hv;exact congrArg some hv
theorem d1d{ops:Array Oper}{j g:Nat}(hg:a6y ops.toList j=some g):(ops[j]?).bind (·.dst)=some g:=by
 unfold a6y at hg;rwa [BU] at hg
theorem b8i{ops:Array Oper}{j g:Nat}(hg:a6y ops.toList j=some g){b:Bool}(hb:a.tm g=.bool b):yielded ops a.tmps j=some b:=by
 unfold yielded;rw[d1d hg];simp only[Ab];rw[g0r hb (by simp[undef])]
theorem c7w{ops:Array Oper}{j g:Nat}(hg:a6y ops.toList j=some g)(hb:a.tm g=undef):yielded ops a.tmps j=none:=by
 unfold yielded;rw[d1d hg];simp only[Ab];cases ht:a.tmps[g]? with
 |none=>rfl
 |some u =>
  have:a.tm g=u:=by unfold Act.tm;rw[Bp,ht];rfl
  rw[hb] at this;subst this;rfl
theorem c6c(htab:a3c P C)(hft:FtOK A P C)(hfix:b9y C B)(hrel:Rel A P C B e a w Z F [])(hok:d9p C o=true){k:List Up→Option R}{res:R}
  (hk:sem C o.op o.type o.dst (e.look (a1n C e o.op o.dst)) k=some res):∃us,k us=some res∧Snd A P C B e a w us o:=by
 obtain⟨r,h1,h2,h3⟩:=g0y hrel hk;exact e8i htab hft hrel h1 hfix hok h2 h3
theorem b7o{ops:Array Oper}{us:List Up}(hw:Bs o (yielded ops a.tmps)=true)(hs:Snd A P C B e a w us o):d1q A P C B ops o a w (e.app us):=by
 intro next Q hn;rw[hw];exact .inl (hs next Q hn)
theorem b3r{ops:Array Oper}(hrel:Rel A P C B e a w Z F [])(hd:∀d,o.dst=some d→a4f C B d)(hw:Bs o (yielded ops a.tmps)=false):d1q A P C B ops o a w (e.app (d5c o.dst)):=by
 intro next Q hn;rw[hw];obtain⟨F',h1⟩:=f7q hrel hd;exact hn _ _ _ _ h1
theorem d9j(htab:a3c P C)(hft:FtOK A P C)(hfix:b9y C B)(hrel:Rel A P C B e a w Z F []){ops:Array Oper}{k:En→List Up→Option R}{res:R}
  (hk:e2c C (a6y ops.toList) o e k=some res):∃e' us,k e' us=some res∧d1q A P C B ops o a w (e'.app us):=by
 unfold e2c at hk;split at hk
 ·simp at hk
 ·rename_i hok;have hd:∀d,o.dst=some d→a4f C B d:=fun d hdd=>b8t hfix hok hdd
  split at hk
  ·rename_i hg;obtain⟨us,h1,h2⟩:=c6c htab hft hfix hrel hok hk;exact⟨e,us,h1,b7o (by unfold Bs;rw[hg]) h2⟩
  ·rename_i j want hg;have hwant:∀y,yielded ops a.tmps j=y→Bs o (yielded ops a.tmps)=(y==some want):=by
    intro y hy;unfold Bs;rw[hg,←hy]
   split at hk
   ·rename_i g hgs;split at hk
    ·rename_i hu;have ho:=hrel.own g;rw[hu] at ho;exact⟨e,_,hk,b3r hrel hd (by rw[hwant none (c7w hgs ho.2)];cases want <;> rfl)⟩
    ·rename_i b hkb;have ho:=hrel.own g;rw[hkb] at ho;have htm:a.tm g=.bool b:=ho.2;have hy:=hwant (some b) (b8i hgs htm);split at hk
     ·rename_i hb;obtain rfl:b=want:=by simpa using hb
      obtain⟨us,g1,g2⟩:=c6c htab hft hfix hrel hok hk;exact⟨_,us,g1,b7o (by rw[hy];simp) g2⟩
     ·rename_i hb;exact⟨_,_,hk,b3r hrel hd (by rw[hy];cases b <;> cases want <;> simp_all)⟩
    ·obtain⟨t,x,org,hk,hv⟩:=a0v hrel Sub.refl hk;split at hk
     ·rename_i b;obtain⟨cs,fp,h1,h2⟩:=a6d hrel hv;obtain⟨_,rfl⟩:=h2;have htm:a.tm g=.bool b:=a0n rfl h1;have hy:=hwant (some b) (b8i hgs htm);have hgo:∀{b'},b=b'→e2c.go C o k (e.know (.tmp g) b')=some res→want=b→∃e' us,k e' us=some res∧d1q A P C B ops o a w (e'.app us):=by
       intro b' hb hk hw;obtain⟨F',hr'⟩:=c2c hrel (x:=.tmp g) (b:=b') (by rw[←hb];exact htm);obtain⟨us,g1,g2⟩:=c6c htab hft hfix hr' hok hk;exact⟨_,us,g1,b7o (by rw[hy,hw];simp) g2⟩
      have hsk:∀{b'},b=b'→k (e.know (.tmp g) b') (d5c o.dst)=some res→want≠b→∃e' us,k e' us=some res∧d1q A P C B ops o a w (e'.app us):=by
       intro b' hb hk hw;obtain⟨F',hr'⟩:=c2c hrel (x:=.tmp g) (b:=b') (by rw[←hb];exact htm);exact⟨_,_,hk,b3r hr' hd (by rw[hy];cases b <;> cases want <;> simp_all)⟩
      split at hk
      ·split at hk
       ·rename_i hb;exact hgo hb hk (by rw[hb])
       ·rename_i hb;exact hsk (by simpa using hb) hk (by cases b <;> simp_all)
      ·split at hk
       ·rename_i hb;exact hsk hb hk (by cases b <;> simp_all)
       ·rename_i hb;exact hgo (by simpa using hb) hk (by cases b <;> simp_all)
     ·simp at hk
   ·simp at hk
theorem c5m(htab:a3c P C)(hft:FtOK A P C)(hfix:b9y C B){ops:Array Oper}{k:En→Option R}{res:R}{Q:Exit→Act→World→Prop}
  (hq:∀e a w Z F,k e=some res→Rel A P C B e a w Z F []→Q .normal a w):∀(os:List Oper) (i:Nat) (e:En) (a:Act) (w:World) (Z:Nat→Prop) (F:Nat→List Nat),
   ops.toList.drop i=os→Rel A P C B e a w Z F []→e2u C (a6y ops.toList) os e k=some res→wpOps P ops Q (List.range' i os.length) a w
 |[],i,e,a,w,Z,F,hos,hrel,hk=>hq e a w Z F hk hrel
 |o::os,i,e,a,w,Z,F,hos,hrel,hk=>by
  unfold e2u at hk;obtain⟨e',us,hk,hst⟩:=d9j htab hft hfix hrel hk;have hget:ops[i]?=some o:=by
   have h0:(ops.toList.drop i)[0]?=some o:=by rw[hos];rfl
   rw[List.getElem?_drop] at h0;rw[←BU];simpa using h0
  have hdr:ops.toList.drop (i+1)=os:=by
   rw[←List.drop_drop,hos];rfl
  rw[List.length_cons,List.range'_succ,wpOps_cons];unfold wpOp;rw[hget];exact hst _ Q fun a' w' Z' F' hr'=>c5m htab hft hfix hq os (i+1) _ a' w' Z' F' hdr hr' hk
end Go.Rb
