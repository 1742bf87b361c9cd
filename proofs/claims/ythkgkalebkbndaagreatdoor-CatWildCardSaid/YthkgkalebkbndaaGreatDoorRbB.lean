/- Rb: operations, part 1. Own work. -/
import Derived.Test.YthkgkalebkbndaaGreatDoorRbA
import Derived.Laws.Strings
import Derived.Laws.StructEq
import Derived.Laws.Small
import Derived.WideLaws
import Derived.Lib.ConvBytes
import Derived.Laws.BytesArg
import Derived.Laws.AppendOwn
import Derived.Great.BuildSlice
set_option autoImplicit false
set_option linter.unusedVariables false
set_option linter.unusedSimpArgs false
open Array renaming ext'->HX,getElem?_modify->BT,length_toList->AN,map->Ig,range->Cw,toArray_toList->By,toList_append->Dm,toList_map->BX
open Bool renaming and_eq_true->Af,false_eq_true->AJ,not_eq_true'->B2,or_eq_true->BR
open ByteArray renaming data_extract->Er
open Go renaming run_buildSlice->Io,run_eqGuard_agg->If,run_underlying->An
open Go.Addr renaming add->CO
open Go.Builtin renaming append_->A2,firstCells->AD,lenOf->Bq,len_->BV
open Go.ByteArray renaming toList_eq->Cp
open Go.Instr renaming buildSlice->D3,fieldAt->FC,fill->Da,index->E9,indexAt->CJ,loadAt->Dt,makeSlice->Fq,slice->ED,sliceAt->Ew,sliceBound->Fe,sliceBounds->ET,sureAddr->Ci
open Go.IntKind renaming bits->Bi,i64->Aa,min->FD,signed->AX,u8->A6,wrap->Bh
open Go.Lib renaming bytesCells->CF,bytesWorld->FR
open Go.Op renaming bytesLess->EC,eqFields->Im,equalIn->Fo,intCmp->FE,stringOp->C7
open Go.Oper renaming upon_value->C6,wp->Ch
open Go.Result renaming andThen_ok->AI
open Go.Result.ok renaming inj->DB
open Go.Sem renaming run_bind->AK,run_pure->BJ
open Go.Value renaming int->Cv
open Go.Value.slice renaming injEq->AR
open Go.World renaming freeze->E4
open Int renaming le_refl->Bu,le_total->HV,tmod_nonneg->Dl,toNat_of_nonneg->B4
open List renaming append_assoc->Ae,append_nil->A9,cons_append->Ef,eq_nil_of_length_eq_zero->Bm,ext_getElem->Eg,flatten_append->EK,foldlM->HW,getD->BC,getElem?_drop->Bg,getElem?_eq_getElem->Bb,getElem?_set_ne->C4,getElem?_take->AV,getElem_drop->D8,getElem_map->Eh,getElem_mem->A1,getElem_of_mem->Bf,getElem_replicate->E6,getElem_set_ne->CD,getElem_take->Cq,length->Cj,length_append->Ac,length_cons->Bd,length_drop->B8,length_map->Ce,length_take->A7,map_cons->Bc,map_drop->FQ,map_map->FX,mem_append->Aq,mem_append_left->Am,mem_append_right->Al,mem_cons->A3,mem_flatten->B6,nodup_append->Ak,nodup_cons->AO,nodup_nil->Ax,perm_append_comm->Aw,replicate->As,replicate_succ->EL,take_append_of_le_length->C3,take_of_length_le->Co,zipIdx_cons->Fp
open List.Perm renaming append_left->Ay,nil_eq->BP,refl->BO
open List.cons renaming injEq->AG
open Nat renaming add_assoc->Dr,add_mul->AA,add_zero->Ee,beq->AB,blt_eq->In,eq_of_beq_eq_true->AF,le_mul_of_pos_right->BB,le_of_eq->BH,le_refl->Ar,le_trans->AM,lt_of_lt_of_le->AU,min_eq_left->E1,mul_eq_zero->FF,mul_le_mul_right->Ai,mul_one->Dq,succ_mul->AC,zero_le->A8
open Ne renaming symm->BM
open Option renaming map_some->Ca
open Option.some renaming inj->Ag,injEq->Ad
open Prod.mk renaming injEq->Aj
namespace Go.Rb
variable {A:Amb} {P:Program} {Z Z':Nat→Prop} {h h':Array Obj} {R:Type} {C:Ctx} {B:Base} {e:En} {a:Act} {w w':World} {F:Nat→List Nat} {X:List Nat} {r:Nat→Ent} {o:Oper}
def Snd(A:Amb)(P:Program)(C:Ctx)(B:Base)(e:En)(a:Act)(w:World)(us:List Up)(o:Oper):Prop :=
 ∀(next:Act→World→Prop) (Q:Exit→Act→World→Prop),(∀a' w' Z' F',Rel A P C B (e.app us) a' w' Z' F' []→next a' w')→o.wp P a w next Q
theorem e8t(hrel:Rel A P C B e a w Z F X){d:Nat}(hd:a4f C B d){s s':SV}{v v':Value}(hr:Ref e a.tm w.heap s v)(hpk:∀l,s=.pts l→∀b n c,v=.slice (some ⟨b,0,none⟩) n c→w'.heap[b]?=w.heap[b]?)(hh:∀i b,b∈F i→w'.heap[b]?=w.heap[b]?) :
  Ref (e.app [⟨d,.slot,s'⟩]) (a.put (some d) v').tm w'.heap s v:=by
 refine a9o (F:=F) hrel.own hr hpk fun q=>?_
 have hdn:d<a.tmps.size:=AU hd.1 hrel.nt;rw[a0j,c5n hdn];by_cases hq:q=d
 ·subst hq;right;simp[Ent.bump]
 ·left;rw[if_neg (BM hq),if_neg hq];exact⟨rfl,rfl,hh q⟩
theorem a0c{d:Nat}{dst:Option Nat}{s:SV}{us:List Up}{k:List Up→Option R}{res:R}(hd:dst=some d)(hk:fin dst s us k=some res):k (us++[⟨d,.slot,s⟩])=some res:=by
 subst hd;exact hk
theorem b5p{us:List Up}(hrel:Rel A P C B (e.app us) a w Z F X){d:Nat}(hdst:o.dst=some d)(hd:a4f C B d){s:SV}{v:Value}{fp:List Nat}
  (hrun:(execOp a.eval o).run P w=.ok (.value v) w') (hsz:w.heap.size≤w'.heap.size) (hos:w'.os=w.os) (hout:w'.output=w.output) (htape:w'.tape=w.tape)
  (hh:∀b,b<w.heap.size→b∉X→w'.heap[b]?=w.heap[b]?) (own:Own A P Z w'.heap s v fp) (hnd:fp.Nodup) (hfp:∀b,b∈fp→b∈X∨w.heap.size≤b)
  (href:Ref (e.app us) a.tm w.heap s v):Snd A P C B e a w (us++[⟨d,.slot,s⟩]) o:=by
 intro next Q hnext;unfold Ch;rw[hrun,C6,hdst];refine hnext _ _ Z (setF F d fp) ?_;rw[a2b];refine hrel.dst hd (Y:=X) (X':=[]) (by simp) hsz hos hout htape hh (fun b=>id) (fun b=>.inl) (fun b hb=>AU (hrel.zb b hb) hsz) own hnd hfp ?_ ?_
 ·intro b hb hz;rcases hfp b hb with h1|h1
  ·exact hrel.xnotZ b h1 hz
  ·have:=hrel.zb b hz;omega
 ·exact e8t hrel hd href (b2w own fun b hb=>hh b (hrel.zb b hb) fun hx=>hrel.xnotZ b hx hb) fun i b hb=>hh b (hrel.fb i b hb) (hrel.xdisj i b hb)
theorem a2f{us:List Up}(hrel:Rel A P C B (e.app us) a w Z F X){d:Nat}(hdst:o.dst=some d)(hd:a4f C B d){s:SV}{v:Value}{fp:List Nat}
  (hrun:(execOp a.eval o).run P w=.ok (.value v) w) (own:Own A P Z w.heap s v fp) (hnd:fp.Nodup) (hfp:∀b,b∈fp→b∈X) (href:Ref (e.app us) a.tm w.heap s v) :
  Snd A P C B e a w (us++[⟨d,.slot,s⟩]) o :=
 b5p hrel hdst hd hrun (Ar _) rfl rfl rfl (fun _ _ _=>rfl) own hnd (fun b hb=>.inl (hfp b hb)) href
theorem a6m{us:List Up}(hrel:Rel A P C B (e.app us) a w Z F X){d:Nat}(hdst:o.dst=some d)(hd:a4f C B d){t:Ty}{x:t.den}{v:Value}{cs:List Value}
  (hrun:(execOp a.eval o).run P w=.ok (.value v) w) (hv:VC t v cs) (hr:Rep A P t Z w.heap cs x []):Snd A P C B e a w (us++[⟨d,.slot,.val t x⟩]) o :=
 a2f (fp:=[]) hrel hdst hd hrun ⟨cs,hv,hr⟩ Ax (by simp) trivial
theorem c5a(hrel:Rel A P C B e a w Z F X){i:Nat}{t:Ty}{x:t.den}(hi:(e.get i).s=.val t x):Ref e a.tm w.heap (.ali ⟨i,[],none⟩ (e.get i).v (e.get i).c) (a.tm i):=by
 refine⟨Ar _,Ar _,fun _ _=>?_⟩;have ho:=hrel.own i;rw[hi] at ho;obtain⟨cs,g1,g2⟩:=ho;refine⟨t,cs,none,by simp[hi,SV.rootTy],by simp only[hi];exact⟨g1,rfl⟩,.inl ⟨t,cs,none,⟨0,rfl,(b1n (a1j g2)).symm,rfl⟩,g1,by simp⟩⟩
theorem b4v(hrel:Rel A P C B e a w Z F X){i:Nat}{t:Ty}{x:t.den}(hi:(e.get i).s=.box t x):Ref e a.tm w.heap (.ptr ⟨i,[],none⟩ (e.get i).v 0) (a.tm i):=by
 refine⟨Ar _,A8 _,fun _ _=>?_⟩;have ho:=hrel.own i;rw[hi] at ho;obtain⟨b,c,fp',h1,h2,h3,h4⟩:=ho;refine⟨t,c.toList,some b,by simp[hi,SV.rootTy],by simp only[hi];exact⟨b,c,h1,h2,rfl,rfl⟩,.inl ⟨t,c.toList,some ⟨b,0,none⟩,⟨0,rfl,(b1n (a1j h4)).symm,rfl⟩,_,rfl,h1⟩⟩
def SV.noOwn:SV→Prop
 |.val _ _|.box _ _|.tup _=>False
 |_=>True
theorem c9n{s:SV}{v:Value}{fp:List Nat}(ho:Own A P Z h s v fp)(hs:s.noOwn):fp=[]:=by
 cases s <;> first|exact hs.elim|exact ho|exact ho.1
theorem Rel.drop(hrel:Rel A P C B e a w Z F X)(i:Nat):Rel A P C B (e.app [⟨i,.slot,.none⟩]) a w Z (setF F i []) (F i++X):=by
 refine hrel.root (w':=w) rfl rfl rfl rfl (fun _ _ _=>rfl) (fun b=>id) (fun b=>.inl) rfl ?_ ?_ ?_ trivial ?_
 ·exact Ak.2 ⟨Ax,Ak.2 ⟨hrel.nodup i,hrel.xnodup,fun b hb b' hb' hbb=>by subst hbb;exact hrel.xdisj i b hb hb'⟩,by simp⟩
 ·intro b hb;simpa using hb
 ·intro b hb;rcases Aq.1 (by simpa using hb:b∈F i++X) with hb|hb
  ·exact hrel.notZ i b hb
  ·exact hrel.xnotZ b hb
 ·intro j hj;refine a9o (F:=F) hrel.own (hrel.ref j) (fun _ _ _ _ _ _=>rfl) fun q=>?_
  rw[a0j];by_cases hq:i=q
  ·subst hq;right;simp[Ent.bump]
  ·left;rw[if_neg hq];exact⟨rfl,rfl,fun _ _=>rfl⟩
theorem Rel.setref(hrel:Rel A P C B e a w Z F X){i:Nat}(hF:F i=[]){s:SV}(hs:match s with|.ptr _ _ _|.ali _ _ _|.sub _ _ _ _ _=>True|_=>False)
  (href:Ref (e.app [⟨i,.slot,s⟩]) a.tm w.heap s (a.tm i)):Rel A P C B (e.app [⟨i,.slot,s⟩]) a w Z (setF F i []) X:=by
 refine hrel.root (w':=w) rfl rfl rfl rfl (fun _ _ _=>rfl) (fun b=>id) (fun b=>.inl) ?_ ?_ ?_ ?_ href ?_
 ·cases s <;> first|exact hs.elim|rfl
 ·simpa using hrel.xnodup
 ·intro b hb;exact .inr (by simpa using hb)
 ·intro b hb;exact hrel.xnotZ b (by simpa using hb)
 ·intro j hj;refine a9o (F:=F) hrel.own (hrel.ref j) (fun _ _ _ _ _ _=>rfl) fun q=>?_
  rw[a0j];by_cases hq:i=q
  ·subst hq;right;simp[Ent.bump]
  ·left;rw[if_neg hq];exact⟨rfl,rfl,fun _ _=>rfl⟩
theorem c5k(hrel:Rel A P C B e a w Z F []){i d:Nat}(hid:i≠d)(hdst:o.dst=some d)(hd:a4f C B d)(hrun:(execOp a.eval o).run P w=.ok (.value (a.tm i)) w)
  {sr:SV} (hcase:(∃t y,(e.get i).s=.val t y∧sr=.ali ⟨d,[],none⟩ ((e.get d).v+1) (e.get d).c)∨(∃t y,(e.get i).s=.box t y∧sr=.ptr ⟨d,[],none⟩ ((e.get d).v+1) 0)) :
  Snd A P C B e a w [⟨i,.slot,.none⟩,⟨d,.slot,(e.get i).s⟩,⟨i,.slot,sr⟩] o:=by
 intro next Q hnext;unfold Ch;rw[hrun,C6,hdst];have hdn:d<a.tmps.size:=AU hd.1 hrel.nt;have h1:=hrel.drop i;rw[A9] at h1;have h2:=h1.dst (w':=w) (Z':=Z) (s:=(e.get i).s) (v:=a.tm i) (fp:=F i) hd (Y:=F i) (X':=[]) (by simp) (Ar _) rfl rfl rfl (fun _ _ _=>rfl) (fun b=>id) (fun b=>.inl) hrel.zb (hrel.own i) (hrel.nodup i) (fun b=>.inl) (hrel.notZ i)
  (by rcases hcase with⟨t,y,h,_⟩|⟨t,y,h,_⟩ <;> rw[h] <;> trivial)
 have hgd:((e.app [⟨i,.slot,.none⟩]).app [⟨d,.slot,(e.get i).s⟩]).get d=⟨(e.get d).v+1,(e.get d).c,(e.get i).s⟩:=by
  rw[a0j,if_pos rfl,a0j,if_neg hid];rfl
 have htd:(a.put (some d) (a.tm i)).tm d=a.tm i:=by rw[c5n hdn,if_pos rfl]
 have hti:(a.put (some d) (a.tm i)).tm i=a.tm i:=by rw[c5n hdn,if_neg hid]
 have href:Ref ((e.app [⟨i,.slot,.none⟩]).app [⟨d,.slot,(e.get i).s⟩]) (a.put (some d) (a.tm i)).tm w.heap sr (a.tm i):=by
  rcases hcase with⟨t,y,h,rfl⟩|⟨t,y,h,rfl⟩
  ·have:=c5a h2 (i:=d) (t:=t) (x:=y) (by rw[hgd];exact h);rw[hgd,htd] at this;exact this
  ·have:=b4v h2 (i:=d) (t:=t) (x:=y) (by rw[hgd];exact h);rw[hgd,htd] at this;exact this
 refine hnext _ _ Z _ (h2.setref (i:=i) (s:=sr) (by unfold setF;rw[if_neg hid,if_pos rfl]) (by rcases hcase with⟨t,y,_,rfl⟩|⟨t,y,_,rfl⟩ <;> trivial) ?_);rw[hti];refine a9o h2.own href (fun _ _ _ _ _ _=>rfl) fun q=>?_
 rw[a0j];by_cases hq:i=q
 ·right;rw[if_pos hq,←hq];simp[Ent.bump]
 ·left;rw[if_neg hq];exact⟨rfl,rfl,fun _ _=>rfl⟩
theorem g0a{t:Ty}{v v':Value}{cs:List Value}(h1:VC t v cs)(h2:VC t v' cs):v=v':=by
 unfold VC at h1 h2;split at h1
 ·rename_i ha;rw[if_pos ha] at h2;rw[h1,h2]
 ·rename_i ha;rw[if_neg ha] at h2;have:=h1.1.symm.trans h2.1;simpa using this
theorem d4f{t:Ty}{v:Value}{cs cs':List Value}(h1:VC t v cs)(h2:VC t v cs'):cs=cs':=by
 unfold VC at h1 h2;split at h1
 ·rename_i ha;rw[if_pos ha] at h2;have:=h1.symm.trans h2;simpa using this
 ·rename_i ha;rw[if_neg ha] at h2;rw[h1.1,h2.1]
theorem g1k{a:Act}{d:Nat}(hd:d<a.tmps.size):a.put (some d) (a.tm d)=a:=by
 have:a.tmps.setIfInBounds d (a.tm d)=a.tmps:=by
  apply Array.ext
  ·simp
  ·intro i h1 h2;rw[Array.getElem_setIfInBounds];split
   ·rename_i h;subst h;simp[Act.tm,Array.getD,h2]
   ·rfl
 simp[Act.put,this]
theorem e2m(hrel:Rel A P C B e a w Z F [])(hs:Sub r e){d:Nat}(hdst:o.dst=some d)(hd:a4f C B d)(hrd:r d=e.get d){x:Operand}{asg:Bool}
  (hop:o.op=.move x∨o.op=.assign x) {k:List Up→Option R} {res:R} (hk:sem.moveK C o.dst r k x asg=some res) :
  ∃us,k us=some res∧Snd A P C B e a w us o:=by
 have hrun:∀w,(execOp a.eval o).run P w=.ok (.value (a.eval x)) w:=by
  intro w;rcases hop with hop|hop <;> simp[execOp,hop]
 have hrel':Rel A P C B (e.app []) a w Z F []:=hrel;rw[hdst] at hk;unfold sem.moveK at hk;split at hk
 ·exact⟨_,a0c rfl hk,a2f (us:=[]) (fp:=[]) hrel' hdst hd (hrun w) ⟨rfl,rfl⟩ Ax (by simp) trivial⟩
 ·exact⟨_,a0c rfl hk,a2f (us:=[]) (fp:=[]) hrel' hdst hd (hrun w) ⟨rfl,rfl⟩ Ax (by simp) trivial⟩
 ·obtain⟨t,y,h1,_,cs,h2,h3⟩:=d7g (A:=A) (P:=P) (Z:=Z) (h:=w.heap) hk;exact⟨_,a0c rfl h1,a6m (us:=[]) hrel' hdst hd (hrun w) h2 h3⟩
 ·exact⟨_,a0c rfl hk,a2f (us:=[]) (fp:=[]) hrel' hdst hd (hrun w) ⟨rfl,rfl⟩ Ax (by simp) trivial⟩
 ·split at hk
  ·rename_i g t y hg;obtain⟨cs,h1,h2,h3⟩:=hrel.glob.var _ t y hg;exact⟨_,a0c rfl hk,a2f (us:=[]) (fp:=[]) hrel' hdst hd (hrun w) ⟨rfl,_,cs,rfl,h1,h2,h3⟩ Ax (by simp) trivial⟩
  ·simp at hk
 ·rename_i i;have hv:a.eval (.tmp i)=a.tm i:=rfl;split at hk
  ·simp at hk
  ·
   rename_i t y hi;have hie:=a3r hs hi (by simp);have hi':(e.get i).s=.val t y:=by rw[←hie];exact hi
   have ho:=hrel.own i;rw[hi'] at ho;split at hk
   ·rename_i hp;obtain⟨cs,g1,g2⟩:=ho;have hf:=a1y g2 hp;rw[hf] at g2;exact⟨_,a0c rfl hk,a6m (us:=[]) hrel' hdst hd (hrun w) g1 g2⟩
   ·split at hk
    ·rename_i dd _ hdd;obtain rfl:=Ag hdd;split at hk
     ·simp at hk
     ·rename_i hb;have hid:=b2d hb;refine⟨_,hk,?_⟩;rw[hrd,←hi'];exact c5k hrel hid hdst hd (by rw[hrun,hv]) (.inl ⟨t,y,hi',rfl⟩)
    ·rw[hie] at hk;exact⟨_,a0c rfl hk,a2f (us:=[]) (fp:=[]) hrel' hdst hd (hrun w) rfl Ax (by simp) (c5a hrel hi')⟩
  ·rename_i t y hi;have hie:=a3r hs hi (by simp);have hi':(e.get i).s=.box t y:=by rw[←hie];exact hi
   split at hk
   ·rename_i dd _ hdd;obtain rfl:=Ag hdd;split at hk
    ·simp at hk
    ·rename_i hb;have hid:=b2d hb;refine⟨_,hk,?_⟩;rw[hrd,←hi'];exact c5k hrel hid hdst hd (by rw[hrun,hv]) (.inr ⟨t,y,hi',rfl⟩)
   ·rw[hie] at hk;exact⟨_,a0c rfl hk,a2f (us:=[]) (fp:=[]) hrel' hdst hd (hrun w) rfl Ax (by simp) (b4v hrel hi')⟩
  ·rename_i l hi;have hie:=a3r hs hi (by simp);have hi':(e.get i).s=.tup l:=by rw[←hie];exact hi
   simp only at hk;split at hk
   ·simp at hk
   ·rename_i hb
    ·have hid:=b2d hb;refine⟨_,hk,?_⟩;have h1:=hrel.drop i;rw[A9] at h1;have ho:=hrel.own i;rw[hi'] at ho;have:=a2f (us:=[⟨i,.slot,.none⟩]) h1 hdst hd (hrun w) (s:=.tup l) (fp:=F i) ho (hrel.nodup i) (fun b hb=>hb) trivial;exact this
  ·rename_i p v c hi;have hie:=a3r hs hi (by simp);have hi':(e.get i).s=.ali p v c:=by rw[←hie];exact hi
   have ho:=hrel.own i;have href:=hrel.ref i;rw[hi'] at ho href;have hdef:fin (some d) (.ali p v c) [] k=some res→∃us,k us=some res∧Snd A P C B e a w us o:=fun hk =>
    ⟨_,a0c rfl hk,a2f (us:=[]) (fp:=[]) hrel' hdst hd (hrun w) rfl Ax (by simp) href⟩
   dsimp only at hk;split at hk
   ·rename_i hself;simp only[Af] at hself;obtain⟨_,hself⟩:=hself;unfold f6q at hself;simp only[Af] at hself;obtain⟨⟨⟨⟨⟨g1,g2⟩,g3⟩,g4⟩,g5⟩,g6⟩:=hself;obtain⟨root,p1,ix⟩:=p;obtain rfl:p1=[]:=by simpa using g1
    obtain rfl:ix=none:=by simpa using g2
    obtain rfl:root=d:=a1p g3;rw[hrd] at g4 g5 g6;refine⟨[],hk,fun next Q hnext=>?_⟩;have hat:=href.2.2 (a1p g4) (a1p g5);split at g6
    ·rename_i t y hrt;obtain⟨t1,cs,base,h1,h2,h3⟩:=hat;rw[hrt] at h1 h2;obtain⟨h2,rfl⟩:=h2;simp only[SV.rootTy,Ad] at h1;subst h1;have hval:a.eval (.tmp i)=a.tm root:=by
      rcases h3 with⟨t0,cs0,ad,h4,h5⟩|h3
      ·unfold Loc at h4;simp only at h4;obtain⟨o1,h6,h7,_⟩:=h4;simp only[a1w,Ad,Aj] at h6;obtain⟨rfl,rfl⟩:=h6;have hcs:cs0=cs:=by
        rw[h7];have hown:=hrel.own root;rw[hrt] at hown;obtain⟨cs',h8,h9⟩:=hown;have hl1:=a1j h9;have hcc:cs=cs':=d4f h2 h8;subst hcc;exact b1n hl1
       rw[hcs] at h5;exact g0a h5.1 h2
      ·simp[d1k] at h3
     have hdn:root<a.tmps.size:=AU hd.1 hrel.nt;have hput:a.put o.dst (a.eval (.tmp i))=a:=by rw[hdst,hval];exact g1k hdn
     unfold Ch;rw[hrun w];show next (a.put o.dst (a.eval (.tmp i))) w;rw[hput];exact hnext a w Z F hrel
    ·simp at g6
   ·exact hdef hk
  ·rename_i n1 n2 n3 n4 n5;have hie:r i=e.get i:=hs i n1;have ho:=hrel.own i;have href:=hrel.ref i;rw[hie] at hk n1 n2 n3 n4;have hf:=c9n ho (by
    unfold SV.noOwn;cases hse:(e.get i).s <;> first|trivial|exact absurd hse (n2 _ _)|exact absurd hse (n3 _ _)|exact absurd hse (n4 _))
   rw[hf] at ho;exact⟨_,a0c rfl hk,a2f (us:=[]) (fp:=[]) hrel' hdst hd (hrun w) ho Ax (by simp) href⟩
def PO(A:Amb)(P:Program)(Z:Nat→Prop)(h:Array Obj)(v:Value)(t:Ty)(x:t.den):Prop :=
 ∃ad cs,v=.pointer (some ad)∧Z ad.block∧Row h ad t.size cs∧Rep A P t Z h cs x []
structure LO (e:En) (a:Act) (h:Array Obj) (r:Nat→Ent) (o:Operand) (p:Pl) (v c:Nat) (t:Ty) (x:t.den):Prop where
 root:r p.root=e.get p.root
 vv:(e.get p.root).v=v
 cc:(e.get p.root).c=c
 is:∃t0 x0,RootIs (e.get p.root).s t0 x0∧∀{R:Type} (k:(t':Ty)→t'.den→Option R),a3m p t0 x0 k=k t x
 at_:At e a.tm h p (PtrX (a.eval o))
theorem a9y(hrel:Rel A P C B e a w Z F X)(hs:Sub r e){o:Operand}{kp:(t:Ty)→t.den→Option R}{kl:Pl→Nat→Nat→(t:Ty)→t.den→Option R}{res:R}
  (hk:locK C r o kp kl=some res) :
  (∃t x,kp t x=some res∧PO A P Z w.heap (a.eval o) t x)∨∃p v c t x,kl p v c t x=some res∧LO e a w.heap r o p v c t x:=by
 unfold locK at hk;split at hk
 ·split at hk
  ·rename_i g t x hg;obtain⟨cs,h1,h2,h3⟩:=hrel.glob.var _ t x hg;exact .inl ⟨t,x,hk,_,cs,rfl,h1,h2,h3⟩
  ·simp at hk
 ·rename_i i;split at hk
  ·rename_i t x hi;have hie:=a3r hs hi (by simp);have ho:=hrel.own i;rw[←hie,hi] at ho;obtain⟨_,ad,cs,h1,h2,h3,h4⟩:=ho;exact .inl ⟨t,x,hk,ad,cs,h1,h2,h3,h4⟩
  ·rename_i t x hi;have hie:=a3r hs hi (by simp);have hi':(e.get i).s=.box t x:=by rw[←hie];exact hi
   refine .inr ⟨_,_,_,t,x,hk,hie,by rw[←hie],by rw[←hie],⟨t,x,by rw[hi'];exact .box t x,fun k=>rfl⟩,?_⟩;exact(b4v hrel hi').2.2 rfl fun hx=>by simp at hx
  ·rename_i p v c hi;have hie:=a3r hs hi (by simp);have hi':(e.get i).s=.ptr p v c:=by rw[←hie];exact hi
   have href:=hrel.ref i;rw[hi'] at href;split at hk
   ·rename_i hb;simp only[Af,BR,B2] at hb;have key:∀{t:Ty} {x:t.den} {k:(t':Ty)→t'.den→Option R},RootIs (r p.root).s t x→a3m p t x k=some res→∃t1 x1,k t1 x1=some res∧∀{R':Type} (k':(t':Ty)→t'.den→Option R'),a3m p t x k'=k' t1 x1:=by
     intro t x k hR hg;have hre:=hs p.root (a5u hR);rw[hre] at hR hb;have hat:=href.2.2 (a1p hb.1) (fun hx=>hb.2.elim (fun h=>by simp[Pl.idx,hx] at h) a1p);obtain⟨cs,base,fp',t1,cs0,ad,x1,fs,fr,g1,g2,g3,g4,g5,g6,g7,g8⟩:=b7n (hrel.own p.root) hR hat hg;exact⟨t1,x1,(g6 _).symm.trans hg,fun k'=>g6 k'⟩
    have fin':∀{t:Ty} {x:t.den},RootIs (r p.root).s t x→a3m p t x (fun t' x'=>kl p v (r p.root).c t' x')=some res→∃p v c t x,kl p v c t x=some res∧LO e a w.heap r (.tmp i) p v c t x:=by
     intro t x hR hg;have hre:=hs p.root (a5u hR);obtain⟨t1,x1,q1,q2⟩:=key hR hg;rw[hre] at hR hb q1;exact⟨p,v,(e.get p.root).c,t1,x1,q1,hre,a1p hb.1,rfl,⟨t,x,hR,fun k=>q2 k⟩,href.2.2 (a1p hb.1) (fun hx=>hb.2.elim (fun h=>by simp[Pl.idx,hx] at h) a1p)⟩
    split at hk
    ·rename_i t x hr;exact .inr (fin' (by rw[hr];exact .val t x) hk)
    ·rename_i t x hr;exact .inr (fin' (by rw[hr];exact .box t x) hk)
    ·simp at hk
   ·simp at hk
  ·simp at hk
 ·simp at hk
theorem c9b{t:Ty}{x:t.den}{cs:List Value}{fp:List Nat}(hr:Rep A P t Z h cs x fp){s:SV}{v:Value}{p:Pl}{base:Option Nat}{t0:Ty}{cs0:List Value}{ad:Addr}
  (hc:b0q h s v cs base) (hl:Loc h p t cs base t0 cs0 (some ad)):ad.spot=none∧∃c,Blk h ad.block c∧ad.off+t0.size≤c.size∧cs0=seg c.toList ad.off t0.size:=by
 unfold Loc at hl;split at hl
 ·obtain⟨o,h1,h2,h3⟩:=hl;cases base with
  |none=>simp at h3
  |some b =>
   simp only[Ca,Ad] at h3;subst h3;have hle:=d3v h1 hr;cases s with
   |box t' x' =>
    obtain⟨b',c,_,g2,rfl,g4⟩:=hc;obtain rfl:=Ag g4;exact⟨rfl,c,g2,by simpa using hle,h2⟩
   |val=>exact absurd hc.2 (by simp)
   |_=>exact hc.elim
 ·obtain⟨o1,tsl,e,te,n,cap,b,c,o2,h1,h2,h3,h4,h5,h6,h7,h8,h9,h10,h11,h12⟩:=hl;obtain rfl:=Ag h12;refine⟨rfl,c,h4,?_,h11⟩;have:(‹Int›.toNat+1)*te.size≤cap*te.size:=Ai _ (by omega);rw[AC] at this;simp only;omega
theorem Blk.seg_row{b:Nat}{c:Array Value}(hb:Blk h b c){o n:Nat}(hl:o+n≤c.size):Row h ⟨b,o,none⟩ n (seg c.toList o n):=by
 obtain⟨el,fr,h3,_⟩:=hb;refine⟨rfl,a3w (by simpa using hl),c,el,fr,h3,fun j hj=>?_⟩;simp[seg,AV,hj]
theorem b4h(hrel:Rel A P C B e a w Z F X){o:Operand}{p:Pl}{v c:Nat}{t:Ty}{x:t.den}(hl:LO e a w.heap r o p v c t x) :
  ∃t0 x0 cs base fp' cs0 ad fs fr,RootIs (e.get p.root).s t0 x0∧b0q w.heap (e.get p.root).s (a.tm p.root) cs base∧Rep A P t0 Z w.heap cs x0 fp'∧((base=none∧F p.root=fp')∨∃b,base=some b∧F p.root=b::fp') ∧
   Loc w.heap p t0 cs base t cs0 (some ad)∧(∀{R:Type} (k:(t':Ty)→t'.den→Option R),a3m p t0 x0 k=k t x)∧fp'.Perm (fr++fs)∧Rep A P t Z w.heap cs0 x fs∧a.eval o=.pointer (some ad):=by
 obtain⟨t0,x0,h6,h7⟩:=hl.is;obtain⟨cs,base,fp',t1,cs0,ad,x1,fs,fr,g1,g2,g3,g4,g5,g6,g7,g8⟩:=b7n (k:=fun t x=>some (⟨t,x⟩:Dyn)) (r:=⟨t,x⟩) (hrel.own p.root) h6 hl.at_ (h7 _);have:(⟨t1,x1⟩:Dyn)=⟨t,x⟩:=Ag ((g6 fun t x=>some (⟨t,x⟩:Dyn)).symm.trans (h7 _));cases this;obtain⟨ad',rfl,hv⟩:=g5;exact⟨t0,x0,cs,base,fp',cs0,ad',fs,fr,h6,g1,g2,g3,g4,fun k=>h7 k,g7,g8,hv⟩
theorem b4s{t:Nat}{t0:Ty}(hl:lay C t t0=true):∃tt,C.ty t=some tt∧tt.imm=t0.imm∧(t0.agg=true∨t0.size=1):=by
 unfold lay at hl;split at hl
 ·rename_i tt htt;simp only[Af,BR] at hl;exact⟨tt,htt,of_decide_eq_true hl.1,hl.2.imp id a1p⟩
 ·simp at hl
theorem c2j{t:Ty}{x:t.den}{cs:List Value}{fp:List Nat}(hr:Rep A P t Z h cs x fp)(ht:t.agg=true∨t.size=1):∃v,VC t v cs:=by
 unfold VC;cases ha:t.agg with
 |true=>exact⟨.agg cs.toArray,by simp⟩
 |false =>
  have hl:=a1j hr;rw[ha] at ht;have h1:cs.length=1:=by
                 rcases ht with h|h;· simp at h
                 ·omega
  obtain⟨v,rfl⟩:=List.length_eq_one_iff.1 h1;refine⟨v,by simp;intro a hva;have:=a5q hr v (by simp);rw[hva] at this;simp[Value.oneCell'] at this⟩
theorem f6z{t t':Ty}(h:t.imm=t'.imm):t.agg=t'.agg:=by rw[←c3o t,h,c3o]
theorem a3x{t t':Ty}(h:t.imm=t'.imm):t.size=t'.size:=by rw[←a1e t,h,a1e]
theorem f4a(htab:a3c P C)(hrel:Rel A P C B e a w Z F [])(hs:Sub r e){d:Nat}(hdst:o.dst=some d)(hd:a4f C B d){tt:Nat}{x:Operand}{ty:Nat}
  (hop:o.op=.load tt x) {k:List Up→Option R} {res:R} (hk:sem C (.load tt x) ty o.dst r k=some res) :
  ∃us,k us=some res∧Snd A P C B e a w us o:=by
 have hrel':Rel A P C B (e.app []) a w Z F []:=hrel;simp only[sem] at hk;rw[hdst] at hk;split at hk
 ·rcases a9y hrel hs hk with⟨t,y,hk,ad,cs,h1,h2,h3,h4⟩|⟨p,v,c,t,y,hk,hl⟩
  ·simp at hk
  ·obtain⟨t0,x0,cs,base,fp',cs0,ad,fs,fr,g1,g2,g3,g4,g5,g6,g7,g8,g9⟩:=b4h hrel hl;obtain⟨hsp,cc,q1,q2,q3⟩:=c9b g3 g2 g5;have hrow:Row w.heap ad t.size cs0:=by
    have:=q1.seg_row q2;cases ad;simp at hsp;subst hsp;rw[q3];exact this
   split at hk
   ·rename_i hix hlay;obtain⟨t1,ht1,hi,hag⟩:=b4s hlay;obtain⟨v',hv'⟩:=c2j g8 hag;have hrun:(execOp a.eval o).run P w=.ok (.value v') w:=by
     have:=a7v (htab _ _ ht1) (w:=w) (by rw[a3x hi];exact hrow) (b0c hi.symm hv');simp[execOp,hop,Dt,Ci,g9,this]
    refine⟨_,a0c rfl hk,a2f (us:=[]) (fp:=[]) hrel' hdst hd hrun rfl Ax (by simp) ?_⟩;refine⟨BH hl.vv.symm,BH hl.cc.symm,fun _ _=>?_⟩;obtain⟨g10,g11⟩:(e.get p.root).s.rootTy=some t0∧True:=⟨by have g1':=g1;generalize (e.get p.root).s=s at g1';cases g1' <;> rfl,trivial⟩
    exact⟨t0,cs,base,g10,g2,.inl ⟨t,cs0,some ad,g5,hv',fun hx=>by rw[hix] at hx;simp at hx⟩⟩
   ·simp at hk
 split at hk
 ·rename_i p1 v1 c1 hq;split at hk
  ·rename_i te hty;unfold g2b at hq;split at hq
   ·rename_i q0;split at hq
    ·rename_i s0 v0 j0 hq0;split at hq
     ·rename_i l0 hv0 hl0;have hie:=hs q0 (by rw[hq0];simp);have hse:=hs s0 (by rw[hl0];simp);have hr0:=hrel.ref q0;rw[←hie,hq0] at hr0;rw[hse] at hv0 hl0;obtain⟨l1,b0,k1,k2,k3,k4⟩:=hr0.2 (a1p hv0);rw[hl0] at k1;cases k1;have hr1:=hrel.ref s0;rw[hl0,k3] at hr1;obtain⟨b1,cc,el,fr,m1,m2,m3,m4⟩:=hr1;cases m1;obtain⟨ad,n1,n2⟩:=m4 j0 k2;have hq1:l0[j0]=(p1,v1,c1):=by
       rw[Bb k2] at hq;exact Ag hq
      rw[hq1] at n2;have hrow:Row w.heap ⟨b0,j0,none⟩ (Ty.ptr te).size [.pointer (some ad)]:=by
       refine⟨rfl,rfl,cc,el,fr,m2,fun j hj=>?_⟩;have:j=0:=by simp[Ty.size] at hj;omega
       subst this;simpa using n1
      have hvc:VC (.ptr te) (.pointer (some ad)) [.pointer (some ad)]:=a1c rfl rfl (by simp);have hrun:(execOp a.eval o).run P w=.ok (.value (.pointer (some ad))) w:=by
       have:=a7v (htab _ _ hty) (w:=w) hrow hvc;simp[execOp,hop,Dt,Ci,a5s,k4,this]
      exact⟨_,a0c rfl hk,a2f (us:=[]) (fp:=[]) hrel' hdst hd hrun rfl Ax (by simp) n2⟩
     ·cases hq
    ·cases hq
   ·cases hq
  ·cases hk
 rcases a9y hrel hs hk with⟨t,y,hk,ad,cs,h1,h2,h3,h4⟩|⟨p,v,c,t,y,hk,hl⟩
 ·split at hk
  ·rename_i hlay;obtain⟨t1,ht1,hi,hag⟩:=b4s hlay;obtain⟨v,hv⟩:=c2j h4 hag;refine⟨_,a0c rfl hk,a6m (us:=[]) hrel' hdst hd (v:=v) ?_ hv h4⟩;have:=a7v (htab _ _ ht1) (w:=w) (by rw[a3x hi];exact h3) (b0c hi.symm hv);simp[execOp,hop,Dt,Ci,h1,this]
  ·simp at hk
 ·obtain⟨t0,x0,cs,base,fp',cs0,ad,fs,fr,g1,g2,g3,g4,g5,g6,g7,g8,g9⟩:=b4h hrel hl;obtain⟨hsp,cc,q1,q2,q3⟩:=c9b g3 g2 g5;have hrow:Row w.heap ad t.size cs0:=by
   have:=q1.seg_row q2;cases ad;simp at hsp;subst hsp;rw[q3];exact this
  have hrun:∀{v:Value},VC t v cs0→lay C tt t=true→(execOp a.eval o).run P w=.ok (.value v) w:=by
   intro v hv hlay;obtain⟨t1,ht1,hi,hag⟩:=b4s hlay;have:=a7v (htab _ _ ht1) (w:=w) (by rw[a3x hi];exact hrow) (b0c hi.symm hv);simp[execOp,hop,Dt,Ci,g9,this]
  split at hk
  ·rename_i hlay hp;obtain⟨t1,ht1,hi,hag⟩:=b4s hlay;obtain⟨v',hv'⟩:=c2j g8 hag;refine⟨_,a0c rfl hk,a2f (us:=[]) (fp:=[]) hrel' hdst hd (hrun hv' hlay) rfl Ax (by simp) ?_⟩;refine⟨BH hl.vv.symm,BH hl.cc.symm,fun _ _=>?_⟩;obtain⟨g10,g11⟩:(e.get p.root).s.rootTy=some t0∧True:=⟨by have g1':=g1;generalize (e.get p.root).s=s at g1';cases g1' <;> rfl,trivial⟩
   exact⟨t0,cs,base,g10,g2,.inl ⟨t,cs0,some ad,g5,hv',fun _=>hp⟩⟩
  ·rename_i hlay hp;obtain⟨t1,ht1,hi,hag⟩:=b4s hlay;obtain⟨v',hv'⟩:=c2j g8 hag;rw[a1y g8 hp] at g8;exact⟨_,a0c rfl hk,a6m (us:=[]) hrel' hdst hd (hrun hv' hlay) hv' g8⟩
  ·simp at hk
end Go.Rb

namespace Go.Rb
variable {A:Amb} {P:Program} {Z Z':Nat→Prop} {h h':Array Obj} {R:Type} {C:Ctx} {B:Base} {e:En} {a:Act} {w w':World} {F:Nat→List Nat} {X:List Nat} {r:Nat→Ent} {o:Oper}
theorem c5c:∀{fs:List Field} {p:Ty} {o0 f o:Nat} {ti:Ty},a8r C fs p o0→a1h p f=some (o,ti)→∃fd,fs[f]?=some fd∧fd.offset=o0+o∧C.ty fd.type=some ti∧1≤ti.size
 |f0::fs,.pair a b,o0,0,o,ti,hf,hc=>by
  simp only[a1h,Ad,Aj] at hc;obtain⟨rfl,rfl⟩:=hc;obtain⟨h1,h2,h3,_⟩:=hf;exact⟨f0,rfl,by omega,h2,h3⟩
 |f0::fs,.pair a b,o0,f+1,o,ti,hf,hc=>by
  simp only[a1h] at hc;split at hc
  ·rename_i o' t' hc';simp only[Ad,Aj] at hc;obtain⟨rfl,rfl⟩:=hc;obtain⟨fd,g1,g2,g3⟩:=c5c hf.2.2.2 hc';exact⟨fd,by simpa using g1,by omega,g3⟩
  ·simp at hc
 |[],.pair _ _,_,_,_,_,hf,_=>hf.elim
 |[],.unit,_,_,_,_,_,hc=>by simp[a1h] at hc
 |[],.int _,_,_,_,_,hf,_|[],.bool,_,_,_,_,hf,_|[],.str,_,_,_,_,hf,_|[],.err,_,_,_,_,hf,_|[],.sl _ _ _,_,_,_,_,hf,_|[],.slh _ _,_,_,_,_,hf,_
 |[],.fn _ _,_,_,_,_,hf,_|[],.fn2 _ _ _,_,_,_,_,hf,_|[],.ptr _,_,_,_,_,hf,_|[],.lf _,_,_,_,_,hf,_|[],.st _,_,_,_,_,hf,_|[],.arr _ _,_,_,_,_,hf,_=>hf.elim
 |_::_,.int _,_,_,_,_,hf,_|_::_,.bool,_,_,_,_,hf,_|_::_,.str,_,_,_,_,hf,_|_::_,.err,_,_,_,_,hf,_|_::_,.sl _ _ _,_,_,_,_,hf,_|_::_,.slh _ _,_,_,_,_,hf,_
 |_::_,.fn _ _,_,_,_,_,hf,_|_::_,.fn2 _ _ _,_,_,_,_,hf,_|_::_,.ptr _,_,_,_,_,hf,_|_::_,.lf _,_,_,_,_,hf,_|_::_,.st _,_,_,_,_,hf,_|_::_,.arr _ _,_,_,_,_,hf,_|_::_,.unit,_,_,_,_,hf,_=>hf.elim
theorem a8j{ad:Addr}(hs:ad.spot=none)(o:Nat):ad.add o=⟨ad.block,ad.off+o,none⟩:=by
 unfold CO;split
 ·rename_i h0;subst h0;cases ad;simp_all
 ·rfl
theorem d6y(htab:a3c P C){s:Nat}{t:Ty}(hl:lay C s (.st t)=true){f oc:Nat}{ti:Ty}(hc:a1h t f=some (oc,ti)) :
  ∃fs fd ti',P.underlying s=some (.struct fs)∧fs[f]?=some fd∧fd.offset=oc∧C.ty fd.type=some ti'∧ti'.imm=ti.imm∧1≤ti'.size:=by
 obtain⟨tt,ht,hi,_⟩:=b4s hl;obtain⟨i,d,h1,h2,h3,h4,_⟩:=(htab _ _ ht).ex;cases tt with
 |st p =>
  have hi':p.imm=t.imm:=by simpa[Ty.imm] using hi
  cases d with
  |struct fs =>
   obtain⟨ti',hc',hii⟩:=c0w hi'.symm hc;obtain⟨fd,g1,g2,g3,g4⟩:=c5c h4 hc';exact⟨fs,fd,ti',h2,by simpa using g1,by omega,g3,hii,g4⟩
  |_=>exact h4.elim
 |_=>simp[Ty.imm] at hi
theorem c8v(htab:a3c P C){s:Nat}{t:Ty}(hl:lay C s (.st t)=true){f oc:Nat}{ti:Ty}(hc:a1h t f=some (oc,ti)){v:Value}{ad:Addr}(hv:v=.pointer (some ad))(hs:ad.spot=none) :
  (FC s v f).run P w=.ok (.pointer (some ⟨ad.block,ad.off+oc,none⟩)) w:=by
 obtain⟨fs,fd,ti',h1,h2,h3,h4,h5,h6⟩:=d6y htab hl hc;have hz:=(htab _ _ h4).sizeOf w;subst hv;simp only[FC,AK,An h1,AI,h2,Ci,BJ];simp only[fieldPlace,AK,hz,AI];rw[if_neg (by omega)];simp[h3,a8j hs]
theorem c6p:∀{t:Ty} {x:t.den} {i:Nat} {k:(t':Ty)→t'.den→Option R} {res:R},comp t x i k=some res→∃o ti,a1h t i=some (o,ti):=by
 intro t
 induction t with
 |pair a b iha ihb =>
  intro x i k res hk;cases i with
  |zero=>exact⟨0,a,rfl⟩
  |succ i =>
   obtain⟨o,ti,h⟩:=ihb (x:=x.2) hk;exact⟨a.size+o,ti,by simp[a1h,h]⟩
 |_=>intro x i k res hk;simp[comp] at hk
theorem Row.sub{ad:Addr}{n:Nat}{cs:List Value}(hr:Row h ad n cs){o m:Nat}(hl:o+m≤n):Row h ⟨ad.block,ad.off+o,none⟩ m (seg cs o m):=by
 obtain⟨h1,h2,c,el,fr,h3,h4⟩:=hr;refine⟨rfl,a3w (by omega),c,el,fr,h3,fun j hj=>?_⟩;have:=h4 (o+j) (by omega);simp only[seg,AV,Bg];rw[if_pos hj,←this];congr 1;omega
theorem b4i:∀{p:List Stp} {t:Ty} {o:Nat} {t1:Ty} {s:Stp} {o2:Nat} {t2:Ty},a1w p t=some (o,t1)→a1w [s] t1=some (o2,t2)→a1w (p++[s]) t=some (o+o2,t2)
 |[],t,o,t1,s,o2,t2,h1,h2=>by
  simp only[a1w,Ad,Aj] at h1;obtain⟨rfl,rfl⟩:=h1;simpa using h2
 |.f i::p,t,o,t1,s,o2,t2,h1,h2=>by
  cases t with
  |st t =>
   simp only[a1w,Ef] at h1 ⊢;split at h1
   ·rename_i oc tc hc;split at h1
    ·rename_i o' t' ho';simp only[Ad,Aj] at h1;obtain⟨rfl,rfl⟩:=h1;have:=b4i ho' h2;simp[this,Dr]
    ·simp at h1
   ·simp at h1
  |_=>simp[a1w] at h1
 |.a j::p,t,o,t1,s,o2,t2,h1,h2=>by
  cases t with
  |arr n t =>
   simp only[a1w,Ef] at h1 ⊢;split at h1
   ·rename_i hj;rw[if_pos hj];split at h1
    ·rename_i o' t' ho';simp only[Ad,Aj] at h1;obtain⟨rfl,rfl⟩:=h1;have:=b4i ho' h2;simp[this,Dr]
    ·simp at h1
   ·simp at h1
  |_=>simp[a1w] at h1
theorem b4a{s:SV}{t:Ty}{x:t.den}(hs:RootIs s t x):s.rootTy=some t:=by cases hs <;> rfl
theorem e2f{t:Ty}{x:t.den}{cs:List Value}{fp:List Nat}(hr:Rep A P t Z h cs x fp){p:Pl}{base:Option Nat}{t0:Ty}{cs0:List Value}{ad:Option Addr}{s:Stp}{o2:Nat}{t2:Ty}
  (hl:Loc h p t cs base t0 cs0 ad) (ho:a1w [s] t0=some (o2,t2)) (hle:o2+t2.size≤t0.size) :
  Loc h (p.step s) t cs base t2 (seg cs0 o2 t2.size) (ad.map fun a=>⟨a.block,a.off+o2,none⟩):=by
 unfold Loc at hl ⊢;split at hl
 ·rename_i hix;obtain⟨o,h1,h2,h3⟩:=hl;have:(p.step s).ix=none:=by unfold Pl.step;simp[hix]
  simp only[this];have hp1:(p.step s).p1=p.p1++[s]:=by unfold Pl.step;simp[hix]
  refine⟨o+o2,by rw[hp1];exact b4i h1 ho,by rw[h2,a9u hle],?_⟩;rw[h3];cases base <;> simp
 ·rename_i j q hix;obtain⟨o1,tsl,e,te,n,cap,b,c,o3,h1,h2,h3,h4,h5,h6,h7,h8,h9,h10,h11,h12⟩:=hl;have:(p.step s).ix=some (j,q++[s]):=by unfold Pl.step;simp[hix]
  simp only[this];have hp1:(p.step s).p1=p.p1:=by unfold Pl.step;simp[hix]
  refine⟨o1,tsl,e,te,n,cap,b,c,o3+o2,by rw[hp1];exact h1,h2,h3,h4,h5,h6,h7,h8,b4i h9 ho,by omega,?_,?_⟩
  ·rw[h11,a9u hle,Dr]
  ·rw[h12];simp[Dr]
theorem d6j{p:Pl}{s:Stp}:(p.step s).root=p.root∧(p.step s).ix.isSome=p.ix.isSome:=by
 unfold Pl.step;split <;> simp_all
theorem d2x(htab:a3c P C)(hrel:Rel A P C B e a w Z F [])(hs:Sub r e){d:Nat}(hdst:o.dst=some d)(hd:a4f C B d){s:Nat}{x:Operand}{f ty:Nat}
  (hop:o.op=.fieldAddr s x f) {k:List Up→Option R} {res:R} (hk:sem C (.fieldAddr s x f) ty o.dst r k=some res) :
  ∃us,k us=some res∧Snd A P C B e a w us o:=by
 have hrel':Rel A P C B (e.app []) a w Z F []:=hrel;simp only[sem] at hk;rw[hdst] at hk;rcases a9y hrel hs hk with⟨t,y,hk,ad,cs,h1,h2,h3,h4⟩|⟨p,v,c,t,y,hk,hl⟩
 ·split at hk
  ·rename_i hlay;split at hk
   ·rename_i t y;obtain⟨oc,ti,hc⟩:=c6p hk;obtain⟨y0,fs,fr,g1,g2,g3,g4,g5⟩:=b7p (t:=t) (x:=y) hc h4;rw[g1] at hk;obtain⟨rfl,rfl⟩:fr=[]∧fs=[]:=by simpa using BP g2
    have hlt:=a1j h4;refine⟨_,a0c rfl hk,a2f (us:=[]) (fp:=[]) hrel' hdst hd (v:=.pointer (some ⟨ad.block,ad.off+oc,none⟩)) ?_ ⟨rfl,_,_,rfl,h2,h3.sub (by simp only[Ty.size] at hlt ⊢;omega),g3⟩ Ax (by simp) trivial⟩;simp[execOp,hop,c8v htab hlay hc h1 h3.1]
   ·simp at hk
  ·simp at hk
 ·split at hk
  ·rename_i hlay;split at hk
   ·rename_i t y;obtain⟨oc,ti,hc⟩:=c6p hk;obtain⟨t0,x0,cs,base,fp',cs0,ad,fs,fr,g1,g2,g3,g4,g5,g6,g7,g8,g9⟩:=b4h hrel hl;obtain⟨y0,fs',fr',q1,q2,q3,q4,q5⟩:=b7p (t:=t) (x:=y) hc g8;rw[q1] at hk;have hlt:=a1j g8;obtain⟨hsp,_⟩:=c9b g3 g2 g5;refine⟨_,a0c rfl hk,a2f (us:=[]) (fp:=[]) hrel' hdst hd (v:=.pointer (some ⟨ad.block,ad.off+oc,none⟩)) ?_ rfl Ax (by simp) ?_⟩
    ·simp[execOp,hop,c8v htab hlay hc g9 hsp]
    ·obtain⟨hr1,hr2⟩:=@d6j p (.f f);refine⟨by rw[hr1];exact BH hl.vv.symm,by rw[hr1];split <;> first|exact A8 _|exact BH hl.cc.symm,fun _ _=>?_⟩;refine⟨t0,cs,base,by rw[hr1];exact b4a g1,by rw[hr1];exact g2,.inl ⟨ti,_,_,e2f g3 g5 (o2:=oc) (t2:=ti) (by simp[a1w,hc]) (by simp only[Ty.size] at hlt ⊢;omega),_,rfl,rfl⟩⟩
   ·simp at hk
  ·simp at hk
theorem b5k(hrel:Rel A P C B e a w Z F X)(hs:Sub r e){i:Operand}{k:Int→Option R}{res:R}(hk:sem.idxK r i k=some res) :
  ∃n kd,k n=some res∧a.eval i=.int kd n∧kd.min≤n∧n≤kd.max:=by
 unfold sem.idxK at hk;obtain⟨t,x,org,hk,hv⟩:=a0v hrel hs hk;split at hk
 ·rename_i kd n;obtain⟨cs,fp,h1,_,h2,h3,h4⟩:=a6d hrel hv;rw[h2] at h1;have:=(h1:VC (.int kd) (a.eval i) [.int kd n])
  unfold VC at this;simp only[Ty.agg,AJ,if_false,AG,and_true] at this;exact⟨n,kd,hk,this.1.symm,h3,h4⟩
 ·simp at hk
theorem b4j{i:Int}{n:Nat}{x:Option R}{res:R}(hk:atI i n x=some res):0≤i∧i<n∧x=some res:=by
 unfold atI at hk;split at hk
 ·rename_i h;exact⟨h.1,h.2,hk⟩
 ·simp at hk
theorem f8m(htab:a3c P C){tt:Nat}{t:Ty}(hl:elOK C tt t=true){e:Nat}{te:Ty}(hi:t.imm=.sl .imm e te) :
  ∃el te',P.underlying tt=some (.slice el)∧C.ty el=some te'∧te'.size=te.size:=by
 unfold elOK at hl;split at hl
 ·rename_i tc htc;have h0:=of_decide_eq_true hl;rw[hi] at h0;obtain⟨i,d,h1,h2,h3,h4,_⟩:=(htab _ _ htc).ex;cases tc with
  |sl m e' te' =>
   simp only[Ty.imm,Ty.sl.injEq] at h0;cases d with
   |slice el=>exact⟨el,te',h2,h4.2.1,by rw[←a1e te',h0.2.2]⟩
   |_=>exact h4.elim
  |slh e' te'=>cases d <;> exact h4.elim
  |_=>simp[Ty.imm] at h0
 ·simp at hl
theorem e3z(htab:a3c P C){tt:Nat}{n:Nat}{te:Ty}(hl:elOK C tt (.arr n te)=true) :
  ∃el te',P.underlying tt=some (.array n el)∧C.ty el=some te'∧te'.imm=te.imm:=by
 unfold elOK at hl;split at hl
 ·rename_i tc htc;have h0:=of_decide_eq_true hl;obtain⟨i,d,h1,h2,h3,h4,_⟩:=(htab _ _ htc).ex;cases tc with
  |arr m te' =>
   simp only[Ty.imm,Ty.arr.injEq] at h0;cases d with
   |array m' el =>
    obtain⟨rfl,g2,_⟩:=h4;obtain⟨rfl,h0⟩:=h0;exact⟨el,te',h2,g2,h0⟩
   |_=>exact h4.elim
  |_=>simp[Ty.imm] at h0
 ·simp at hl
theorem a8f(htab:a3c P C){tt:Nat}{t:Ty}(hl:elOK C tt t=true){e:Nat}{te:Ty}(hi:t.imm=.sl .imm e te){ad:Addr}(hs:ad.spot=none){n cap:Nat}{kd:IntKind}{j:Int}(h0:0≤j)(hn:j<n) :
  (CJ tt (.slice (some ad) n cap) (.int kd j)).run P w=.ok (.pointer (some ⟨ad.block,ad.off+j.toNat*te.size,none⟩)) w:=by
 obtain⟨el,te',h1,h2,h3⟩:=f8m htab hl hi;have hz:=(htab _ _ h2).sizeOf w;simp[CJ,asIntOf,An h1,h0,hn,hz,h3,a8j hs]
theorem b8n(htab:a3c P C){tt:Nat}{m:Nat}{te:Ty}(hl:elOK C tt (.arr m te)=true){ad:Addr}(hs:ad.spot=none){kd:IntKind}{j:Int}(h0:0≤j)(hn:j<m) :
  (CJ tt (.pointer (some ad)) (.int kd j)).run P w=.ok (.pointer (some ⟨ad.block,ad.off+j.toNat*te.size,none⟩)) w:=by
 obtain⟨el,te',h1,h2,h3⟩:=e3z htab hl;have hz:=(htab _ _ h2).sizeOf w;simp[CJ,asIntOf,An h1,Ci,h0,hn,hz,a3x h3,a8j hs]
theorem d8n(hrel:Rel A P C B e a w Z F X){x:Operand}{t:Ty}{y:t.den}{org:Org}(hv:VO A P e a w.heap Z F r x t y org){k:Pl→Option R}{res:R}(hk:c5z org k=some res) :
  ∃p t0 x0 cs base fp' cs0 ad fs,k p=some res∧p.ix=none∧r p.root=e.get p.root∧RootIs (e.get p.root).s t0 x0∧b0q w.heap (e.get p.root).s (a.tm p.root) cs base∧Rep A P t0 Z w.heap cs x0 fp' ∧
   Loc w.heap p t0 cs base t cs0 ad∧VC t (a.eval x) cs0∧Rep A P t Z w.heap cs0 y fs:=by
 unfold c5z at hk;split at hk
 ·rename_i i;obtain⟨rfl,h2,h3⟩:=hv;have ho:=hrel.own i;rw[h2] at ho;obtain⟨cs,g1,g2⟩:=ho;exact⟨⟨i,[],none⟩,t,y,cs,none,F i,cs,none,F i,hk,rfl,h3,by rw[h2];exact .val t y,by rw[h2];exact⟨g1,rfl⟩,g2,⟨0,rfl,(b1n (a1j g2)).symm,rfl⟩,g1,g2⟩
 ·rename_i p;obtain⟨t0,x0,cs,base,fp',cs0,ad,fs,fr,k1,k2,k3,k4,k5,k6,k7,k8,k9,k10,_⟩:=b9w hrel hv;split at hk
  ·simp at hk
  ·rename_i hix;exact⟨p,t0,x0,cs,base,fp',cs0,ad,fs,hk,by simpa[Pl.idx] using hix,k10,k1,k2,k3,k5,k9,k8⟩
 ·simp at hk
theorem f6s{t:Ty}{cs:List Value}{p:Pl}(hix:p.ix=none){base:Option Nat}{tsl:Ty}{cs0:List Value}{ad:Option Addr}{e:Nat}{te:Ty}
  (hl:Loc h p t cs base tsl cs0 ad) (hel:a6p tsl=some (e,te)) {b n cap:Nat} {c:Array Value} (hc:cs0=[.slice (some ⟨b,0,none⟩) n cap]) (hb:Blk h b c) (hs:c.size=cap*te.size) (hn:n≤cap) {j:Int} (h0:0≤j) (hj:j<n) :
  Loc h (p.at j) t cs base te (seg c.toList (j.toNat*te.size) te.size) (some ⟨b,j.toNat*te.size,none⟩):=by
 unfold Loc at hl ⊢;simp only[hix] at hl;obtain⟨o,h1,h2,_⟩:=hl;have hsz:tsl.size=1:=by cases tsl <;> simp[a6p] at hel <;> rfl
 simp only[Pl.at];exact⟨o,tsl,e,te,n,cap,b,c,0,h1,hel,by rw[←hc,h2,hsz],hb,h0,hj,hn,hs,rfl,by omega,rfl,rfl⟩
theorem a0n{t:Ty}(ht:t.agg=false){v u:Value}(hv:VC t v [u]):v=u:=by
 unfold VC at hv;simp[ht] at hv;exact hv.1.symm
theorem d4p(htab:a3c P C)(hrel:Rel A P C B e a w Z F [])(hs:Sub r e){d:Nat}(hdst:o.dst=some d)(hd:a4f C B d){tt:Nat}{x i:Operand}{ty:Nat}
  (hop:o.op=.indexAddr tt x i) {k:List Up→Option R} {res:R} (hk:sem C (.indexAddr tt x i) ty o.dst r k=some res) :
  ∃us,k us=some res∧Snd A P C B e a w us o:=by
 have hrel':Rel A P C B (e.app []) a w Z F []:=hrel;simp only[sem] at hk;rw[hdst] at hk;cases hp:d0o r x with
 |some q =>
  obtain⟨s,m⟩:=q;rw[hp] at hk;dsimp only at hk;split at hk
  ·rename_i hsl;obtain⟨j,kd,hk1,hji,hjl,hju⟩:=b5k hrel hs hk;obtain⟨h0,hn,hk2⟩:=b4j hk1;clear hk hk1;unfold d0o at hp;split at hp
   ·rename_i s';split at hp
    ·rename_i l hl;simp only[Ad,Aj] at hp;obtain⟨rfl,rfl⟩:=hp;have hie:=a3r hs hl (by simp);have ho:=hrel.own s';rw[←hie,hl] at ho;obtain⟨hfp,b,hv,hz⟩:=ho;unfold d2u at hsl;split at hsl
     ·rename_i e0 te hTy;have hel:elOK C tt (.sl .imm e0 (.ptr te))=true:=by unfold elOK;rw[hTy];simp
      refine⟨_,a0c rfl hk2,a2f (us:=[]) (fp:=[]) hrel' hdst hd (v:=.pointer (some ⟨b,0+j.toNat*(Ty.ptr te).imm.size,none⟩)) ?_ rfl Ax (by simp) ?_⟩
      ·have:=a8f (w:=w) (cap:=l.length) htab hel (e:=e0) (te:=(Ty.ptr te).imm) rfl (ad:=⟨b,0,none⟩) rfl (kd:=kd) h0 hn;have hv2:a.eval (.tmp s')=.slice (some ⟨b,0,none⟩) l.length l.length:=hv;rw[←hv2] at this;simp only[execOp,hop,hji,AK,BJ];rw[this];rfl
      ·have hz1:(0:Nat)+j.toNat*(Ty.ptr te).imm.size=j.toNat:=by simp[Ty.imm,Ty.size]
       rw[hz1];refine⟨by rw[hie];exact Ar _,fun _=>⟨l,b,?_,by omega,hv,rfl⟩⟩;exact hie ▸ hl
     ·simp at hsl
    ·simp at hp
   ·simp at hp
  ·simp at hk
 |none =>
 rw[hp] at hk;dsimp only at hk;obtain⟨j,kd,hk,hji,hjl,hju⟩:=b5k hrel hs hk;have hrun0:∀v,(CJ tt (a.eval x) (.int kd j)).run P w=.ok v w→(execOp a.eval o).run P w=.ok (.value v) w:=by
  intro v hv;simp[execOp,hop,hji,hv]
 split at hk
 ·rcases a9y hrel hs hk with⟨t,y,hk,ad,cs,h1,h2,h3,h4⟩|⟨p,v,c,t,y,hk,hl⟩
  ·split at hk
   ·rename_i hel;split at hk
    ·rename_i n te l;obtain⟨h0,hn,hk⟩:=b4j hk;obtain⟨_,hpu,g1,g2,g3⟩:=h4;have hjn:j.toNat<l.length:=by omega
     rw[a0h _ hjn] at hk;have hb:j.toNat*te.size+te.size≤n*te.size:=by rw[←AC];exact Ai _ (by omega)
     refine⟨_,a0c rfl hk,a2f (us:=[]) (fp:=[]) hrel' hdst hd (v:=.pointer (some ⟨ad.block,ad.off+j.toNat*te.size,none⟩)) (hrun0 _ ?_) ⟨rfl,_,_,rfl,h2,h3.sub hb,g3 _ hjn⟩ Ax (by simp) trivial⟩;rw[h1];exact b8n htab hel h3.1 h0 (by omega)
    ·simp at hk
   ·simp at hk
  ·split at hk
   ·rename_i hel;split at hk
    ·rename_i n te l;obtain⟨h0,hn,hk⟩:=b4j hk;obtain⟨t0,x0,cs,base,fp',cs0,ad,fs,fr,g1,g2,g3,g4,g5,g6,g7,g8,g9⟩:=b4h hrel hl;obtain⟨_,hpu,q1,q2,q3⟩:=g8;obtain⟨hsp,_⟩:=c9b g3 g2 g5;have hb:j.toNat*te.size+te.size≤n*te.size:=by rw[←AC];exact Ai _ (by omega)
     refine⟨_,a0c rfl hk,a2f (us:=[]) (fp:=[]) hrel' hdst hd (v:=.pointer (some ⟨ad.block,ad.off+j.toNat*te.size,none⟩)) (hrun0 _ ?_) rfl Ax (by simp) ?_⟩
     ·rw[g9];exact b8n htab hel hsp h0 (by omega)
     ·obtain⟨hr1,hr2⟩:=@d6j p (.a j);refine⟨by rw[hr1];exact BH hl.vv.symm,by rw[hr1];split <;> first|exact A8 _|exact BH hl.cc.symm,fun _ _=>?_⟩;refine⟨t0,cs,base,by rw[hr1];exact b4a g1,by rw[hr1];exact g2,.inl ⟨te,_,_,e2f g3 g5 (o2:=j.toNat*te.size) (t2:=te) ?_ (by simpa[Ty.size] using hb),_,rfl,rfl⟩⟩;simp[a1w,h0];omega
    ·simp at hk
   ·simp at hk
 ·obtain⟨t,y,org,hk,hv⟩:=a0v hrel hs hk;split at hk
  ·rename_i hel;split at hk
   ·rename_i e' te l;obtain⟨h0,hn,hk⟩:=b4j hk;obtain⟨cs,fp,g1,g2⟩:=a6d hrel hv;obtain⟨av,n,cap,rfl,_,q1,q2,q3,q4,q5⟩:=g2;have hjn:j.toNat<l.length:=by omega
    rcases q5 with q5|⟨ad,cells,rfl,q6,q7,q8⟩
    ·subst q5;simp at hjn
    ·rw[a0h _ hjn] at hk;have hb:j.toNat*te.size+te.size≤n*te.size:=by rw[←AC];exact Ai _ (by omega)
     refine⟨_,a0c rfl hk,a2f (us:=[]) (fp:=[]) hrel' hdst hd (v:=.pointer (some ⟨ad.block,ad.off+j.toNat*te.size,none⟩)) (hrun0 _ ?_) ⟨rfl,_,_,rfl,q6,q7.sub hb,q8 _ hjn⟩ Ax (by simp) trivial⟩;rw[a0n rfl g1];exact a8f htab hel (by simp only[Ty.imm];rfl) q7.1 h0 (by omega) |>.trans (by rw[a1e])
   ·rename_i e' te l;obtain⟨p,t0,x0,cs,base,fp',cs0,ad,fs,hk,hix,hrp,k1,k2,k3,k4,k5,k6⟩:=d8n hrel hv hk;obtain⟨h0,hn,hk⟩:=b4j hk;obtain⟨av,n,cap,rfl,q1,q2,q3,q4,q5⟩:=k6;have hjn:j.toNat<l.length:=by omega
    rcases q5 with⟨_,q5,_⟩|⟨b,c,fps,rfl,q6,q7,q8,q9,q10⟩
    ·subst q5;simp at hjn
    ·rw[hrp] at hk;refine⟨_,a0c rfl hk,a2f (us:=[]) (fp:=[]) hrel' hdst hd (v:=.pointer (some ⟨b,j.toNat*te.size,none⟩)) (hrun0 _ ?_) rfl Ax (by simp) ?_⟩
     ·rw[a0n rfl k5];have:=a8f (w:=w) (cap:=cap) htab hel (e:=e') (te:=te.imm) rfl (ad:=⟨b,0,none⟩) rfl (kd:=kd) h0 (by omega:j<(n:Int));rw[this,a1e];simp
     ·refine⟨Ar _,Ar _,fun _ _=>?_⟩;exact⟨t0,cs,base,b4a k1,k2,.inl ⟨te,_,_,f6s hix k4 rfl rfl q6.blk q7 q2 h0 (by omega),_,rfl,rfl⟩⟩
   ·rename_i e' te l;obtain⟨p,t0,x0,cs,base,fp',cs0,ad,fs,hk,hix,hrp,k1,k2,k3,k4,k5,k6⟩:=d8n hrel hv hk;obtain⟨h0,hn,hk⟩:=b4j hk;obtain⟨b,n,cap,c,fps,rfl,q1,q2,q3,q4,q6,q7,q8,q9,q10⟩:=k6;rw[hrp] at hk;refine⟨_,a0c rfl hk,a2f (us:=[]) (fp:=[]) hrel' hdst hd (v:=.pointer (some ⟨b,j.toNat*te.size,none⟩)) (hrun0 _ ?_) rfl Ax (by simp) ?_⟩
    ·rw[a0n rfl k5];have:=a8f (w:=w) (cap:=cap) htab hel (e:=e') (te:=te.imm) rfl (ad:=⟨b,0,none⟩) rfl (kd:=kd) h0 (by omega:j<(n:Int));rw[this,a1e];simp
    ·refine⟨Ar _,Ar _,fun _ _=>?_⟩;exact⟨t0,cs,base,b4a k1,k2,.inl ⟨te,_,_,f6s hix k4 rfl rfl q6.blk q7 q2 h0 (by omega),_,rfl,rfl⟩⟩
   ·simp at hk
  ·simp at hk
theorem f1q(htab:a3c P C)(hrel:Rel A P C B e a w Z F [])(hs:Sub r e){d:Nat}(hdst:o.dst=some d)(hd:a4f C B d){tt:Nat}{x i:Operand}{ty:Nat}
  (hop:o.op=.index tt x i) {k:List Up→Option R} {res:R} (hk:sem C (.index tt x i) ty o.dst r k=some res) :
  ∃us,k us=some res∧Snd A P C B e a w us o:=by
 have hrel':Rel A P C B (e.app []) a w Z F []:=hrel;simp only[sem] at hk;rw[hdst] at hk;obtain⟨j,kd,hk,hji,hjl,hju⟩:=b5k hrel hs hk;have hrun0:∀v,(E9 tt (a.eval x) (.int kd j)).run P w=.ok v w→(execOp a.eval o).run P w=.ok (.value v) w:=by
  intro v hv;simp[execOp,hop,hji,hv]
 obtain⟨t,y,org,hk,hv⟩:=a0v hrel hs hk;obtain⟨cs,fp,g1,g2⟩:=a6d hrel hv;split at hk
 ·rename_i hel;split at hk
  ·rename_i l;obtain⟨h0,hn,hk⟩:=b4j hk;obtain⟨_,s,rfl,rfl,hsz⟩:=g2;have hjn:j.toNat<(a2c s).length:=by omega
   rw[a0h _ hjn] at hk;have hsn:j.toNat<s.size:=by simpa[a2c] using hjn
   have hb:(a2c s)[j.toNat]=((s[j.toNat]'hsn).toNat:Int):=by simp[a2c];rfl
   rw[hb] at hk;have hu:P.underlying tt=some .string:=by
    unfold elOK at hel;split at hel
    ·rename_i tc htc;have h0:=of_decide_eq_true hel;obtain⟨i,d,h1,h2,h3,h4,_⟩:=(htab _ _ htc).ex;cases tc <;> simp[Ty.imm] at h0;cases d <;> first|exact h2|exact h4.elim
    ·simp at hel
   refine⟨_,a0c rfl hk,a6m (us:=[]) hrel' hdst hd (v:=.int .u8 ((s[j.toNat]'hsn).toNat:Int)) (cs:=[.int .u8 ((s[j.toNat]'hsn).toNat:Int)]) (hrun0 _ ?_) (a1c rfl rfl (by simp)) ⟨rfl,rfl,by simp[FD,AX],?_⟩⟩
   ·rw[a0n rfl g1];simp[E9,asIntOf,An hu,h0,hsn]
   ·have:=(s[j.toNat]'hsn).toNat_lt;have hm:A6.max=255:=by decide
    have h5:((s[j.toNat]'hsn).toNat:Int)≤255:=by omega
    rw[hm];exact h5
  ·rename_i n te l;split at hk
   ·rename_i hag;obtain⟨h0,hn,hk⟩:=b4j hk;obtain⟨_,hpu,q1,q2,q3⟩:=g2;have hjn:j.toNat<l.length:=by omega
    rw[a0h _ hjn] at hk;have hre:=q3 _ hjn;obtain⟨v,hvc⟩:=c2j hre (by simp only[BR] at hag;exact hag.imp id a1p);refine⟨_,a0c rfl hk,a6m (us:=[]) hrel' hdst hd (v:=v) (hrun0 _ ?_) hvc hre⟩;obtain⟨el,te',h1,h2,h3⟩:=e3z htab hel;have hz:=(htab _ _ h2).sizeOf w;have hia:=(htab _ _ h2).isAgg w;have hva:a.eval x=.agg cs.toArray:=by
     have:=g1;unfold VC at this;simpa[Ty.agg] using this
    rw[hva];simp only[E9,asIntOf,AK,BJ,AI,An h1,if_pos (⟨h0,by omega⟩:0≤j∧j<(n:Int)),hz,part,hia,f6z h3,a3x h3];unfold VC at hvc;split at hvc
    ·rename_i ha;subst hvc;simp[ha,hz,a3x h3,seg]
    ·rename_i ha;obtain⟨hvc,_⟩:=hvc;simp[ha];have hs1:te.size=1:=by
      simp only[BR] at hag;rcases hag with h|h
      ·exact absurd h ha
      ·exact a1p h
     have:cs[j.toNat*te.size]?=some v:=by
      have h4:(seg cs (j.toNat*te.size) te.size)[0]?=some v:=by rw[hvc];rfl
      simpa[seg,hs1] using h4
     rw[this];rfl
   ·simp at hk
  ·simp at hk
 ·simp at hk
end Go.Rb

namespace Go.Rb
variable {A:Amb} {P:Program} {Z Z':Nat→Prop} {h h':Array Obj} {R:Type} {C:Ctx} {B:Base} {e:En} {a:Act} {w w':World} {F:Nat→List Nat} {X:List Nat} {r:Nat→Ent} {o:Oper}
theorem a5j(k:IntKind)(n:Int):k.min≤k.wrap n∧k.wrap n≤k.max:=by
 cases k <;> simp only[Bh,FD,IntKind.max,Bi,AX] <;> simp <;> (try split) <;> omega
theorem b0m{k:IntKind}{n:Int}(h1:k.min≤n)(h2:n≤k.max):VC (.int k) (.int k n) [.int k n]∧Rep A P (.int k) Z h [.int k n] n [] :=
 ⟨a1c rfl rfl (by simp),rfl,rfl,h1,h2⟩
theorem a1f{b:Bool}:VC .bool (.bool b) [.bool b]∧Rep A P .bool Z h [.bool b] b []:=⟨a1c rfl rfl (by simp),rfl,rfl⟩
theorem f7x{k:IntKind}{x y:Int}(h1:k.min≤x)(h2:x≤k.max):k.min≤x.tmod y∧x.tmod y≤k.max:=by
 have h0:k.min≤0∧0≤k.max:=by cases k <;> decide
 have key:∀z:Int,0≤z→0≤z.tmod y∧z.tmod y≤z:=by
  intro z hz;refine⟨Dl y hz,?_⟩;have h3:=Int.natAbs_tmod z y;have h4:=Nat.mod_le z.natAbs y.natAbs;have h5:=Dl y hz;omega
 rcases HV 0 x with hx|hx
 ·have:=key x hx;exact⟨by omega,by omega⟩
 ·have h4:=key (-x) (by omega);rw[Int.neg_tmod] at h4;exact⟨by omega,by omega⟩
theorem f9z{k:IntKind}{x:Int}{n:Nat}(h1:k.min≤x)(h2:x≤k.max):k.min≤x.fdiv (2 ^ n)∧x.fdiv (2 ^ n)≤k.max:=by
 have h0:k.min≤0∧0≤k.max:=by cases k <;> decide
 have hp:(0:Int)<2 ^ n:=Int.pow_pos (by omega);rw[Int.fdiv_eq_ediv_of_nonneg _ (by omega)];rcases HV 0 x with hx|hx
 ·have h3:=Int.ediv_nonneg hx (by omega:(0:Int)≤2 ^ n);have h4:x / 2 ^ n≤x:=Int.ediv_le_self _ hx;exact⟨by omega,by omega⟩
 ·have h3:x / 2 ^ n≤0:=by
   have:=Int.ediv_le_ediv hp hx;simpa using this
  have h4:x≤x / 2 ^ n:=by
   rw[Int.le_ediv_iff_mul_le hp];have:(1:Int)≤2 ^ n:=by omega
   have h5:x*2 ^ n≤x*1:=Int.mul_le_mul_of_nonpos_left hx this;omega
  exact⟨by omega,by omega⟩
theorem c9h{op:BinOp}{kd:IntKind}{x y:Int}(hop:op=.and∨op=.or∨op=.xor∨op=.andNot):(Op.intBits op kd x y).run P w=.ok (.int kd (bits op kd x y)) w:=by
 rcases hop with rfl|rfl|rfl|rfl <;> rfl
theorem e0r{op:BinOp}{kd kd':IntKind}{x y:Int}{T:TypeId}(hx1:kd.min≤x)(hx2:x≤kd.max)(hkk:kd=kd'∨c8h op=true){k:(t:Ty)→t.den→Option R}{res:R}(hk:e5j op kd x y k=some res) :
  ∃t z v cs,k t z=some res∧(∀w,(binOp op T (.int kd x) (.int kd' y)).run P w=.ok v w)∧VC t v cs∧Rep A P t Z h cs z []:=by
 unfold e5j at hk;split at hk
 case h_4 =>
  split at hk
  ·simp at hk
  ·rename_i hy;obtain rfl:kd=kd':=by simpa[c8h] using hkk
   exact⟨_,_,_,_,hk,fun w=>by simp[binOp,Op.intDiv,hy],(b0m (A:=A) (P:=P) (Z:=Z) (h:=h) (a5j _ _).1 (a5j _ _).2).1,(b0m (a5j _ _).1 (a5j _ _).2).2⟩
 case h_5 =>
  split at hk
  ·simp at hk
  ·rename_i hy;obtain rfl:kd=kd':=by simpa[c8h] using hkk
   have:=f7x (y:=y) hx1 hx2;exact⟨_,_,_,_,hk,fun w=>by simp[binOp,Op.intDiv,hy],(b0m (A:=A) (P:=P) (Z:=Z) (h:=h) this.1 this.2).1,(b0m this.1 this.2).2⟩
 case h_10 =>
  split at hk
  ·simp at hk
  ·rename_i hy;exact⟨_,_,_,_,hk,fun w=>by simp[binOp,Op.shift,hy],(b0m (A:=A) (P:=P) (Z:=Z) (h:=h) (a5j _ _).1 (a5j _ _).2).1,(b0m (a5j _ _).1 (a5j _ _).2).2⟩
 case h_11 =>
  split at hk
  ·simp at hk
  ·rename_i hy;have:=f9z (n:=min y.toNat kd.bits) hx1 hx2;exact⟨_,_,_,_,hk,fun w=>by simp[binOp,Op.shift,hy],(b0m (A:=A) (P:=P) (Z:=Z) (h:=h) this.1 this.2).1,(b0m this.1 this.2).2⟩
 all_goals
  obtain rfl:kd=kd':=by simpa[c8h] using hkk
 case h_1|h_2|h_3=>exact⟨_,_,_,_,hk,fun w=>by simp[binOp,Op.intArith],(b0m (A:=A) (P:=P) (Z:=Z) (h:=h) (a5j _ _).1 (a5j _ _).2).1,(b0m (a5j _ _).1 (a5j _ _).2).2⟩
 case h_6|h_7|h_8|h_9 =>
  exact⟨_,_,_,_,hk,fun w=>by simp only[binOp,ne_eq,not_true,if_false];exact c9h (by simp),(b0m (A:=A) (P:=P) (Z:=Z) (h:=h) (a5j _ _).1 (a5j _ _).2).1,(b0m (a5j _ _).1 (a5j _ _).2).2⟩
 case h_12=>exact⟨_,_,_,_,hk,fun w=>by simp only[binOp,ne_eq,not_true,if_false,FE];rfl,(a1f (A:=A) (P:=P) (Z:=Z) (h:=h)).1,a1f.2⟩
 case h_13=>exact⟨_,_,_,_,hk,fun w=>by simp only[binOp,ne_eq,not_true,if_false,FE];rfl,(a1f (A:=A) (P:=P) (Z:=Z) (h:=h)).1,a1f.2⟩
 all_goals exact⟨_,_,_,_,hk,fun w=>by simp only[binOp,ne_eq,not_true,if_false,FE];rfl,(a1f (A:=A) (P:=P) (Z:=Z) (h:=h)).1,a1f.2⟩
theorem d4r(a b:ByteArray):a2c (a++b)=a2c a++a2c b:=by
 unfold a2c;rw[ByteArray.data_append,Dm,List.map_append]
theorem a4h(a:ByteArray):(a2c a).length=a.size:=by
 unfold a2c;rw[Ce];rfl
theorem f6t{a b:UInt8}(h:(a.toNat:Int)=b.toNat):a=b:=UInt8.toNat_inj.1 (Int.ofNat.inj h)
theorem e5b{a b:ByteArray}(h:a2c a=a2c b):a=b:=by
 obtain⟨⟨x⟩⟩:=a;obtain⟨⟨y⟩⟩:=b;simp only[a2c] at h;have:x=y:=by
  induction x generalizing y with
  |nil=>cases y <;> simp_all
  |cons a x ih =>
   cases y with
   |nil=>simp at h
   |cons b y =>
    simp only[Bc,AG] at h;rw[f6t h.1,ih _ h.2]
 rw[this]
theorem c1z(a b:ByteArray):(a.toList==b.toList)=decide (a2c a=a2c b):=by
 by_cases h:a=b
 ·subst h;simp
 ·have h2:a2c a≠a2c b:=fun h'=>h (e5b h')
  have h3:a.toList≠b.toList:=by
   rw[Cp,Cp];intro h';apply h2;unfold a2c;rw[h']
  rw[decide_eq_false h2];exact beq_false_of_ne h3
theorem d2n:∀x y:List UInt8,EC x y=b3y (x.map fun b=>(b.toNat:Int)) (y.map fun b=>(b.toNat:Int))
 |x,[]=>by cases x <;> rfl
 |[],_::_=>rfl
 |a::x,b::y=>by
  simp only[EC,Bc,b3y,d2n x y];have h1:decide (a<b)=decide ((a.toNat:Int)<b.toNat):=by
   simp only[UInt8.lt_iff_toNat_lt,Int.ofNat_lt]
  have h2:(a==b)=decide ((a.toNat:Int)=b.toNat):=by
   by_cases h:a=b
   ·subst h;simp
   ·have:(a.toNat:Int)≠b.toNat:=fun h'=>h (f6t h')
    simp[h,this]
  rw[h1,h2]
theorem c6i(a b:ByteArray):EC a.toList b.toList=b3y (a2c a) (a2c b):=by
 rw[Cp,Cp,d2n];rfl
theorem c4y:∀x y:List Int,b3y y x=!(b3y x y||decide (x=y))
 |[],[]=>rfl
 |[],_::_=>rfl
 |_::_,[]=>rfl
 |a::x,b::y=>by
  simp only[b3y,c4y x y];rcases Int.lt_trichotomy a b with h|h|h
  ·have:¬b<a:=by omega
   have h2:¬b=a:=by omega
   simp[h,this,h2]
  ·subst h;simp
  ·have:¬a<b:=by omega
   have h2:¬a=b:=by omega
   simp[h,this,h2]
theorem e8q{s:ByteArray}(h1:s.size≤room):VC .str (.string s) [.string s]∧Rep A P .str Z h [.string s] (a2c s) [] :=
 ⟨a1c rfl rfl (by simp),rfl,s,rfl,rfl,h1⟩
theorem e1i{op:BinOp}{x y:ByteArray}{T:TypeId}{k:(t:Ty)→t.den→Option R}{res:R}(hk:e5e op (a2c x) (a2c y) k=some res) :
  ∃t z v cs,k t z=some res∧(∀w,(binOp op T (.string x) (.string y)).run P w=.ok v w)∧VC t v cs∧Rep A P t Z h cs z []:=by
 unfold e5e at hk;split at hk
 ·split at hk
  ·rename_i hl;simp only[a4h] at hl;rw[←d4r] at hk;have hsz:(x++y).size≤room:=by simp[ByteArray.size_append,room];omega
   have hm:Aa.max=9223372036854775807:=by decide
   have:¬(((x.size+y.size:Nat):Int)>Aa.max):=by rw[hm];omega
   exact⟨_,_,_,_,hk,fun w=>by simp only[binOp,C7];rw[if_neg this];rfl,(e8q (A:=A) (P:=P) (Z:=Z) (h:=h) hsz).1,(e8q hsz).2⟩
  ·simp at hk
 ·exact⟨_,_,_,_,hk,fun w=>by simp only[binOp,C7,c1z];rfl,(a1f (A:=A) (P:=P) (Z:=Z) (h:=h)).1,a1f.2⟩
 ·exact⟨_,_,_,_,hk,fun w=>by simp only[binOp,C7,c1z];rfl,(a1f (A:=A) (P:=P) (Z:=Z) (h:=h)).1,a1f.2⟩
 ·exact⟨_,_,_,_,hk,fun w=>by simp only[binOp,C7,c6i];rfl,(a1f (A:=A) (P:=P) (Z:=Z) (h:=h)).1,a1f.2⟩
 ·exact⟨_,_,_,_,hk,fun w=>by simp only[binOp,C7,c6i,c1z];rfl,(a1f (A:=A) (P:=P) (Z:=Z) (h:=h)).1,a1f.2⟩
 ·exact⟨_,_,_,_,hk,fun w=>by simp only[binOp,C7,c6i,c1z,c4y (a2c x) (a2c y)];rfl,(a1f (A:=A) (P:=P) (Z:=Z) (h:=h)).1,a1f.2⟩
 ·exact⟨_,_,_,_,hk,fun w=>by simp only[binOp,C7,c6i];rfl,(a1f (A:=A) (P:=P) (Z:=Z) (h:=h)).1,a1f.2⟩
 ·simp at hk
theorem d3r{t:TypeId}{ty:Ty}(ht:TyFact P C t ty){cs:List Value}{o:Nat}{v:Value}(hv:VC ty v (seg cs o ty.size)):(part t cs.toArray o).run P w=.ok v w:=by
 have hz:=ht.sizeOf w;have hia:=ht.isAgg w;unfold VC at hv;simp only[part,AK,hia,AI];split at hv
 ·rename_i ha;subst hv;simp[ha,hz,seg]
 ·rename_i ha;obtain⟨hv,_⟩:=hv;simp only[ha,AJ,if_false];have:(seg cs o ty.size)[0]?=some v:=by rw[hv];rfl
  have h1:cs[o]?=some v:=by
   simp only[seg,AV] at this;split at this
   ·simpa using this
   ·simp at this
  simp[h1]
theorem e7s{t:Ty}{v:Value}{cs:List Value}(hv:VC t v cs):(t.agg=true∧v=.agg cs.toArray)∨(t.agg=false∧cs=[v]):=by
 unfold VC at hv;split at hv
 ·exact .inl ⟨‹_›,hv⟩
 ·rename_i hn;exact .inr ⟨by simpa using hn,hv.1⟩
theorem f4p(htab:a3c P C):∀ty:Ty,(∀(T:TypeId) (d:Nat) (w:World) (v1 v2:Value) (c1 c2:List Value) (x y:ty.den) (b:Bool) (f1 f2:List Nat),C.ty T=some ty→ty.nest<d→ty.eqOK=true →
   VC ty v1 c1→VC ty v2 c2→Rep A P ty Z h c1 x f1→Rep A P ty Z h c2 y f2→ty.beq x y=some b→(Fo d T v1 v2).run P w=.ok b w) ∧
  (∀ (fs : List Field) (d : Nat) (w : World) (p1 p2 c1 c2 : List Value) (x y : ty.den) (b : Bool) (f1 f2 : List Nat), a8r C fs ty p1.length → p1.length = p2.length → ty.nest < d → ty.eqOK = true → (∀ f, f ∈ fs → f.name ≠ "_") →
   Rep A P ty Z h c1 x f1→Rep A P ty Z h c2 y f2→ty.beq x y=some b→(Im d (p1++c1).toArray (p2++c2).toArray fs).run P w=.ok b w):=by
 intro ty
 induction ty with
 |int kd =>
  refine⟨fun T d w v1 v2 c1 c2 x y b f1 f2 hT hd he hv1 hv2 hr1 hr2 hb=>?_,fun fs d w p1 p2 c1 c2 x y b f1 f2 hf=>by cases fs <;> exact hf.elim⟩;obtain⟨i,dd,h1,h2,h3,h4,_⟩:=(htab _ _ hT).ex;obtain⟨_,rfl,_⟩:=hr1;obtain⟨_,rfl,_⟩:=hr2;obtain rfl:=a0n rfl hv1;obtain rfl:=a0n rfl hv2;cases dd <;> first|exact h4.elim|skip
  obtain⟨d,rfl⟩:∃d',d=d'+1:=⟨d - 1,by omega⟩
  rw[run_equalIn_int w d T kd _ x y h2,←Ag hb];rfl
 |bool =>
  refine⟨fun T d w v1 v2 c1 c2 x y b f1 f2 hT hd he hv1 hv2 hr1 hr2 hb=>?_,fun fs d w p1 p2 c1 c2 x y b f1 f2 hf=>by cases fs <;> exact hf.elim⟩;obtain⟨i,dd,h1,h2,h3,h4,_⟩:=(htab _ _ hT).ex;obtain⟨_,rfl⟩:=hr1;obtain⟨_,rfl⟩:=hr2;obtain rfl:=a0n rfl hv1;obtain rfl:=a0n rfl hv2;cases dd <;> first|exact h4.elim|skip
  obtain⟨d,rfl⟩:∃d',d=d'+1:=⟨d - 1,by omega⟩
  rw[run_equalIn_bool' w d T x y h2,←Ag hb]
 |str =>
  refine⟨fun T d w v1 v2 c1 c2 x y b f1 f2 hT hd he hv1 hv2 hr1 hr2 hb=>?_,fun fs d w p1 p2 c1 c2 x y b f1 f2 hf=>by cases fs <;> exact hf.elim⟩;obtain⟨i,dd,h1,h2,h3,h4,_⟩:=(htab _ _ hT).ex;obtain⟨_,s1,rfl,rfl,_⟩:=hr1;obtain⟨_,s2,rfl,rfl,_⟩:=hr2;obtain rfl:=a0n rfl hv1;obtain rfl:=a0n rfl hv2;cases dd <;> first|exact h4.elim|skip
  obtain⟨d,rfl⟩:∃d',d=d'+1:=⟨d - 1,by omega⟩
  rw[run_equalIn_string w d T s1 s2 h2,←Ag hb,c1z]
 |st t ih =>
  refine⟨fun T d w v1 v2 c1 c2 x y b f1 f2 hT hd he hv1 hv2 hr1 hr2 hb=>?_,fun fs d w p1 p2 c1 c2 x y b f1 f2 hf=>by cases fs <;> exact hf.elim⟩;obtain⟨i,dd,h1,h2,h3,h4,_⟩:=(htab _ _ hT).ex;cases dd with
  |struct fs =>
   obtain⟨g1,g2,g3⟩:=(htab _ _ hT).eq he fs h2;obtain⟨d,rfl⟩:∃d',d=d'+1:=⟨d - 1,by omega⟩
   have hfs:P.fieldsOf T=fs:=by simp[Program.fieldsOf,h2]
   rcases e7s hv1 with⟨_,rfl⟩|⟨h,_⟩
   ·rcases e7s hv2 with⟨_,rfl⟩|⟨h,_⟩
    ·rw[run_equalIn_struct w d T _ _ (by rw[hfs];exact h2) g1,hfs];have:=ih.2 fs.toList d w [] [] c1 c2 x y b f1 f2 h4 rfl (by simp[Ty.nest] at hd;omega) he g3 hr1 hr2 hb;simpa using this
    ·simp[Ty.agg] at h
   ·simp[Ty.agg] at h
  |_=>exact h4.elim
 |pair a b iha ihb =>
  refine⟨fun T d w v1 v2 c1 c2 x y b f1 f2 hT hd he hv1 hv2 hr1 hr2 hb=>?_,?_⟩
  ·obtain⟨i,dd,h1,h2,h3,h4,_⟩:=(htab _ _ hT).ex;cases dd <;> exact h4.elim
  ·intro fs d w p1 p2 c1 c2 x y r f1 f2 hf hp hd he hn hr1 hr2 hb;cases fs with
   |nil=>exact hf.elim
   |cons f fs =>
    obtain⟨q1,q2,q3,q4⟩:=hf;obtain⟨a1,a2,g1,g2,rfl,rfl,u1,u2⟩:=hr1;obtain⟨b1,b2,g3,g4,rfl,rfl,u3,u4⟩:=hr2;simp only[Ty.eqOK,Af] at he;simp only[Ty.nest] at hd;have hle1:=a1j u1;have hle3:=a1j u3;have hnest:a.agg=true∨a.size=1:=by
     cases a <;> simp[Ty.agg,Ty.size,Ty.eqOK] at he q3 ⊢
     all_goals
      obtain⟨i,dd,h1,h2,h3,h4,_⟩:=(htab _ _ q2).ex;cases dd <;> exact h4.elim
    obtain⟨v1,hv1⟩:=c2j u1 hnest;obtain⟨v2,hv2⟩:=c2j u3 hnest;have hs1:seg (p1++(a1++a2)) f.offset a.size=a1:=by
     rw[q1,←hle1];simp[seg]
    have hs2:seg (p2++(b1++b2)) f.offset a.size=b1:=by
     rw[q1,hp,←hle3];simp[seg]
    have hb':∃r1 r2,a.beq x.1 y.1=some r1∧b.beq x.2 y.2=some r2∧r=(r1&&r2):=by
     cases b with
     |unit =>
      simp only[Ty.beq] at hb;exact⟨r,true,hb,rfl,by simp⟩
     |_ =>
      simp only[Ty.beq] at hb;split at hb
      ·rename_i r1 r2 e1 e2;exact⟨r1,r2,e1,e2,(Ag hb).symm⟩
      ·simp at hb
    obtain⟨r1,r2,e1,e2,rfl⟩:=hb';have h1:=iha.1 f.type d w v1 v2 a1 b1 x.1 y.1 r1 g1 g3 q2 (by omega) he.1 hv1 hv2 u1 u3 e1;have h2:=ihb.2 fs d w (p1++a1) (p2++b1) a2 b2 x.2 y.2 r2 g2 g4 (by simpa[hle1] using q4) (by simp[hp,hle1,hle3]) (by omega) he.2 (fun f hf=>hn f (by simp[hf])) u2 u4 e2;rw[Im,if_pos (hn f (by simp))];simp only[AK,d3r (htab _ _ q2) (w:=w) (by rw[hs1];exact hv1),d3r (htab _ _ q2) (w:=w) (by rw[hs2];exact hv2),AI,h1];cases r1
    ·simp
    ·simp only[Bool.not_true,AJ,if_false,Bool.true_and];simpa[Ae] using h2
 |unit =>
  refine⟨fun T d w v1 v2 c1 c2 x y b f1 f2 hT hd he hv1 hv2 hr1 hr2 hb=>?_,fun fs d w p1 p2 c1 c2 x y b f1 f2 hf hp hd he hn hr1 hr2 hb=>?_⟩
  ·obtain⟨i,dd,h1,h2,h3,h4,_⟩:=(htab _ _ hT).ex;cases dd <;> exact h4.elim
  ·cases fs with
   |nil=>rw[←Ag hb];rfl
   |cons=>exact hf.elim
 |_ =>
  refine⟨fun T d w v1 v2 c1 c2 x y b f1 f2 hT hd he=>by simp[Ty.eqOK] at he,fun fs d w p1 p2 c1 c2 x y b f1 f2 hf hp hd he=>by simp[Ty.eqOK] at he⟩
end Go.Rb

namespace Go.Rb
variable {A:Amb} {P:Program} {Z Z':Nat→Prop} {h h':Array Obj} {R:Type} {C:Ctx} {B:Base} {e:En} {a:Act} {w w':World} {F:Nat→List Nat} {X:List Nat} {r:Nat→Ent} {o:Oper}
theorem f2z{us:List Up}(hrel:Rel A P C B (e.app us) a w Z F X){d:Nat}(hdst:o.dst=some d)(hd:a4f C B d){b:Bool}(hrun:(execOp a.eval o).run P w=.ok (.value (.bool b)) w) :
  Snd A P C B e a w (us++[⟨d,.slot,.val .bool b⟩]) o :=
 a6m hrel hdst hd hrun (a1f (A:=A) (P:=P) (Z:=Z) (h:=w.heap)).1 a1f.2
theorem b2j{us:List Up}(hrel:Rel A P C B (e.app us) a w Z F X){d:Nat}(hdst:o.dst=some d)(hd:a4f C B d){kd:IntKind}{n:Int}(hrun:(execOp a.eval o).run P w=.ok (.value (.int kd n)) w)
  (h1:kd.min≤n) (h2:n≤kd.max):Snd A P C B e a w (us++[⟨d,.slot,.val (.int kd) n⟩]) o :=
 a6m hrel hdst hd hrun (b0m (A:=A) (P:=P) (Z:=Z) (h:=w.heap) h1 h2).1 (b0m h1 h2).2
theorem b3x{op:BinOp}{T:TypeId}{x y:Operand}{k:IntKind}{n:Int}{v:Value}:(eqGuard op T x y (.int k n) v).run P w=.ok () w:=by
 cases op <;> cases v <;> rfl
theorem b6v{op:BinOp}{T:TypeId}{x y:Operand}{b:Bool}{v:Value}:(eqGuard op T x y (.bool b) v).run P w=.ok () w:=by
 cases op <;> cases v <;> rfl
theorem c9y{op:BinOp}{T:TypeId}{x y:Operand}{b:ByteArray}{v:Value}:(eqGuard op T x y (.string b) v).run P w=.ok () w:=by
 cases op <;> cases v <;> rfl
theorem b7h{op:BinOp}{T:TypeId}{x y:Operand}{v:Value}(hy:isC y=true)(hv:∀a,v≠.agg a):(eqGuard op T x y v .nilIface).run P w=.ok () w:=by
 cases y <;> first|(simp[isC] at hy;done)|skip
 cases op <;> cases v <;> first|rfl|(simp[eqGuard];done)
theorem d0g{T:TypeId}{ms:Array (String×TypeId)}(h:P.underlying T=some (.interface ms)):∀{v:Value} {b:Bool},((v=.nilIface∧b=true)∨(∃t x,v=.iface t x)∧b=false) →
  (∀w,(binOp .eql T v .nilIface).run P w=.ok (.bool b) w)∧∀w,(binOp .neq T v .nilIface).run P w=.ok (.bool (!b)) w:=by
 have h':P.underlying T=some (.interface (P.methodsAt T)):=by simp[Program.methodsAt,h]
 rintro v b (⟨rfl,rfl⟩|⟨⟨t,x,rfl⟩,rfl⟩)
 ·exact⟨fun w=>run_eql_nil_nil w T h',fun w=>run_neq_nil_nil w T h'⟩
 ·exact⟨fun w=>run_eql_held_nil w T t x h',fun w=>run_neq_held_nil w T t x h'⟩
theorem e6a(htab:a3c P C){op:BinOp}{T:TypeId}{ox oy:Operand}{t t':Ty}{x:t.den}{y:t'.den}{vx vy:Value}{cx cy:List Value}{fx fy:List Nat}
  (hx1:VC t vx cx) (hx2:Rep A P t Z h cx x fx) (hy1:VC t' vy cy) (hy2:Rep A P t' Z h cy y fy) {k:(t:Ty)→t.den→Option R} {res:R} (hk:binK C op T (isC oy) t x t' y k=some res) :
  ∃t2 z v cs,k t2 z=some res∧(∀w,(do eqGuard op T ox oy vx vy;binOp op T vx vy:Sem Value).run P w=.ok v w)∧VC t2 v cs∧Rep A P t2 Z h cs z []:=by
 unfold binK at hk;split at hk
 ·obtain⟨_,rfl,q1,q2⟩:=hx2;obtain⟨_,rfl,q3,q4⟩:=hy2;obtain rfl:=a0n rfl hx1;obtain rfl:=a0n rfl hy1;split at hk
  ·rename_i hb;obtain⟨t2,z,v,cs,g1,g2,g3,g4⟩:=e0r (A:=A) (P:=P) (Z:=Z) (h:=h) (T:=T) q1 q2 (by simpa using hb) hk;exact⟨t2,z,v,cs,g1,fun w=>by rw[AK,b3x];exact g2 w,g3,g4⟩
  ·simp at hk
 ·obtain⟨_,s1,rfl,rfl,_⟩:=hx2;obtain⟨_,s2,rfl,rfl,_⟩:=hy2;obtain rfl:=a0n rfl hx1;obtain rfl:=a0n rfl hy1;obtain⟨t2,z,v,cs,g1,g2,g3,g4⟩:=e1i (A:=A) (P:=P) (Z:=Z) (h:=h) (T:=T) hk;exact⟨t2,z,v,cs,g1,fun w=>by rw[AK,c9y];exact g2 w,g3,g4⟩
 ·obtain⟨_,rfl⟩:=hx2;obtain⟨_,rfl⟩:=hy2;obtain rfl:=a0n rfl hx1;obtain rfl:=a0n rfl hy1;split at hk
  ·rename_i hT;obtain⟨i,dd,h1,h2,h3,h4,_⟩:=(htab _ _ hT).ex;have hu:P.underlying T=some .bool:=by cases dd <;> first|exact h2|exact h4.elim
   split at hk
   ·exact⟨_,_,_,_,hk,fun w=>by rw[AK,b6v];exact run_eql_bool w T _ _ hu,(a1f (A:=A) (P:=P) (Z:=Z) (h:=h)).1,a1f.2⟩
   ·exact⟨_,_,_,_,hk,fun w=>by rw[AK,b6v];exact run_neq_bool w T _ _ hu,(a1f (A:=A) (P:=P) (Z:=Z) (h:=h)).1,a1f.2⟩
   ·simp at hk
  ·simp at hk
 ·split at hk
  ·rename_i x _ _ _ hT hcon;obtain⟨i,dd,h1,h2,h3,h4,_⟩:=(htab _ _ hT).ex;obtain⟨ms,hu⟩:∃ms,P.underlying T=some (.interface ms):=by cases dd <;> first|exact⟨_,h2⟩|exact h4.elim
   obtain⟨_,q1,v1,rfl,q2,q3⟩:=hx2;obtain⟨_,rfl,_⟩:=hy2;obtain rfl:=a0n rfl hx1;obtain rfl:=a0n rfl hy1;have key:(∀w,(binOp .eql T vx .nilIface).run P w=.ok (.bool (decide (x=UV.nil))) w)∧∀w,(binOp .neq T vx .nilIface).run P w=.ok (.bool (!decide (x=UV.nil))) w:=by
    refine d0g hu ?_;cases x with
    |nil=>exact .inl ⟨by simpa[RepC] using q1,by simp⟩
    |sent g =>
     obtain⟨T',a,q1,_⟩:=q1;exact .inr ⟨⟨T',_,by simpa using q1⟩,by simp⟩
    |node t p =>
     obtain⟨v',q1,_⟩:=q1;exact .inr ⟨⟨t,v',by simpa using q1⟩,by simp⟩
    |_=>simp[UV.top] at q3
   split at hk
   ·exact⟨_,_,_,_,hk,fun w=>by rw[AK,b7h hcon q2];exact key.1 w,(a1f (A:=A) (P:=P) (Z:=Z) (h:=h)).1,a1f.2⟩
   ·exact⟨_,_,_,_,hk,fun w=>by rw[AK,b7h hcon q2];exact key.2 w,(a1f (A:=A) (P:=P) (Z:=Z) (h:=h)).1,a1f.2⟩
   ·simp at hk
  ·simp at hk
 ·rename_i t x t' y;split at hk
  ·rename_i t1 hT;split at hk
   ·rename_i hb;simp only[Af] at hb;obtain⟨⟨hb1,hb2⟩,hb3⟩:=hb;obtain rfl:=of_decide_eq_true hb1;have hn:t.nest<9000:=by simpa[In] using hb2
    obtain⟨he,y',hyy,hk⟩:=b0y hk;obtain rfl:t'=t:=by simpa using he
    obtain rfl:=eq_of_heq hyy;split at hk
    ·rename_i b hbeq;obtain⟨i,dd,h1,h2,h3,h4,_⟩:=(htab _ _ hT).ex;obtain⟨fs,hu⟩:∃fs,P.underlying T=some (.struct fs):=by cases dd <;> first|exact⟨_,h2⟩|exact h4.elim
     obtain⟨g1,g2,g3⟩:=(htab _ _ hT).eq hb3 fs hu;have:=fun w=>(f4p (A:=A) (Z:=Z) (h:=h) htab (.st t')).1 T 10000 w vx vy cx cy x y b fx fy hT (by simp only[Ty.nest];omega) hb3 hx1 hy1 hx2 hy2 hbeq
     rcases e7s hx1 with⟨_,rfl⟩|⟨h,_⟩
     ·rcases e7s hy1 with⟨_,rfl⟩|⟨h,_⟩
      ·split at hk
       ·exact⟨_,_,_,_,hk,fun w=>by rw[AK,If _ _ _ _ _ _ _ g2,AI,run_eql_struct,this,AI],(a1f (A:=A) (P:=P) (Z:=Z) (h:=h)).1,a1f.2⟩
       ·exact⟨_,_,_,_,hk,fun w=>by rw[AK,If _ _ _ _ _ _ _ g2,AI,run_neq_struct,this,AI],(a1f (A:=A) (P:=P) (Z:=Z) (h:=h)).1,a1f.2⟩
       ·simp at hk
      ·simp[Ty.agg] at h
     ·simp[Ty.agg] at h
    ·simp at hk
   ·simp at hk
  ·simp at hk
 ·simp at hk
theorem c2o{T el:TypeId}(hu:P.underlying T=some (.slice el))(b:Option Addr)(n c:Nat):(Op.equal T (.slice b n c) (.slice none 0 0)).run P w=.ok b.isNone w:=by
 have key:∀d,(Fo (d+1) T (.slice b n c) (.slice none 0 0)).run P w=.ok b.isNone w:=by
  intro d;unfold Fo;cases b <;> simp[An hu]
 exact key 9999
theorem f0s(htab:a3c P C)(hrel:Rel A P C B e a w Z F [])(hs:Sub r e){d:Nat}(hdst:o.dst=some d)(hd:a4f C B d){op:BinOp}{T:TypeId}{x y:Operand}{yt ty:Nat}
  (hop:o.op=.binOp op T x y yt) {k:List Up→Option R} {res:R} (hk:sem C (.binOp op T x y yt) ty o.dst r k=some res) :
  ∃us,k us=some res∧Snd A P C B e a w us o:=by
 have hrel':Rel A P C B (e.app []) a w Z F []:=hrel;simp only[sem] at hk;rw[hdst] at hk;split at hk
 ·rename_i hny;have hy:a.eval y=.slice none 0 0:=by
   unfold f5z at hny;split at hny
   ·rfl
   ·cases hny
  split at hk
  ·rename_i m e0 t0 hT;obtain⟨i,dd,h1,h2,h3,h4,_⟩:=(htab _ _ hT).ex;obtain⟨el,u1⟩:∃el,P.underlying T=some (.slice el):=by cases dd <;> first|exact⟨_,h2⟩|exact h4.elim
   obtain⟨t,u,org,hk,hv⟩:=a0v hrel hs hk;obtain⟨cs,fp,g1,g2⟩:=a6d hrel hv;have hcase:∀l:List Int,f1w Z w.heap .nlb cs l→∀ax,VC (.lf .nlb) ax cs→(Op.equal T ax (.slice none 0 0)).run P w=.ok (decide (l=[])) w∧∃a0 n0 c0,ax=.slice a0 n0 c0:=by
    intro l hl ax hax;rcases hl with⟨rfl,rfl⟩|⟨hne,ad,cap,_,_,_,rfl,_⟩
    ·obtain rfl:=a0n rfl hax;exact⟨by rw[c2o u1];simp,_,_,_,rfl⟩
    ·obtain rfl:=a0n rfl hax;exact⟨by rw[c2o u1];simp[hne],_,_,_,rfl⟩
   unfold f0u at hk;split at hk
   ·obtain⟨q1,a0,n0,c0,q2⟩:=hcase _ g2.2 _ g1;refine⟨_,a0c rfl hk,a6m (us:=[]) hrel' hdst hd (v:=.bool _) ?_ (a1f (A:=A) (P:=P) (Z:=Z) (h:=w.heap)).1 a1f.2⟩;rw[q2] at q1;simp[execOp,hop,hy,q2,eqGuard,binOp,q1]
   ·obtain⟨q1,a0,n0,c0,q2⟩:=hcase _ g2.2 _ g1;refine⟨_,a0c rfl hk,a6m (us:=[]) hrel' hdst hd (v:=.bool _) ?_ (a1f (A:=A) (P:=P) (Z:=Z) (h:=w.heap)).1 a1f.2⟩;rw[q2] at q1;simp[execOp,hop,hy,q2,eqGuard,binOp,q1]
   ·cases hk
  ·cases hk
 obtain⟨t,u,org,hk,hv⟩:=a0v hrel hs hk;obtain⟨cs,fp,g1,g2⟩:=a6d hrel hv;obtain⟨t',u',org',hk,hv'⟩:=a0v hrel hs hk;obtain⟨cs',fp',g1',g2'⟩:=a6d hrel hv';obtain⟨t2,z,v,cz,q1,q2,q3,q4⟩:=e6a (ox:=x) htab g1 g2 g1' g2' hk;refine⟨_,a0c rfl q1,a6m (us:=[]) hrel' hdst hd (v:=v) ?_ q3 q4⟩;have:=q2 w;rw[AK] at this;simp only[execOp,hop,AK];rw[this];rfl
theorem f3b(hrel:Rel A P C B e a w Z F [])(hs:Sub r e){d:Nat}(hdst:o.dst=some d)(hd:a4f C B d){op:UnOp}{T:TypeId}{x:Operand}{ty:Nat}
  (hop:o.op=.unOp op T x) {k:List Up→Option R} {res:R} (hk:sem C (.unOp op T x) ty o.dst r k=some res) :
  ∃us,k us=some res∧Snd A P C B e a w us o:=by
 have hrel':Rel A P C B (e.app []) a w Z F []:=hrel;simp only[sem] at hk;rw[hdst] at hk;obtain⟨t,u,org,hk,hv⟩:=a0v hrel hs hk;obtain⟨cs,fp,g1,g2⟩:=a6d hrel hv;have key:∀v,(Op.unary op (a.eval x)).run P w=.ok v w→(execOp a.eval o).run P w=.ok (.value v) w:=by
  intro v hv;simp[execOp,hop,hv]
 unfold unK at hk;split at hk
 ·obtain⟨_,rfl⟩:=g2;have:=a0n rfl g1;exact⟨_,a0c rfl hk,f2z (us:=[]) hrel' hdst hd (key _ (by rw[this];rfl))⟩
 ·obtain⟨_,rfl,_⟩:=g2;have:=a0n rfl g1;exact⟨_,a0c rfl hk,b2j (us:=[]) hrel' hdst hd (key _ (by rw[this];rfl)) (a5j _ _).1 (a5j _ _).2⟩
 ·obtain⟨_,rfl,_⟩:=g2;have:=a0n rfl g1;exact⟨_,a0c rfl hk,b2j (us:=[]) hrel' hdst hd (key _ (by rw[this];exact c9h (.inr (.inr (.inl rfl))))) (a5j _ _).1 (a5j _ _).2⟩
 ·simp at hk
end Go.Rb

namespace Go.Rb
variable {A:Amb} {P:Program} {Z Z':Nat→Prop} {h h':Array Obj} {R:Type} {C:Ctx} {B:Base} {e:En} {a:Act} {w w':World} {F:Nat→List Nat} {X:List Nat} {r:Nat→Ent} {o:Oper}
theorem a3g(hrel:Rel A P C B e a w Z F X):Rel A P C B (e.app []) a w Z F X:=hrel
theorem f4d(hrel:Rel A P C B e a w Z F [])(hs:Sub r e){d:Nat}(hdst:o.dst=some d)(hd:a4f C B d){c x y:Operand}{ty:Nat}
  (hop:o.op=.pick c x y) {k:List Up→Option R} {res:R} (hk:sem C (.pick c x y) ty o.dst r k=some res) :
  ∃us,k us=some res∧Snd A P C B e a w us o:=by
 simp only[sem] at hk;rw[hdst] at hk;obtain⟨t,u,org,hk,hv⟩:=a0v hrel hs hk;obtain⟨cs,fp,g1,g2⟩:=a6d hrel hv;have key:∀z:Operand,(execOp a.eval o).run P w=.ok (.value (a.eval z)) w→sem.pickK (some d) r k z=some res→∃us,k us=some res∧Snd A P C B e a w us o:=by
  intro z hrun hk;unfold sem.pickK at hk;obtain⟨t',u',org',hk,hv'⟩:=a0v hrel hs hk;obtain⟨cs',fp',g1',g2'⟩:=a6d hrel hv';split at hk
  ·rename_i hp;rw[a1y g2' hp] at g2';exact⟨_,a0c rfl hk,a6m (us:=[]) (a3g hrel) hdst hd hrun g1' g2'⟩
  ·simp at hk
 split at hk
 ·rename_i b;obtain⟨_,rfl⟩:=g2;have hc:=a0n rfl g1;split at hk
  ·rename_i hb;exact key x (by simp[execOp,hop,hc,hb,asBool]) hk
  ·rename_i hb;exact key y (by simp[execOp,hop,hc,hb,asBool]) hk
 ·simp at hk
theorem d7w(hrel:Rel A P C B e a w Z F [])(hs:Sub r e){d:Nat}(hdst:o.dst=some d)(hd:a4f C B d){x:Operand}{ty:Nat}
  (hop:o.op=.nilCheck x) {k:List Up→Option R} {res:R} (hk:sem C (.nilCheck x) ty o.dst r k=some res) :
  ∃us,k us=some res∧Snd A P C B e a w us o:=by
 simp only[sem] at hk;rw[hdst] at hk;have hrun:∀{ad:Addr},a.eval x=.pointer (some ad)→(execOp a.eval o).run P w=.ok (.value (a.eval x)) w:=by
  intro ad hx;simp[execOp,hop,hx]
 split at hk
 ·rename_i i;split at hk
  ·rename_i t y hi;have hie:=a3r hs hi (by simp);have hi':(e.get i).s=.box t y:=by rw[←hie];exact hi
   have ho:=hrel.own i;rw[hi'] at ho;obtain⟨b,c,fp',h1,_⟩:=ho;rw[hie] at hk;exact⟨_,a0c rfl hk,a2f (us:=[]) (fp:=[]) (a3g hrel) hdst hd (hrun (ad:=⟨b,0,none⟩) h1) rfl Ax (by simp) (b4v hrel hi')⟩
  ·rename_i p v c hi;have hie:=a3r hs hi (by simp);have hi':(e.get i).s=.ptr p v c:=by rw[←hie];exact hi
   have ho:=hrel.own i;have hr:=hrel.ref i;rw[hi'] at ho hr;rcases a9y hrel hs hk with⟨t,y,hk,_⟩|⟨p',v',c',t,y,hk,hl⟩
   ·simp at hk
   ·obtain⟨t0,x0,cs,base,fp',cs0,ad,fs,fr,_,_,_,_,_,_,_,_,g9⟩:=b4h hrel hl;exact⟨_,a0c rfl hk,a2f (us:=[]) (fp:=[]) (a3g hrel) hdst hd (hrun (ad:=ad) g9) rfl Ax (by simp) hr⟩
  ·rename_i t y hi;have hie:=a3r hs hi (by simp);have ho:=hrel.own i;rw[←hie,hi] at ho;obtain⟨h0,ad,cs,h1,h2,h3,h4⟩:=ho;exact⟨_,a0c rfl hk,a2f (us:=[]) (fp:=[]) (a3g hrel) hdst hd (hrun (ad:=ad) h1) ⟨rfl,ad,cs,h1,h2,h3,h4⟩ Ax (by simp) trivial⟩
  ·simp at hk
 ·simp at hk
theorem e9h{us:List Up}(hrel:Rel A P C B (e.app us) a w Z F X){d:Nat}(hdst:o.dst=some d)(hd:a4f C B d){t:Ty}{y:t.den}{cells:Array Value}{fs:List Nat}
  (hrun:(execOp a.eval o).run P w=.ok (.value (.pointer (some ⟨w.heap.size,0,none⟩))) w') (hos:w'.os=w.os) (hout:w'.output=w.output) (htape:w'.tape=w.tape)
  (hsz:w'.heap.size=w.heap.size+1) (hh:∀b,b<w.heap.size→w'.heap[b]?=w.heap[b]?) (hb:Blk w'.heap w.heap.size cells)
  (hr:Rep A P t Z w.heap cells.toList y fs) (hX:X=fs++[]):Snd A P C B e a w (us++[⟨d,.slot,.box t y⟩]) o:=by
 rw[A9] at hX;subst hX;have hn:w.heap.size∉X:=fun hm=>by have:=hrel.xb _ hm;omega
 refine b5p (fp:=w.heap.size::X) hrel hdst hd hrun (by omega) hos hout htape (fun b hb _=>hh b hb) ⟨w.heap.size,cells,X,rfl,hb,rfl,?_⟩ (AO.2 ⟨hn,hrel.xnodup⟩) ?_ trivial
 ·exact a0g hr (fun b=>id) fun b hb=>hh b (hb.elim (hrel.zb b) (hrel.xb b))
 ·intro b hb;rcases A3.1 hb with rfl|hb
  ·exact .inr (Ar _)
  ·exact .inl hb
theorem c6y{v:Value}{cs:List Value}{t:Ty}(hv:VC t v cs):v.cells.toList=cs:=a6t hv
theorem f0q(htab:a3c P C)(hrel:Rel A P C B e a w Z F []){d:Nat}(hdst:o.dst=some d)(hd:a4f C B d){T ty:Nat}
  (hop:o.op=.alloc T) {k:List Up→Option R} {res:R} (hk:sem C (.alloc T) ty o.dst r k=some res) :
  ∃us,k us=some res∧Snd A P C B e a w us o:=by
 simp only[sem] at hk;rw[hdst] at hk;split at hk
 ·rename_i t ht;split at hk
  ·rename_i z hz;obtain⟨v,g1,g2⟩:=e3m (htab _ _ ht) hz;obtain⟨w',q1,q2,q3,q4,q5,q6,q7⟩:=a4m (P:=P) (w:=w) T v.cells;refine⟨_,a0c rfl hk,e9h (us:=[]) (a3g hrel) hdst hd (cells:=v.cells) (fs:=[]) ?_ q2 q3 q4 q5 q6 q7.blk ?_ rfl⟩
   ·simp[execOp,hop,Instr.alloc,g2,newVar,q1]
   ·rw[c6y g1];have:=a7e hz;exact a6f this
  ·simp at hk
 ·simp at hk
theorem f9j(htab:a3c P C)(hft:FtOK A P C)(hrel:Rel A P C B e a w Z F [])(hs:Sub r e){d:Nat}(hdst:o.dst=some d)(hd:a4f C B d){T ty:Nat}{x:Operand}
  (hop:o.op=.box T x) {k:List Up→Option R} {res:R} (hk:sem C (.box T x) ty o.dst r k=some res) :
  ∃us,k us=some res∧Snd A P C B e a w us o:=by
 simp only[sem] at hk;rw[hdst] at hk;obtain⟨w',q1,q2,q3,q4,q5,q6,q7⟩:=a4m (P:=P) (w:=w) T (a.eval x).cells;have hrun:(execOp a.eval o).run P w=.ok (.value (.pointer (some ⟨w.heap.size,0,none⟩))) w':=by simp[execOp,hop,Instr.box,newVar,q1]
 split at hk
 ·split at hk
  ·rename_i t ht;obtain⟨y,us,hk,⟨Z',F',fs,cs,g1,g2,g3,g4⟩,_⟩:=a9b hft hrel hs hk;obtain rfl:=a1y g4 (b9b t);refine⟨_,a0c rfl hk,?_⟩;intro next Q hnext;unfold Ch;rw[hrun,C6,hdst];refine hnext _ _ (fun b=>Z' b∨b=w.heap.size) (setF F' d []) ?_;rw[a2b];have hc:=c6y g3;have hlen:=a1j g4;refine g1.dst hd (Y:=[]) (X':=[]) (by simp) (by omega) q2 q3 q4 (fun b hb _=>q6 b hb) (fun b=>.inl) (fun b hb=>hb.elim .inl fun h=>.inr (.inr (BH h.symm))) (fun b hb=>?_)
    ⟨rfl,⟨w.heap.size,0,none⟩,cs,rfl,.inr rfl,?_,?_⟩ Ax (by simp) (by simp) trivial
   ·rcases hb with hb|rfl
    ·have:=g1.zb b hb;omega
    ·omega
   ·have:=q7.row (n:=t.imm.size) (by rw[←hlen,←hc];simp);rwa [hc,Co (by omega)] at this
   ·exact a0g g4 (fun b=>.inl) fun b hb=>q6 b (hb.elim (g1.zb b) (by simp))
  ·simp at hk
 ·obtain⟨t,y,us,hk,⟨Z',F',fs,cs,g1,g2,g3,g4⟩,_⟩:=b8u hrel hs hk;exact⟨_,a0c rfl hk,e9h g1 hdst hd hrun q2 q3 q4 q5 q6 q7.blk (by rw[c6y g3];exact g4) rfl⟩
end Go.Rb

namespace Go.Rb
variable {A:Amb} {P:Program} {Z Z':Nat→Prop} {h h':Array Obj} {R:Type} {C:Ctx} {B:Base} {e:En} {a:Act} {w w':World} {F:Nat→List Nat} {X:List Nat} {r:Nat→Ent} {o:Oper}
theorem f0a(htab:a3c P C)(hrel:Rel A P C B e a w Z F [])(hs:Sub r e){d:Nat}(hdst:o.dst=some d)(hd:a4f C B d){T f:Nat}{x:Operand}{ty:Nat}
  (hop:o.op=.field T x f) {k:List Up→Option R} {res:R} (hk:sem C (.field T x f) ty o.dst r k=some res) :
  ∃us,k us=some res∧Snd A P C B e a w us o:=by
 simp only[sem] at hk;rw[hdst] at hk;obtain⟨t,u,org,hk,hv⟩:=a0v hrel hs hk;obtain⟨cs,fp,g1,g2⟩:=a6d hrel hv;split at hk
 ·rename_i hlay;split at hk
  ·rename_i t u;obtain⟨oc,ti,hc⟩:=c6p hk;obtain⟨y0,fs',fr',q1,q2,q3,q4,q5⟩:=b7p (t:=t) (x:=u) hc g2;rw[q1] at hk;split at hk
   ·rename_i hag hp;obtain⟨fs,fd,ti',h1,h2,h3,h4,h5,h6⟩:=d6y htab hlay hc;obtain rfl:=a1y q3 hp;obtain⟨v,hv'⟩:=c2j q3 (by simpa[BR] using hag);refine⟨_,a0c rfl hk,a6m (us:=[]) (a3g hrel) hdst hd (v:=v) ?_ hv' q3⟩;rcases e7s g1 with⟨_,hagg⟩|⟨hh,_⟩
    ·have:=d3r (P:=P) (htab _ _ h4) (w:=w) (cs:=cs) (o:=oc) (v:=v) (by rw[a3x h5];exact b0c h5.symm hv');simp[execOp,hop,Instr.field,An h1,h2,hagg,asAgg,h3,this]
    ·simp[Ty.agg] at hh
   ·simp at hk
  ·simp at hk
 ·simp at hk
theorem e0s(hrel:Rel A P C B e a w Z F [])(hs:Sub r e){d:Nat}(hdst:o.dst=some d)(hd:a4f C B d){i:Nat}{x:Operand}{ty:Nat}
  (hop:o.op=.extract x i) {k:List Up→Option R} {res:R} (hk:sem C (.extract x i) ty o.dst r k=some res) :
  ∃us,k us=some res∧Snd A P C B e a w us o:=by
 simp only[sem] at hk;rw[hdst] at hk;split at hk
 ·rename_i s;split at hk
  ·rename_i l hl;have hie:=a3r hs hl (by simp);have hl':(e.get s).s=.tup l:=by rw[←hie];exact hl
   have ho:=hrel.own s;rw[hl'] at ho;obtain⟨vs,fps,h1,h2,h3,h4,h5⟩:=ho;split at hk
   ·simp at hk
   ·rename_i t y hnu hget;obtain⟨hi,hget'⟩:=List.getElem?_eq_some_iff.1 hget;have h6:=h5 i hi;rw[hget'] at h6;rcases h6 with⟨h6,_⟩|⟨cs,g1,g2⟩
    ·subst h6;exact(hnu y rfl HEq.rfl).elim
    have hvi:i<vs.size:=by omega
    have hrun:(execOp a.eval o).run P w=.ok (.value (vs.getD i undef)) w:=by
     simp[execOp,hop,Instr.extract,a5s,h1,hvi]
    split at hk
    ·rename_i hp;rw[a1y g2 hp] at g2;exact⟨_,a0c rfl hk,a6m (us:=[]) (a3g hrel) hdst hd hrun g1 g2⟩
    ·have hnd:=hrel.nodup s;rw[h4] at hnd;have hif:i<fps.length:=by omega
     have hsplit:=a8v hif;have hgd:fps.getD i []=fps[i]:=a0h _ hif;rw[hgd] at g2;have hnd2:=hsplit.nodup_iff.1 hnd;have hsub:∀b,b∈(fps.set i []).flatten++fps[i]→b∈F s:=fun b hb=>by rw[h4];exact hsplit.mem_iff.2 hb
     have hr2:Rel A P C B (e.app [⟨s,.slot,.tup (l.set i ⟨.unit,()⟩)⟩]) a w Z (setF F s (fps.set i []).flatten) fps[i]:=by
      refine hrel.root (w':=w) (X':=fps[i]) rfl rfl rfl rfl (fun _ _ _=>rfl) (fun b=>id) (fun b=>.inl) ?_ hnd2 (fun b hb=>.inl (hsub b hb)) (fun b hb=>hrel.notZ s b (hsub b hb)) trivial ?_
      ·refine⟨vs,fps.set i [],h1,by simpa using h2,by simpa using h3,rfl,fun j hj=>?_⟩;have hj':j<l.length:=by simpa using hj
       by_cases hij:i=j
       ·subst hij;left;simp[hif]
       ·have h7:=h5 j hj';rw[CD hij];have:(fps.set i []).getD j []=fps.getD j []:=by simp[BC,C4 hij]
        rw[this];exact h7
      ·intro j hj;refine a9o (F:=F) hrel.own (hrel.ref j) (fun _ _ _ _ _ _=>rfl) fun q=>?_
       rw[a0j];by_cases hq:s=q
       ·subst hq;right;simp[Ent.bump]
       ·left;rw[if_neg hq];exact⟨rfl,rfl,fun _ _=>rfl⟩
     refine⟨_,a0c rfl hk,?_⟩;exact a2f (us:=[⟨s,.slot,.tup (l.set i ⟨.unit,()⟩)⟩]) hr2 hdst hd hrun ⟨cs,g1,g2⟩ (Ak.1 hnd2).2.1 (fun b hb=>hb) trivial
   ·simp at hk
  ·simp at hk
 ·simp at hk
theorem f4j:∀{t:Ty} {y:t.den} {u:UV} {cs:List Value} {fp:List Nat},toUV t y=some u→Rep A P t Z h cs y fp→RepC A u cs:=by
 intro t
 induction t with
 |int k=>intro y u cs fp hu hr;obtain⟨_,rfl,_⟩:=hr;obtain rfl:=Ag hu;rfl
 |bool=>intro y u cs fp hu hr;obtain⟨_,rfl⟩:=hr;obtain rfl:=Ag hu;rfl
 |str=>intro y u cs fp hu hr;obtain⟨_,s,rfl,h1,_⟩:=hr;obtain rfl:=Ag hu;exact⟨s,rfl,h1⟩
 |err=>intro y u cs fp hu hr;obtain⟨_,h1,_⟩:=hr;obtain rfl:=Ag hu;exact h1
 |unit=>intro y u cs fp hu hr;obtain⟨rfl,_⟩:=hr;obtain rfl:=Ag hu;rfl
 |st t ih=>intro y u cs fp hu hr;exact ih hu hr
 |pair a b iha ihb =>
  intro y u cs fp hu hr;obtain⟨c1,c2,f1,f2,rfl,_,h1,h2⟩:=hr;simp only[toUV] at hu;split at hu
  ·rename_i p q hp hq;obtain rfl:=Ag hu;exact⟨c1,c2,rfl,iha hp h1,ihb hq h2⟩
  ·simp at hu
 |_=>intro y u cs fp hu hr;simp[toUV] at hu
theorem c3j(htab:a3c P C)(hrel:Rel A P C B e a w Z F [])(hs:Sub r e){d:Nat}(hdst:o.dst=some d)(hd:a4f C B d){T:Nat}{x:Operand}{ty:Nat}
  (hop:o.op=.makeInterface T x) {k:List Up→Option R} {res:R} (hk:sem C (.makeInterface T x) ty o.dst r k=some res) :
  ∃us,k us=some res∧Snd A P C B e a w us o:=by
 simp only[sem] at hk;rw[hdst] at hk;obtain⟨t,y,org,hk,hv⟩:=a0v hrel hs hk;obtain⟨cs,fp,g1,g2⟩:=a6d hrel hv;split at hk
 ·rename_i tt u htt hu;split at hk
  ·rename_i hne;obtain⟨i,dd,h1,h2,h3,h4,_⟩:=(htab _ _ htt).ex;have hrun:(execOp a.eval o).run P w=.ok (.value (.iface T (a.eval x))) w:=by
    simp only[execOp,hop,Instr.makeInterface,AK,An h2,AI];cases dd <;> first|rfl|(cases tt <;> first|exact h4.elim|simp[Ty.isErr] at hne)
   refine⟨_,a0c rfl hk,a6m (us:=[]) (cs:=[.iface T (a.eval x)]) (a3g hrel) hdst hd hrun (a1c rfl rfl (by simp)) ⟨rfl,⟨_,rfl,?_⟩,_,rfl,by simp,rfl⟩⟩;rw[a6t g1];exact f4j hu g2
  ·simp at hk
 ·simp at hk
theorem b3k(n:Nat):goInt n=.int .i64 n:=rfl
theorem b4d{n:Nat}(hn:n≤room):Aa.min≤(n:Int)∧(n:Int)≤Aa.max:=by
 have h1:Aa.min=-9223372036854775808:=by decide
 have h2:Aa.max=9223372036854775807:=by decide
 unfold room at hn;omega
theorem f7b(htab:a3c P C)(hrel:Rel A P C B e a w Z F [])(hs:Sub r e){d:Nat}(hdst:o.dst=some d)(hd:a4f C B d){c:Call}{ty:Nat}
  (hop:o.op=.call c) (hc:c.callee=.builtin .len) {k:List Up→Option R} {res:R} (hk:sem C (.call c) ty o.dst r k=some res) :
  ∃us,k us=some res∧Snd A P C B e a w us o:=by
 simp only[sem,hc] at hk;rw[hdst] at hk;split at hk
 ·rename_i x T hx hT;have hargs:c.args=#[x]:=by rw[←By (xs:=c.args),hx]
  have hats:c.argTypes=#[T]:=by rw[←By (xs:=c.argTypes),hT]
  have hrun0:∀{v:Value},(BV #[T] o.type #[a.eval x]).run P w=.ok v w→(execOp a.eval o).run P w=.ok (.value v) w:=by
   intro v hv;simp only[execOp,hop,resolve,hc,hargs,hats,AK,BJ,AI,invoke,builtin];simp[hv]
  cases hp:d0o r x with
  |some q =>
   obtain⟨s,m⟩:=q;rw[hp] at hk;dsimp only at hk;split at hk
   ·rename_i hsl hroom;have hroom:=of_decide_eq_true hroom;unfold d0o at hp;split at hp
    ·rename_i s';split at hp
     ·rename_i l hl;simp only[Ad,Aj] at hp;obtain⟨rfl,rfl⟩:=hp;have hie:=a3r hs hl (by simp);have ho:=hrel.own s';rw[←hie,hl] at ho;obtain⟨hfp,b,hv,hz⟩:=ho;have hv2:a.eval (.tmp s')=.slice (some ⟨b,0,none⟩) l.length l.length:=hv;unfold d2u at hsl;split at hsl
      ·rename_i e0 te hTy;obtain⟨i,dd,h1,h2,h3,h4,_⟩:=(htab _ _ hTy).ex;have hr64:=b4d hroom;refine⟨_,a0c rfl hk,b2j (us:=[]) (a3g hrel) hdst hd (hrun0 ?_) hr64.1 hr64.2⟩;rw[hv2];cases dd <;> first|exact h4.elim|skip
       simp[BV,An h2,b3k]
      ·simp at hsl
     ·simp at hp
    ·simp at hp
   ·simp at hk
  |none =>
  rw[hp] at hk;dsimp only at hk;split at hk
  ·rename_i hnls;split at hk
   ·rename_i m e0 te hTy;obtain⟨i,dd,h1,h2,h3,h4,_⟩:=(htab _ _ hTy).ex;have hx0:a.eval x=.slice none 0 0:=by
     unfold g1r at hnls;split at hnls
     ·rename_i i;split at hnls
      ·rename_i hi;have hie:=a3r hs hi (by simp);have ho:=hrel.own i;rw[←hie,hi] at ho;exact ho.2
      ·simp at hnls
     ·simp at hnls
    refine⟨_,a0c rfl hk,b2j (us:=[]) (a3g hrel) hdst hd (hrun0 ?_) (b4d (A8 _)).1 (b4d (A8 _)).2⟩;rw[hx0];cases dd <;> first|exact h4.elim|skip
    simp[BV,An h2,b3k]
   ·simp at hk
  ·obtain⟨t,y,org,hk,hv⟩:=a0v hrel hs hk;obtain⟨cs,fp,g1,g2⟩:=a6d hrel hv;split at hk
   ·rename_i hel;unfold elOK at hel;split at hel
    ·rename_i tt hTy;have hi:=of_decide_eq_true hel;obtain⟨i,dd,h1,h2,h3,h4,_⟩:=(htab _ _ hTy).ex;unfold lenK at hk;split at hk
     ·
      obtain⟨_,s,rfl,rfl,hsz⟩:=g2;have hx0:=a0n rfl g1;have hll:(a2c s).length=s.size:=by unfold a2c;rw[Ce,AN];rfl
      have hr64:=b4d hsz;refine⟨_,a0c rfl hk,b2j (us:=[]) (a3g hrel) hdst hd (hrun0 ?_) (by rw[hll];exact hr64.1) (by rw[hll];exact hr64.2)⟩;rw[hx0];cases tt <;> simp[Ty.imm] at hi;cases dd <;> first|exact h4.elim|skip
      simp[BV,An h2,b3k,hll]
     ·
      obtain⟨a0,n,cap,rfl,_,h5,_,_,h6,_⟩:=g2;have hx0:=a0n rfl g1;have hr64:=b4d h6;refine⟨_,a0c rfl hk,b2j (us:=[]) (a3g hrel) hdst hd (hrun0 ?_) (by rw[←h5];exact hr64.1) (by rw[←h5];exact hr64.2)⟩;rw[hx0];cases tt <;> simp[Ty.imm] at hi
      all_goals (cases dd <;> first|exact h4.elim|skip)
      simp[BV,An h2,b3k,h5]
     ·
      obtain⟨a0,n,cap,rfl,h5,_,_,h6,_⟩:=g2;have hx0:=a0n rfl g1;have hr64:=b4d h6;refine⟨_,a0c rfl hk,b2j (us:=[]) (a3g hrel) hdst hd (hrun0 ?_) (by rw[←h5];exact hr64.1) (by rw[←h5];exact hr64.2)⟩;rw[hx0];cases tt <;> simp[Ty.imm] at hi
      all_goals (cases dd <;> first|exact h4.elim|skip)
      simp[BV,An h2,b3k,h5]
     ·
      obtain⟨b,n,cap,c0,fps,rfl,h5,_,_,h6,_⟩:=g2;have hx0:=a0n rfl g1;have hr64:=b4d h6;refine⟨_,a0c rfl hk,b2j (us:=[]) (a3g hrel) hdst hd (hrun0 ?_) (by rw[←h5];exact hr64.1) (by rw[←h5];exact hr64.2)⟩;rw[hx0];cases tt <;> simp[Ty.imm] at hi
      all_goals (cases dd <;> first|exact h4.elim|skip)
      simp[BV,An h2,b3k,h5]
     ·
      split at hk
      ·rename_i hn;obtain⟨_,_,h5,_⟩:=g2;have hr64:=b4d (of_decide_eq_true hn);refine⟨_,a0c rfl hk,b2j (us:=[]) (a3g hrel) hdst hd (hrun0 ?_) (by rw[h5];exact hr64.1) (by rw[h5];exact hr64.2)⟩;cases tt <;> simp[Ty.imm] at hi;cases dd <;> first|exact h4.elim|skip
       obtain⟨rfl,_⟩:=h4;simp[BV,An h2,b3k,h5,hi.1]
      ·simp at hk
     ·simp at hk
    ·simp at hel
   ·simp at hk
 ·simp at hk
end Go.Rb

namespace Go.Rb
variable {A:Amb} {P:Program} {Z Z':Nat→Prop} {h h':Array Obj} {R:Type} {C:Ctx} {B:Base} {e:En} {a:Act} {w w':World} {F:Nat→List Nat} {X:List Nat} {r:Nat→Ent} {o:Oper}
theorem f8t(n m:Int):(if m>n then m else n)=(if m≤n then n else m):=by split <;> split <;> omega
theorem f7i(n m:Int):(if m<n then m else n)=(if n≤m then n else m):=by split <;> split <;> omega
theorem d1n(hrel:Rel A P C B e a w Z F [])(hs:Sub r e){d:Nat}(hdst:o.dst=some d)(hd:a4f C B d){c:Call}{mx:Bool}
  (hop:o.op=.call c) (hc:c.callee=.builtin (if mx then .max else .min)) {k:List Up→Option R} {res:R} (hk:minK mx c.args.toList o.dst r k=some res) :
  ∃us,k us=some res∧Snd A P C B e a w us o:=by
 rw[hdst] at hk;unfold minK at hk;split at hk
 ·rename_i x y hx;have hargs:c.args=#[x,y]:=by rw[←By (xs:=c.args),hx]
  obtain⟨t,u,org,hk,hv⟩:=a0v hrel hs hk;obtain⟨cs,fp,g1,g2⟩:=a6d hrel hv;obtain⟨t',u',org',hk,hv'⟩:=a0v hrel hs hk;obtain⟨cs',fp',g1',g2'⟩:=a6d hrel hv';split at hk
  ·rename_i kd n kd' m _;obtain⟨_,rfl,h1,h2⟩:=g2;obtain⟨_,rfl,h3,h4⟩:=g2';have hx0:=a0n rfl g1;have hy0:=a0n rfl g1';split at hk
   ·rename_i hkk;obtain rfl:=of_decide_eq_true hkk;split at hk
    ·refine⟨_,a0c rfl hk,b2j (us:=[]) (a3g hrel) hdst hd ?_ (by split <;> assumption) (by split <;> assumption)⟩;have:=f8t n m;simp[execOp,hop,resolve,hc,hargs,invoke,builtin,Builtin.max_,hx0,hy0,Builtin.max2,HW,this]
    ·refine⟨_,a0c rfl hk,b2j (us:=[]) (a3g hrel) hdst hd ?_ (by split <;> assumption) (by split <;> assumption)⟩;have:=f7i n m;simp[execOp,hop,resolve,hc,hargs,invoke,builtin,Builtin.min_,hx0,hy0,Builtin.min2,HW,this]
   ·simp at hk
  ·simp at hk
 ·simp at hk
def SrcV(A:Amb)(P:Program)(Z:Nat→Prop)(h:Array Obj)(sok:Bool)(v:Value)(t:Ty)(l:List t.den):Prop :=
 (∃ad n c cells,v=.slice ad n c∧n=l.length∧n≤room∧cells.length=n*t.size∧(n=0∨∃a,ad=some a∧Row h a (n*t.size) cells)∧∀i (hi:i<l.length),Rep A P t Z h (seg cells (i*t.size) t.size) l[i] []) ∨
 (sok=true∧∃s,v=.string s∧s.size≤room∧t=.int .u8∧HEq l (a2c s))
theorem Row.take{ad:Addr}{n m:Nat}{cs:List Value}(hr:Row h ad n cs)(hm:m≤n):Row h ad m (cs.take m):=by
 obtain⟨h1,h2,c,el,fr,h3,h4⟩:=hr;exact⟨h1,by simp;omega,c,el,fr,h3,fun j hj=>by rw[h4 j (by omega),AV,if_pos hj]⟩
theorem c9a{sok:Bool}{t1 t:Ty}{v:Value}{l1:List t1.den}{k:List t.den→Option R}{res:R}(hk:b0f (.sl .imm 0 t1) (.sl .imm 0 t) l1 k=some res)
  (hv:∃ad n c cells,v=.slice ad n c∧n=l1.length∧n≤room∧cells.length=n*t1.size∧(n=0∨∃a,ad=some a∧Row h a (n*t1.size) cells)∧∀i (hi:i<l1.length),Rep A P t1 Z h (seg cells (i*t1.size) t1.size) l1[i] (([]:List Nat))) :
  ∃l,k l=some res∧SrcV A P Z h sok v t l:=by
 obtain⟨hl,y,hy,hk⟩:=a1x hk;have hl':=hl;simp only[Ty.le,Af] at hl';have hlt:t1.le t=true:=hl'.1.2;obtain⟨hlen,hel⟩:=d3y (b7e hlt) hy;have hsz:=c4m hlt;obtain⟨ad,n,c,cells,rfl,h1,h2,h3,h4,h5⟩:=hv;refine⟨y,hk,.inl ⟨ad,n,c,cells,rfl,by omega,h2,by rw[←hsz];exact h3,by rw[←hsz];exact h4,fun i hi=>?_⟩⟩;obtain⟨fp',fz,q1,q2⟩:=b7k hlt (hel i (by omega) hi) (h5 i (by omega));obtain⟨rfl,rfl⟩:fp'=[]∧fz=[]:=by simpa using BP q1
 rw[←hsz];exact q2 Z (fun b=>id) (by simp)
theorem e9p{t1:Ty}(hp:t1.pure=true){e:Nat}{l:List t1.den}{cs:List Value}{fp:List Nat}(hr:Rep A P (.sl .own e t1) Z h cs l fp) :
  ∃ad n c cells,cs=[.slice ad n c]∧n=l.length∧n≤room∧cells.length=n*t1.size∧(n=0∨∃a,ad=some a∧a.spot=none∧Row h a (n*t1.size) cells)∧∀i (hi:i<l.length),Rep A P t1 Z h (seg cells (i*t1.size) t1.size) l[i] ([]:List Nat):=by
 obtain⟨a0,n,cap,rfl,h1,h2,h3,h4,h5⟩:=hr;rcases h5 with⟨rfl,rfl,_,_⟩|⟨b,c,fps,rfl,g1,g2,_,g4,g5⟩
 ·simp at h1;subst h1;exact⟨none,0,cap,[],rfl,rfl,h4,by simp,.inl rfl,fun i hi=>by simp at hi⟩
 ·have hcs:n*t1.size≤c.size:=by rw[g2];exact Ai _ h2
  refine⟨_,n,cap,c.toList.take (n*t1.size),rfl,h1,h4,by simp;omega,.inr ⟨_,rfl,rfl,g1.row hcs⟩,fun i hi=>?_⟩;have:=g5 i hi;rw[a1y this hp] at this;rw[b0k (by rw[←AC];exact Ai _ (by omega))];exact this
theorem f8z{t1:Ty}{e:Nat}{l:List t1.den}{cs:List Value}{fp:List Nat}(hr:Rep A P (.sl .imm e t1) Z h cs l fp) :
  ∃ad n c cells,cs=[.slice ad n c]∧n=l.length∧n≤room∧cells.length=n*t1.size∧(n=0∨∃a,ad=some a∧Row h a (n*t1.size) cells)∧∀i (hi:i<l.length),Rep A P t1 Z h (seg cells (i*t1.size) t1.size) l[i] ([]:List Nat):=by
 obtain⟨a0,n,cap,rfl,_,h1,h2,h3,h4,h5⟩:=hr;rcases h5 with rfl|⟨ad,cells,rfl,g1,g2,g3⟩
 ·simp at h1;subst h1;exact⟨a0,0,cap,[],rfl,rfl,h4,by simp,.inl rfl,fun i hi=>by simp at hi⟩
 ·exact⟨_,n,cap,cells,rfl,h1,h4,g2.2.1,.inr ⟨ad,rfl,g2⟩,g3⟩
end Go.Rb

namespace Go.Rb
variable {A:Amb} {P:Program} {Z Z':Nat→Prop} {h h':Array Obj} {R:Type} {C:Ctx} {B:Base} {e:En} {a:Act} {w w':World} {F:Nat→List Nat} {X:List Nat} {r:Nat→Ent} {o:Oper}
theorem f1y{s:ByteArray}(hs:s.size≤room){t:Ty}{k:List t.den→Option R}{res:R}(hk:b0f (.sl .imm 0 (.int .u8)) (.sl .imm 0 t) (a2c s) k=some res) :
  ∃l,k l=some res∧SrcV A P Z h true (.string s) t l:=by
 obtain⟨hl,y,hy,hk⟩:=a1x hk;simp only[Ty.le,Af] at hl;have:=f1n (t:=.int .u8) (t':=t) hl.1.2 trivial;subst this;exact⟨y,hk,.inr ⟨rfl,s,rfl,hs,rfl,hy.symm⟩⟩
theorem e5q{sok:Bool}{t t':Ty}{x:t'.den}{k:List t.den→Option R}{res:R}(hk:appK.src2 sok t t' x k=some res){v:Value}{cs:List Value}{fp:List Nat}(hv:VC t' v cs)(hr:Rep A P t' Z h cs x fp) :
  ∃l,k l=some res∧SrcV A P Z h sok v t l:=by
 unfold appK.src2 at hk;split at hk
 ·obtain⟨ad,n,c,cells,rfl,h1⟩:=f8z hr;exact c9a hk ⟨ad,n,c,cells,a0n rfl hv,h1⟩
 ·rename_i e t1 l;split at hk
  ·rename_i hp;obtain⟨ad,n,c,cells,rfl,h1,h2,h3,h4,h5⟩:=e9p hp hr;exact c9a hk ⟨ad,n,c,cells,a0n rfl hv,h1,h2,h3,h4.imp id fun⟨a,q1,_,q2⟩=>⟨a,q1,q2⟩,h5⟩
  ·simp at hk
 ·obtain⟨_,s,rfl,rfl,hsz⟩:=hr;rw[a0n rfl hv];split at hk
  ·exact f1y hsz hk
  ·simp at hk
 ·simp at hk
theorem c4j(hrel:Rel A P C B e a w Z F X)(hs:Sub r e){sok:Bool}{t:Ty}{b:Operand}{k:List t.den→Option R}{res:R}(hk:appK.srcK sok t b r k=some res) :
  ∃l,k l=some res∧SrcV A P Z w.heap sok (a.eval b) t l:=by
 have hnil:∀{v:Value},v=.slice none 0 0→SrcV A P Z w.heap sok v t ([]:List t.den):=by
  rintro v rfl;exact .inl ⟨none,0,0,[],rfl,rfl,A8 _,by simp,.inl rfl,fun i hi=>by simp at hi⟩
 have hview:(view r b fun t' x _=>appK.src2 sok t t' x k)=some res→∃l,k l=some res∧SrcV A P Z w.heap sok (a.eval b) t l:=by
  intro hk;obtain⟨t',x,org,hk,hv⟩:=a0v hrel hs hk;obtain⟨cs,fp,g1,g2⟩:=a6d hrel hv;exact e5q hk g1 g2
 unfold appK.srcK at hk;split at hk
 ·exact⟨[],hk,hnil rfl⟩
 ·rename_i i;split at hk
  ·rename_i hi;have hie:=a3r hs hi (by simp);have ho:=hrel.own i;rw[←hie,hi] at ho;exact⟨[],hk,hnil ho.2⟩
  ·rename_i p v c lo hi' hi;have hie:=a3r hs hi (by simp);have hi2:(e.get i).s=.sub p v c lo hi':=by rw[←hie];exact hi
   obtain⟨t0,x0,h1,h2,h3,hk⟩:=a8m hk;have hre:=hs p.root (a5u h1);have href:=hrel.ref i;rw[hi2] at href;rw[hre] at h1 h2 h3;obtain⟨hix,hat⟩:=href.2.2 h2 h3;obtain⟨cs,base,fp',t1,cs0,ad,x1,fs,fr,g1,g2,g3,g4,g5,g6,g7,g8⟩:=b7n (hrel.own p.root) h1 hat hk;rw[g6] at hk;split at hk
   ·rename_i e1 te l;split at hk
    ·rename_i hp;obtain⟨e2,te2,a0,n,cap,q1,q2,q3,q4,q5,q6,q7⟩:=g5;obtain⟨ad0,n0,c0,cells,u1,u2,u3,u4,u5,u6⟩:=e9p hp g8;rw[q2] at u1;simp only[AG,AR,and_true] at u1;obtain⟨rfl,rfl,rfl⟩:=u1;have hte:te2.size=te.size:=by
      simp only[Ty.imm,Ty.sl.injEq] at q1;rw[←a1e te,q1.2.2]
     have hlen:((l.take hi'.toNat).drop lo.toNat).length=hi'.toNat - lo.toNat:=by
      rw[B8,A7];omega
     have hmul:lo.toNat*te.size+(hi'.toNat - lo.toNat)*te.size≤n*te.size:=by
      rw[←AA];exact Ai _ (by omega)
     refine c9a hk ⟨_,_,_,seg cells (lo.toNat*te.size) ((hi'.toNat - lo.toNat)*te.size),q7,hlen.symm,by omega,a3w (by omega),?_,fun j hj=>?_⟩
     ·rcases u5 with h|⟨ad1,rfl,hsp,hrow⟩
      ·left;omega
      ·by_cases hz:hi'.toNat - lo.toNat=0
       ·left;exact hz
       ·right;rw[if_neg (by omega),hte];refine⟨_,rfl,?_⟩;show Row w.heap (ad1.add (lo.toNat*te.size)) _ _;rw[a8j hsp];exact hrow.sub hmul
     ·rw[hlen] at hj;have hjm:j*te.size+te.size≤(hi'.toNat - lo.toNat)*te.size:=by rw[←AC];exact Ai _ (by omega)
      rw[a9u hjm,←AA];have hjl:lo.toNat+j<l.length:=by omega
      have:=u6 (lo.toNat+j) hjl;rw[D8,Cq];exact this
    ·simp at hk
   ·simp at hk
  ·exact hview hk
 ·exact hview hk
theorem c6h{T:Nat}(htab:a3c P C)(hT:C.ty T=some .str):P.underlying T=some .string:=by
 obtain⟨i,dd,h1,h2,h3,h4,_⟩:=(htab _ _ hT).ex;cases dd <;> first|exact h2|exact h4.elim
theorem c2w{T:Nat}{kd:IntKind}(htab:a3c P C)(hT:C.ty T=some (.int kd)):P.underlying T=some (.int kd):=by
 obtain⟨i,dd,h1,h2,h3,h4,_⟩:=(htab _ _ hT).ex;cases dd <;> first|exact h4.elim|skip
 have:_=kd:=h4;subst this;exact h2
theorem a9v{T e:Nat}{m:Md}{te:Ty}(htab:a3c P C)(hT:C.ty T=some (.sl m e te)):∃el i,P.underlying T=some (.slice el)∧C.ty el=some te∧P.info? el=some i∧i.bytes=e∧1≤e∧te.pure=true∧1≤te.size∧m=.imm∧i.size=te.size:=by
 obtain⟨i,dd,h1,h2,h3,h4,_⟩:=(htab _ _ hT).ex;cases dd <;> first|exact h4.elim|skip
 obtain⟨q1,q2,q3,q4,q5,q6⟩:=h4;obtain⟨i',dd',h1',h2',h3',h4',_⟩:=(htab _ _ q2).ex;refine⟨_,i',h2,q2,h1',?_,q4,q5,q6,q1,h3'⟩;rw[←q3];simp[Program.bytesOf,h1']
end Go.Rb

namespace Go.Rb
variable {A:Amb} {P:Program} {Z Z':Nat→Prop} {h h':Array Obj} {R:Type} {C:Ctx} {B:Base} {e:En} {a:Act} {w w':World} {F:Nat→List Nat} {X:List Nat} {r:Nat→Ent} {o:Oper}
theorem d1a(s:ByteArray):(s.data.map fun b=>Cv .u8 b.toNat).toList=(a2c s).map (Cv .u8):=by
 unfold a2c;rw[BX,FX];rfl
theorem d5j(s:ByteArray):∀x,x∈a2c s→A6.min≤x∧x≤A6.max:=by
 intro x hx;unfold a2c at hx;obtain⟨b,_,rfl⟩:=List.mem_map.1 hx;have h1:A6.min=0:=by decide
 have h2:A6.max=255:=by decide
 have:=b.toNat_lt;omega
theorem e7r{α:Type}{f:α→Value}{l:List α}{i:Nat}(hi:i<l.length):seg (l.map f) (i*1) 1=[f l[i]]:=by
 unfold seg;rw[Dq,←FQ,List.drop_eq_getElem_cons hi];rfl
theorem e3h{sok:Bool}{v:Value}{t:Ty}{l:List t.den}(hv:SrcV A P Z h sok v t l) :
  ∃cells:List Value,cells.length=l.length*t.size∧(∀i (hi:i<l.length),Rep A P t Z h (seg cells (i*t.size) t.size) l[i] [])∧l.length≤room ∧
   (∀w:World,(Bq v).run P w=.ok l.length w)∧∀w:World,w.heap=h→(AD t.size l.length v).run P w=.ok cells.toArray w:=by
 rcases hv with⟨ad,n,c,cells,rfl,rfl,h2,h3,h4,h5⟩|⟨_,s,rfl,hs,rfl,hl⟩
 ·refine⟨cells,h3,h5,h2,fun w=>by simp[Bq],?_⟩;intro w hw;have hload:∀ad',(∀j v,cells[j]?=some v→w.cell? (ad'.add j)=some v)→(AD t.size l.length (.slice (some ad') l.length c)).run P w=.ok cells.toArray w:=by
   intro ad' hc;have:=run_loadCells_list (P:=P) w ad' cells hc;simp only[AD,←h3];exact this
  rcases h4 with h4|⟨a',rfl,hrow⟩
  ·have:cells=[]:=Bm (by rw[h3,h4];simp);subst this;cases ad with
   |none=>simp[AD]
   |some ad'=>exact hload ad' (by simp)
  ·refine hload a' ?_;subst hw;exact Row.cell hrow
 ·have hl:=eq_of_heq hl;subst hl;refine⟨(a2c s).map (Cv .u8),by simp[Ty.size],fun i hi=>?_,by rw[a4h];exact hs,fun w=>by rw[a4h];simp[Bq],?_⟩
  ·have:=d5j s _ (A1 hi);show Rep A P (.int .u8) Z h (seg _ (i*1) 1) _ _;rw[e7r hi];exact⟨rfl,rfl,this.1,this.2⟩
  ·intro w hw;have:(s.extract 0 s.size)=s:=by
    refine ByteArray.ext ?_;rw[Er];exact Array.extract_size
   simp only[AD,a4h,this,BJ];rw[←d1a]
theorem c5w{l:List Int}(hl:∀x,x∈l→A6.min≤x∧x≤A6.max):a2c (strOfNums l)=l:=by
 have h1:A6.min=0:=by decide
 have h2:A6.max=255:=by decide
 unfold a2c;rw[strOfNums_data,FX]
 conv=>rhs;rw[←List.map_id l]
 refine List.map_congr_left fun x hx=>?_
 have:=hl x hx;simp only[Function.comp,id,UInt8.toNat_ofNat'];omega
theorem e4f{b:Nat}{c:Array Value}{el:TypeId}{fr:Nat×Nat}(h1:w.heap[b]?=some (.cells c el fr)):∃w',(markStringish ⟨b,0,none⟩).run P w=.ok () w'∧w'.heap.size=w.heap.size∧w'.os=w.os∧w'.output=w.output∧w'.tape=w.tape ∧
  (∀k,k≠b→w'.heap[k]?=w.heap[k]?)∧∃fr',w'.heap[b]?=some (.cells c el fr')∧(fr.1≤fr.2∧(∀i,i<c.size→¬(fr.1≤i∧i<fr.2))→fr'.1≤fr'.2∧∀i,i<c.size→¬(fr'.1≤i∧i<fr'.2)):=by
 refine⟨w.freeze ⟨b,c.size,none⟩ 1,?_,?_,rfl,rfl,rfl,fun k hk=>?_,(if fr.1==fr.2 then(c.size,c.size+1) else(min fr.1 c.size,max fr.2 (c.size+1))),?_,fun hf=>?_⟩
 ·simp[markStringish,World.shape?,h1]
 ·simp[E4]
 ·simp only[E4,if_neg (show ¬(1=0) by decide),BT];rw[if_neg (BM hk)]
 ·simp only[E4,if_neg (show ¬(1=0) by decide),BT];rw[if_pos trivial,h1];obtain⟨lo,hi⟩:=fr;rfl
 ·obtain⟨hle,hf⟩:=hf;split
  ·exact⟨by dsimp only;omega,fun i hi=>by dsimp only;omega⟩
  ·rename_i hne;have hne:fr.1≠fr.2:=by simpa using hne
   refine⟨by dsimp only;omega,fun i hi=>?_⟩;dsimp only;rcases Nat.lt_or_ge fr.1 c.size with h|h
   ·have h2:=hf fr.1 h;omega
   ·omega
theorem f2c{us:List Up}(hrel:Rel A P C B (e.app us) a w Z F X){d:Nat}(hdst:o.dst=some d)(hd:a4f C B d){s:SV}{v:Value}
  (hrun:(execOp a.eval o).run P w=.ok (.value v) w') (hsz:w'.heap.size=w.heap.size) (hos:w'.os=w.os) (hout:w'.output=w.output) (htape:w'.tape=w.tape)
  (hh:∀b,b<w.heap.size→b∉X→w'.heap[b]?=w.heap[b]?) (own:Own A P Z w'.heap s v X) (href:Ref (e.app us) a.tm w.heap s v):Snd A P C B e a w (us++[⟨d,.slot,s⟩]) o:=by
 intro next Q hnext;unfold Ch;rw[hrun,C6,hdst];refine hnext _ _ Z (setF F d X) ?_;rw[a2b];refine hrel.dst hd (Y:=X) (X':=[]) (by simp) (BH hsz.symm) hos hout htape hh (fun b=>id) (fun b=>.inl) (fun b hb=>by rw[hsz];exact hrel.zb b hb) own hrel.xnodup (fun b=>.inl) (fun b hb=>hrel.xnotZ b hb) ?_;exact e8t hrel hd href (b2w own fun b hb=>hh b (hrel.zb b (by assumption)) fun hx=>hrel.xnotZ b hx (by assumption)) fun i b hb=>hh b (hrel.fb i b hb) (hrel.xdisj i b hb)
theorem e0v(htab:a3c P C)(hrel:Rel A P C B e a w Z F [])(hs:Sub r e){d:Nat}(hdst:o.dst=some d)(hd:a4f C B d){T1 T2:Nat}{x:Operand}{ty:Nat}
  (hop:o.op=.convert T1 T2 x) {k:List Up→Option R} {res:R} (hk:sem C (.convert T1 T2 x) ty o.dst r k=some res) :
  ∃us,k us=some res∧Snd A P C B e a w us o:=by
 simp only[sem] at hk;rw[hdst] at hk;have hrun0:∀{v:Value} {w':World},(convert T1 T2 (a.eval x)).run P w=.ok v w'→(execOp a.eval o).run P w=.ok (.value v) w':=by
  intro v w' hv;simp[execOp,hop,hv]
 split at hk
 ·rename_i k1 k2 h1 h2;obtain⟨t,y,org,hk,hv⟩:=a0v hrel hs hk;obtain⟨cs,fp,g1,g2⟩:=a6d hrel hv;split at hk
  ·obtain⟨_,rfl,_⟩:=g2;have hx0:=a0n rfl g1;refine⟨_,a0c rfl hk,b2j (us:=[]) (a3g hrel) hdst hd (hrun0 ?_) (a5j _ _).1 (a5j _ _).2⟩;rw[hx0];simp[convert,An (c2w htab h1),An (c2w htab h2),Conv.intToInt]
  ·simp at hk
 ·rename_i m h1 h2;obtain⟨t,y,org,hk,hv⟩:=a0v hrel hs hk;obtain⟨cs,fp,g1,g2⟩:=a6d hrel hv;split at hk
  ·obtain⟨_,s,rfl,rfl,hsz⟩:=g2;have hx0:=a0n rfl g1;obtain⟨el,i,q1,q2,q3,q4,q5,q6,q7,q8,q9⟩:=a9v htab h2;have hrun:=hrun0 (v:=.slice (some ⟨w.heap.size,0,none⟩) s.size (grownCap w s.size 0 el)) (w':=FR w el s) (by
    rw[hx0];exact Lib.run_convert_string_bytes w T1 T2 el s (c6h htab h1) q1 (c2w htab q2))
   have hcap:=grownCap_ge w s.size 0 el;have hcsz:(CF w el s).size=grownCap w s.size 0 el:=by
    simp[CF];have:s.data.size=s.size:=rfl;omega
   have hblk:Blk (FR w el s).heap w.heap.size (CF w el s):=⟨el,_,Lib.bytesWorld_at_new w el s,by simp,fun i hi=>by simp <;> omega⟩
   refine⟨_,a0c rfl hk,b5p (us:=[]) (fp:=[w.heap.size]) (a3g hrel) hdst hd hrun (by rw[Lib.bytesWorld_size];omega) rfl rfl rfl (fun b hb _=>Lib.bytesWorld_at_old w el s b hb) ?_ (by simp) (by simp) trivial⟩;have hll:=a4h s;refine⟨_,a1c rfl rfl (by simp),some ⟨w.heap.size,0,none⟩,s.size,grownCap w s.size 0 el,rfl,hll.symm,hcap,by omega,hsz,.inr ⟨w.heap.size,_,As s.size [],rfl,⟨hblk,fun he=>absurd rfl he⟩,by rw[hcsz];simp[Ty.size],by simp,by simp[hll],fun j hj=>?_⟩⟩;have hj':j<s.size:=by omega
   have h3:seg (CF w el s).toList (j*1) 1=[Cv .u8 ((a2c s)[j])]:=by
    unfold CF;rw[Dm,d1a,a7q (by simp;omega),e7r hj]
   have:=d5j s _ (A1 hj);show Rep A P (.int .u8) _ _ (seg _ (j*1) 1) _ _;rw[h3];exact⟨by simp[BC,hj'],rfl,this.1,this.2⟩
  ·simp at hk
 ·rename_i m e0 h1 h2;obtain⟨l,hk,hv⟩:=c4j hrel hs hk;obtain⟨el,i,q1,q2,q3,q4,q5,q6,q7,q8,q9⟩:=a9v htab h1;have hu8:=c2w htab q2;obtain⟨cells,u1,u2,u3,u4,u5⟩:=e3h hv;have hin:∀x,x∈l→A6.min≤x∧x≤A6.max:=by
   intro x hx;obtain⟨i,hi,rfl⟩:=Bf hx;obtain⟨_,_,h3,h4⟩:=u2 i hi;exact⟨h3,h4⟩
  have hbl:=c5w hin;have hsz:=strOfNums_size l;have hcells:cells=l.map (Cv .u8):=by
   refine Eg (by simpa[Ty.size] using u1) fun i h3 h4=>?_
   have h5:i<l.length:=by simpa using h4
   obtain⟨_,h6,_⟩:=u2 i h5;have:(seg cells (i*1) 1)[0]?=some (Cv .u8 l[i]):=by
    have h6':seg cells (i*1) 1=[Cv .u8 l[i]]:=h6;rw[h6'];rfl
   simp only[seg,Dq,AV,Bg] at this;simp at this;rw[Eh];have h7:=Bb h3;rw[h7] at this;exact Ag this
  have hrun:(convert T1 T2 (a.eval x)).run P w=.ok (.string (strOfNums l)) w:=by
   rcases hv with⟨ad,n,c,cells',hx0,rfl,_⟩|⟨h0,_⟩
   ·rw[hx0] at u5 ⊢;rw[run_convert_bytes_string w T1 T2 el _ _ _ q1 hu8 (c6h htab h2)];cases ad with
    |none =>
     have h8:=u5 w rfl;simp only[AD,BJ,Result.ok.injEq,and_true] at h8;have:l=[]:=by
      have h9:cells=[]:=by simpa using h8.symm
      rw[h9] at hcells;simpa using hcells.symm
     subst this;simp[Conv.bytesToString,strOfNums];rfl
    |some ad =>
     have h8:=u5 w rfl;simp only[AD,Ty.size,Dq,hcells] at h8;rw[run_bytesToString w ad l.length c l h8,foldl_push_bytes];simp[strOfNums,ByteArray.empty,ByteArray.emptyWithCapacity];rfl
   ·simp at h0
  refine⟨_,a0c rfl hk,a6m (us:=[]) (a3g hrel) hdst hd (hrun0 hrun) (a1c rfl rfl (by simp)) ⟨rfl,_,rfl,hbl.symm,by rw[hsz];exact u3⟩⟩
 ·rename_i m1 e1 m2 h1 h2;split at hk
  ·rename_i hbq;obtain rfl:=AF hbq;obtain⟨t,y,us,hk,⟨Z1,F1,fs,cs,g1,g2,g3,g4⟩,gs⟩:=b8u hrel hs hk;split at hk
   ·rename_i l;cases hl:(l:List Int) with
    |nil=>rw[hl] at hk;simp at hk
    |cons q0 l0 =>
     rw[hl] at hk;dsimp only at hk;rw[←hl] at hk;rw[A9] at g1;obtain⟨av,n,cap,rfl,k1,k2,k3,k4,k5⟩:=g4;have hne:l≠[]:=by rw[hl];simp
     rcases k5 with⟨_,h0,_⟩|⟨b,c,fps,rfl,j1,j2,rfl,j4,j5⟩
     ·exact absurd h0 hne
     have hx0:=a0n rfl g3;obtain⟨el,i,q1,q2,q3,q4,q5,q6,q7,q8,q9⟩:=a9v htab h2;obtain⟨el1,fr1,hb1,hfr1⟩:=j1.blk;obtain⟨w',r1,r2,r3,r4,r5,r6,fr2,r7,r8⟩:=e4f (P:=P) hb1;have hrun:(convert T1 T1 (a.eval x)).run P w=.ok (.slice (some ⟨b,0,none⟩) n cap) w':=by
      rw[hx0];simp[convert,An q1,An (c2w htab q2),r1]
     have hbX:b∈b::fps.flatten:=by simp
     refine⟨_,a0c rfl hk,f2c (X:=b::fps.flatten) g1 hdst hd (hrun0 hrun) r2 r3 r4 r5 (fun k _ hkb=>r6 k fun h=>hkb (h ▸ hbX)) ?_ trivial⟩;exact⟨_,a1c rfl rfl (by simp),_,n,cap,rfl,k1,k2,k3,k4,.inr ⟨b,c,fps,rfl,⟨⟨el1,fr2,r7,r8 hfr1⟩,fun he=>absurd rfl he⟩,j2,rfl,j4,fun i hi=>j5 i hi⟩⟩
   ·simp at hk
  ·simp at hk
 ·simp at hk
end Go.Rb

namespace Go.Rb
variable {A:Amb} {P:Program} {Z Z':Nat→Prop} {h h':Array Obj} {R:Type} {C:Ctx} {B:Base} {e:En} {a:Act} {w w':World} {F:Nat→List Nat} {X:List Nat} {r:Nat→Ent} {o:Oper}
def c8a(h:Array Obj)(sz:Nat)(base:Option Addr)(n cap:Nat)(cs:List Value):Prop :=
 (base=none∧n=0∧cap=0∧cs=[])∨∃b c,base=some ⟨b,0,none⟩∧Blk h b c∧c.size=cap*sz∧n≤cap∧cs=c.toList.take (n*sz)
theorem b4w{T T2 ty el:TypeId}{i:TypeInfo}{z v:Value}{u2:TypeDesc}(ht:P.underlying T=some (.slice el))(h2:P.underlying T2=some u2)(hu2:∀k,u2≠.int k)(hi:P.info? el=some i)(hz:i.zero=some z)
  (hzs:z.cells.size=i.size) (hby:1≤i.bytes) {base:Option Addr} {n cap m:Nat} {cs news:List Value} (hb:c8a w.heap i.size base n cap cs)
  (hm:news.length=m*i.size) (h1:∀v,v∈news→v.oneCell'=true) (hlen:∀w:World,(Bq v).run P w=.ok m w)
  (hfc:∀w':World,w'.heap=w.heap→(AD i.size m v).run P w'=.ok news.toArray w') (hroom:(n+m)*i.bytes≤room) :
  ∃v' w',(A2 #[T,T2] ty #[.slice base n cap,v]).run P w=.ok v' w'∧w'.os=w.os∧w'.output=w.output∧w'.tape=w.tape∧w.heap.size≤w'.heap.size ∧
   (∀b,b<w.heap.size→base≠some ⟨b,0,none⟩→w'.heap[b]?=w.heap[b]?) ∧
   ((
    v'=.slice none 0 0∧n+m=0∧base=none∧w'=w) ∨
    ∃b' c' cap',v'=.slice (some ⟨b',0,none⟩) (n+m) cap'∧Blk w'.heap b' c'∧c'.size=cap'*i.size∧n+m≤cap'∧(base=some ⟨b',0,none⟩∨w.heap.size≤b') ∧
     c'.toList.take ((n+m)*i.size)=cs++news∧((∀b0,base=some ⟨b0,0,none⟩→NoMk w.heap b0)→NoMk w'.heap b')):=by
 have hnm:n+m≤room:=AM (BB _ hby) hroom;have hz0':(match u2 with|TypeDesc.int _=>true|_=>false)=false:=by cases u2 <;> first|rfl|(rename_i k';exact absurd rfl (hu2 k'))
 have h63:¬(9223372036854775807<((n:Int)+(m:Int))):=by unfold room at hnm;omega
 have hcsl:cs.length=n*i.size:=by
  rcases hb with⟨_,rfl,_,rfl⟩|⟨b,c,_,_,hc,hn,rfl⟩
  ·simp
  ·simp;rw[hc];exact E1 (Ai _ hn)
 by_cases hroomy:n+m≤cap
 ·
  rcases hb with⟨rfl,rfl,rfl,rfl⟩|⟨b,c,rfl,hblk,hc,hn,rfl⟩
  ·have hm0:m=0:=by omega
   subst hm0;refine⟨.slice none 0 0,w,?_,rfl,rfl,rfl,Ar _,fun _ _ _=>rfl,.inl ⟨rfl,rfl,rfl,rfl⟩⟩;have:=hfc w rfl;simp[A2,An ht,An h2,sizeOf,typeInfo,hi,hlen,hz0',this]
  ·obtain⟨w',q1,q2,q3,q4,q5,q6⟩:=a2h (P:=P) news 0 w ⟨b,n*i.size,none⟩ c rfl hblk (by simp only;rw[hm,hc,Ee,←AA];exact Ai _ hroomy) h1;obtain⟨c',g1,g2,g3,g4⟩:=q6.blk hblk;have hadd:(⟨b,0,none⟩:Addr).add (n*i.size)=⟨b,n*i.size,none⟩:=by rw[a8j rfl];simp
   refine⟨.slice (some ⟨b,0,none⟩) (n+m) cap,w',?_,q2,q3,q4,by have:=q6;obtain⟨_,_,_,_,_,_,_,_,_,_,hsz⟩:=this;omega,fun b' hb' hne=>?_,.inr ⟨b,c',cap,rfl,g1,by rw[g4,hc],hroomy,.inl rfl,?_,fun hnm=>q6.nm (hnm b rfl)⟩⟩
   ·have:=hfc w rfl;simp[A2,An ht,An h2,sizeOf,typeInfo,hi,hlen,hz0',hroomy,this,hadd,q1]
   ·obtain⟨_,_,_,_,_,_,_,_,_,hother,_⟩:=q6;exact hother b' fun h=>hne (by rw[h])
   ·rw[g2];simp only[Ee,a1d];have e3:(c.toList.take (n*i.size)++news).length=(n+m)*i.size:=by rw[Ac,hcsl,hm,AA]
    rw[C3 (by omega),Co (by omega)]
 ·
  have h48:¬(281474976710656<Builtin.nextslicecap (n+m) cap*i.bytes):=by
   have:=growslice_fits (need:=n+m) (old:=cap) (bytes:=i.bytes) (by omega) hroom;omega
  let w1:World:=w.drew
  have hw1:w1.heap=w.heap:=rfl;have hnew:=hfc w1 hw1;have hold:(AD i.size n (.slice base n cap)).run P w1=.ok cs.toArray w1:=by
   rcases hb with⟨rfl,rfl,rfl,rfl⟩|⟨b,c,rfl,hblk,hc,hn,rfl⟩
   ·simp[AD]
   ·refine run_firstCells_some w1 i.size n _ n cap _ hcsl ?_;have:=hblk.row (n:=n*i.size) (by rw[hc];exact Ai _ hn);exact Row.cell (w:=w1) this
  have hge:=grownCap_ge w (n+m) cap el
  let cells:Array Value:=cs.toArray++news.toArray++Builtin.zeroCells z.cells (grownCap w (n+m) cap el - (n+m))
  have hcells:cells.size=grownCap w (n+m) cap el*i.size:=by
   simp only[cells,Array.size_append,List.size_toArray,size_zeroCells,hzs,hcsl,hm,←AA];congr 1;omega
  obtain⟨w',q1,q2,q3,q4,q5,q6,q7⟩:=a4m (P:=P) (w:=w1) el cells;refine⟨.slice (some ⟨w.heap.size,0,none⟩) (n+m) (grownCap w (n+m) cap el),w',?_,q2,q3,q4,by rw[q5,hw1];omega,fun b hb _=>q6 b hb,.inr ⟨w.heap.size,cells,_,rfl,q7.blk,hcells,hge,.inr (Ar _),?_,fun _=>q7.nm (by decide)⟩⟩
  ·have hn:¬(n+m≤cap):=hroomy;simp only[w1] at hnew hold q1;simp[A2,An ht,An h2,sizeOf,typeInfo,zeroValue,hi,hz,hlen,hz0',hn,h63,h48,Question.forced,hnew,hold];simp only[cells,grownCap,Array.append_assoc] at q1 ⊢;rw[q1];rfl
  ·simp only[cells,Dm];rw[C3 (by simp[hcsl,hm,AA]),Co (by simp[hcsl,hm,AA])]
end Go.Rb

namespace Go.Rb
variable {A:Amb} {P:Program} {Z Z':Nat→Prop} {h h':Array Obj} {R:Type} {C:Ctx} {B:Base} {e:En} {a:Act} {w w':World} {F F0:Nat→List Nat} {X X0:List Nat} {r:Nat→Ent} {o:Oper}
theorem f0k{t:Ty}{l m:List t.den}{cs news:List Value}{fps:List (List Nat)}(hcs:cs.length=l.length*t.size)(hns:news.length=m.length*t.size)(hfl:fps.length=l.length)
  (h1:∀i (hi:i<l.length),Rep A P t Z h (seg cs (i*t.size) t.size) l[i] (fps.getD i [])) (h2:∀i (hi:i<m.length),Rep A P t Z h (seg news (i*t.size) t.size) m[i] [])
  {c:Array Value} (hc:c.toList.take ((l.length+m.length)*t.size)=cs++news) :
  ∀i (hi:i<(l++m).length),Rep A P t Z h (seg c.toList (i*t.size) t.size) (l++m)[i] ((fps++As m.length []).getD i []):=by
 intro i hi;rw[Ac] at hi;have hle:i*t.size+t.size≤(l.length+m.length)*t.size:=by rw[←AC];exact Ai _ (by omega)
 rw[←b0k hle,hc];by_cases h:i<l.length
 ·rw[List.getElem_append_left h];have:(fps++As m.length []).getD i []=fps.getD i []:=by simp[BC,List.getElem?_append_left (show i<fps.length by omega)]
  rw[this,a7q (by rw[hcs,←AC];exact Ai _ (by omega))];exact h1 i h
 ·rw[List.getElem_append_right (by omega)];have:(fps++As m.length []).getD i []=[]:=by
   simp only[BC];rw[List.getElem?_append_right (by omega)];simp[List.getElem?_replicate];split <;> rfl
  rw[this];have e1:i*t.size=cs.length+(i - l.length)*t.size:=by rw[hcs,←AA];congr 1;omega
  rw[e1,a9j];exact h2 _ (by omega)
theorem b7a(fps:List (List Nat))(m:Nat):(fps++As m []).flatten=fps.flatten:=by
 rw[EK];have:(As m ([]:List Nat)).flatten=[]:=by induction m <;> simp_all [EL]
 simp
theorem f0m(htab:a3c P C)(hrel0:Rel A P C B e a w Z F0 X0)(hs:Sub r e){us:List Up}(hrel:Rel A P C B (e.app us) a w Z F X){d:Nat}(hdst:o.dst=some d)(hd:a4f C B d)
  {c:Call} (hop:o.op=.call c) (hc:c.callee=.builtin .append) {ao bo:Operand} (hargs:c.args=#[ao,bo]) {T T2:TypeId} (hats:c.argTypes=#[T,T2])
  {m0:Md} {e0:Nat} {te0 t:Ty} (hT:C.ty T=some (.sl m0 e0 te0)) {u2:TypeDesc} (h2:P.underlying T2=some u2) (hu2:∀k,u2≠.int k) (hi:t.imm=te0.imm) {z:List Value} (hz:zeroCells te0=some z)
  {l:List t.den} {base:Option Addr} {n cap:Nat} {cs:List Value} {fps:List (List Nat)} (hv:a.eval ao=.slice base n cap) (hnm:e0≠1→∀b0,base=some ⟨b0,0,none⟩→NoMk w.heap b0) (hb:c8a w.heap t.size base n cap cs) (hl:l.length=n) (hfl:fps.length=n)
  (hel:∀i (hi:i<l.length),Rep A P t Z w.heap (seg cs (i*t.size) t.size) l[i] (fps.getD i [])) (hX:∀b,b∈addB (base.map (·.block)) fps.flatten→b∈X) (hnd:(addB (base.map (·.block)) fps.flatten).Nodup)
  {k:List Up→Option R} {res:R} (hk:appK.srcK true t bo r (fun m=>if(l.length+m.length)*e0≤room then fin (some d) (.val (.sl .own e0 t) (l++m)) us k else none)=some res) :
  ∃us',k us'=some res∧Snd A P C B e a w us' o:=by
 obtain⟨m,hk,hsrc⟩:=c4j hrel0 hs hk;split at hk
 ·rename_i hroom;obtain⟨el,i,q1,q2,q3,q4,q5,q6,q7,q8,q9⟩:=a9v htab hT;obtain⟨i',dd,p1,p2,p3,p4,p5⟩:=(htab _ _ q2).ex;rw[q3] at p1;obtain rfl:=Ag p1;obtain⟨zv,p6,p7⟩:=p5 z hz;have hsz:i.size=t.size:=by rw[q9,a3x hi]
  obtain⟨news,u1,u2',u3,u4,u5⟩:=e3h hsrc;have hcsl:cs.length=n*t.size:=by
   rcases hb with⟨_,rfl,_,rfl⟩|⟨b,c,_,_,hc,hn,rfl⟩
   ·simp
   ·simp;rw[hc];exact E1 (Ai _ hn)
  have hone:∀v,v∈news→v.oneCell'=true:=by
   intro v hv;obtain⟨j,hj,hv⟩:=c1h u1 hv;exact a5q (u2' j hj) v hv
  have hzs:zv.cells.size=i.size:=by
   have h1:=a6t p7;have h2:=a1j (a6f (A:=A) (P:=P) (Z:=Z) (h:=w.heap) hz);rw[←AN,h1,h2,q9]
  obtain⟨v',w',g1,g2,g3,g4,g5,g6,g7⟩:=b4w (P:=P) (w:=w) (T:=T) (T2:=T2) (ty:=o.type) (v:=a.eval bo) (base:=base) (n:=n) (cap:=cap) (m:=m.length) (cs:=cs) (news:=news) q1 h2 hu2 q3 p6 hzs
   (by omega) (by rw[hsz];exact hb) (by rw[hsz];exact u1) hone u4 (fun w' hw'=>by rw[hsz];exact u5 w' hw') (by rw[q4,←hl];exact hroom)
  have hrun:(execOp a.eval o).run P w=.ok (.value v') w':=by
   simp only[execOp,hop,resolve,hc,hargs,hats,AK,BJ,AI,invoke,builtin];simp[hv,g1]
  have hl':l.length+m.length≤room:=AM (BB _ q5) hroom;have hbase:∀b0,base=some ⟨b0,0,none⟩→b0∈X∧b0∉fps.flatten:=by
   rintro b0 rfl;exact⟨hX _ (by simp[addB]),(AO.1 hnd).1⟩
  have hfX:∀b,b∈fps.flatten→b∈X:=fun b hb=>hX b (c2m.2 (.inr hb))
  have hfn:fps.flatten.Nodup:=by
   cases base with
   |none=>exact hnd
   |some _=>exact(AO.1 hnd).2
  have hZh:∀b,Z b→w'.heap[b]?=w.heap[b]?:=fun b hb=>g6 b (hrel.zb b hb) fun h=>hrel.xnotZ b (hbase b h).1 hb
  have hFh:∀b,b∈fps.flatten→w'.heap[b]?=w.heap[b]?:=fun b hb=>g6 b (hrel.xb b (hfX b hb)) fun h=>(hbase b h).2 hb
  have hXh:∀b,b<w.heap.size→b∉X→w'.heap[b]?=w.heap[b]?:=fun b hb hx=>g6 b hb fun h=>hx (hbase b h).1
  refine⟨_,a0c rfl hk,?_⟩;rcases g7 with⟨rfl,h0,rfl,rfl⟩|⟨b',c',cap',rfl,v1,v2,v3,v4,v5,v6⟩
  ·have hlm:l++m=[]:=Bm (by rw[Ac];omega);rw[hlm];exact b5p (fp:=[]) hrel hdst hd hrun g5 g2 g3 g4 hXh ⟨_,d8k,c1q⟩ Ax (by simp) trivial
  ·rw[hsz] at v2 v5;have hrep:Rep A P (.sl .own e0 t) Z w'.heap [.slice (some ⟨b',0,none⟩) (n+m.length) cap'] (l++m) (b'::(fps++As m.length []).flatten):=by
    refine⟨_,_,_,rfl,by rw[Ac,hl],v3,by rw[←hl];exact hroom,by omega,.inr ⟨b',c',_,rfl,⟨v1,fun he=>v6 (hnm he)⟩,v2,rfl,by simp[hfl,hl],?_⟩⟩;refine f0k (by rw[hl];exact hcsl) u1 (by omega) (fun i hi=>a0g (hel i hi) (fun b=>id) fun b hb=>hb.elim (hZh b) fun hb=>hFh b (a2p hb)) (fun i hi=>a0g (u2' i hi) (fun b=>id) fun b hb=>hb.elim (hZh b) (by simp)) (by rw[hl];exact v5)
   rw[b7a] at hrep;refine b5p (fp:=b'::fps.flatten) hrel hdst hd hrun g5 g2 g3 g4 hXh ⟨_,a1c rfl rfl (by simp),hrep⟩ ?_ ?_ trivial
   ·refine AO.2 ⟨fun hb=>?_,hfn⟩;rcases v4 with h|h
    ·exact(hbase b' h).2 hb
    ·have:=hrel.xb b' (hfX b' hb);omega
   ·intro b hb;rcases A3.1 hb with rfl|hb
    ·exact v4.imp (fun h=>(hbase _ h).1) id
    ·exact .inl (hfX b hb)
 ·simp at hk
theorem f0h{e0:Nat}{t:Ty}{l:List t.den}{cs0:List Value}{fs:List Nat}(hr:Rep A P (.sl .own e0 t) Z h cs0 l fs)(hnd:fs.Nodup){k:Nat}(hk:k≤l.length) :
  ∃(base:Option Addr) (n cap:Nat) (cs:List Value) (fps:List (List Nat)),cs0=[.slice base n cap]∧n=l.length∧c8a h t.size base k cap cs∧fps.length=k∧(∀i (hi:i<(l.take k).length),Rep A P t Z h (seg cs (i*t.size) t.size) (l.take k)[i] (fps.getD i [])) ∧
   (∀b,b∈addB (base.map (·.block)) fps.flatten→b∈fs)∧(addB (base.map (·.block)) fps.flatten).Nodup∧(cap=0→base.map (·.add 0)=base)∧(e0≠1→∀b0,base=some ⟨b0,0,none⟩→NoMk h b0):=by
 obtain⟨a0,n,cap,rfl,h1,h2,h3,h4,h5⟩:=hr;rcases h5 with⟨rfl,rfl,rfl,rfl⟩|⟨b,c,fps,rfl,g1,g2,rfl,g4,g5⟩
 ·simp at h1 hk;subst h1;subst hk;exact⟨none,0,0,[],[],rfl,rfl,.inl ⟨rfl,rfl,rfl,rfl⟩,rfl,fun i hi=>by simp at hi,by simp[addB],by simp[addB],fun _=>rfl,fun _ b0 h0=>by cases h0⟩
 ·have hsub:∀b',b'∈(fps.take k).flatten→b'∈fps.flatten:=by
   intro b' hb;obtain⟨x,hx,hb⟩:=B6.1 hb;exact B6.2 ⟨x,List.mem_of_mem_take hx,hb⟩
  refine⟨_,n,cap,c.toList.take (k*t.size),fps.take k,rfl,h1,.inr ⟨b,c,rfl,g1.blk,g2,by omega,rfl⟩,by simp;omega,fun i hi=>?_,?_,?_,fun _=>by simp[CO],fun he b0 h0=>by cases h0;exact g1.nm he⟩
  ·have hi':i<k:=by rw[A7] at hi;omega
   have:=g5 i (by omega);rw[Cq];have e1:(fps.take k).getD i []=fps.getD i []:=by simp[BC,AV,hi']
   rw[e1,b0k (by rw[←AC];exact Ai _ (by omega))];exact this
  ·intro b' hb;rcases c2m.1 hb with hb|hb
   ·simp at hb;subst hb;simp
   ·exact List.mem_cons_of_mem _ (hsub b' hb)
  ·simp only[Ca,addB];refine AO.2 ⟨fun hb=>(AO.1 hnd).1 (hsub _ hb),?_⟩;have:=(AO.1 hnd).2;rw[←List.take_append_drop k fps,EK] at this;exact(Ak.1 this).1
theorem e6x(htab:a3c P C)(hrel:Rel A P C B e a w Z F [])(hs:Sub r e){d:Nat}(hdst:o.dst=some d)(hd:a4f C B d){c:Call}{ty:Nat}
  (hop:o.op=.call c) (hc:c.callee=.builtin .append) {k:List Up→Option R} {res:R} (hk:sem C (.call c) ty o.dst r k=some res) :
  ∃us,k us=some res∧Snd A P C B e a w us o:=by
 simp only[sem,hc] at hk;rw[hdst] at hk;have hmain:∀{T T2:TypeId} {u2:TypeDesc},c.argTypes=#[T,T2]→P.underlying T2=some u2→(∀k,u2≠.int k)→appK C c.args.toList T (some d) r k=some res→∃us,k us=some res∧Snd A P C B e a w us o:=by
  intro T T2 u2 hats h2 hu2 hk0;unfold appK at hk0;split at hk0
  ·rename_i ao bo m0 e0 te0 hargs' hT;have hargs:c.args=#[ao,bo]:=by rw[←By (xs:=c.args),hargs']
   have fin':∀{us:List Up} {F':Nat→List Nat} {X':List Nat} {e1:Nat} {t:Ty} {l:List t.den} {base:Option Addr} {n cap:Nat} {cs:List Value} {fps:List (List Nat)},Rel A P C B (e.app us) a w Z F' X' →
     a.eval ao=.slice base n cap→(e1≠1→∀b0,base=some ⟨b0,0,none⟩→NoMk w.heap b0)→c8a w.heap t.size base n cap cs→l.length=n→fps.length=n→(∀i (hi:i<l.length),Rep A P t Z w.heap (seg cs (i*t.size) t.size) l[i] (fps.getD i [])) →
     (∀b,b∈addB (base.map (·.block)) fps.flatten→b∈X')→(addB (base.map (·.block)) fps.flatten).Nodup →
     (match decide (t.imm=te0.imm)&&AB e1 e0&&(zeroCells te0).isSome with
      |true=>appK.srcK true t bo (upd r []) fun m=>if(l.length+m.length)*e1≤room then fin (some d) (.val (.sl .own e1 t) (l++m)) us k else none
      |false=>none)=some res→∃us,k us=some res∧Snd A P C B e a w us o:=by
    intro us F' X' e1 t l base n cap cs fps hrel' hv hnm hb hl hfl hel hX hnd hk1;cases hcond:(decide (t.imm=te0.imm)&&AB e1 e0&&(zeroCells te0).isSome) with
    |false=>rw[hcond] at hk1;simp at hk1
    |true =>
     rw[hcond] at hk1;simp only[Af] at hcond;obtain⟨⟨g1,g2⟩,g3⟩:=hcond;obtain rfl:=a1p g2;obtain⟨z,hz⟩:=Option.isSome_iff_exists.1 g3;exact f0m htab hrel hs hrel' hdst hd hop hc hargs hats hT h2 hu2 (of_decide_eq_true g1) hz hv hnm hb hl hfl hel hX hnd hk1
   have hnil:a.eval ao=.slice none 0 0→(match decide (te0.imm=te0.imm)&&AB e0 e0&&(zeroCells te0).isSome with
      |true=>appK.srcK true te0 bo (upd r []) fun m=>if(([]:List te0.den).length+m.length)*e0≤room then fin (some d) (.val (.sl .own e0 te0) (([]:List te0.den)++m)) [] k else none
      |false=>none)=some res→∃us,k us=some res∧Snd A P C B e a w us o:=fun hv hk =>
    fin' (us:=[]) (cs:=[]) (fps:=[]) (a3g hrel) hv (fun _ b0 h0=>by cases h0) (.inl ⟨rfl,rfl,rfl,rfl⟩) rfl rfl (fun i hi=>by simp at hi) (by simp[addB]) (by simp[addB]) hk
   cases ao with
   |tmp i =>
    have hview:(view r (.tmp i) fun t' x org=>match t',x with
      |.sl .own e t,l=>c4o r org fun us=>match decide (t.imm=te0.imm)&&AB e e0&&(zeroCells te0).isSome with
       |true=>appK.srcK true t bo (upd r []) fun m=>if(l.length+m.length)*e≤room then fin (some d) (.val (.sl .own e t) (l++m)) us k else none
       |false=>none
      |_,_=>none)=some res→∃us,k us=some res∧Snd A P C B e a w us o:=by
     intro hk1;obtain⟨t1,x1,org,hk1,hv⟩:=a0v hrel hs hk1;cases t1 with
     |sl m1 e1 te =>
      cases m1 with
      |own =>
       obtain⟨us,F',fs,cs0,q1,q2,q3,q4,q5⟩:=c0k hrel hs hv hk1;obtain⟨base',n',cap',cs',fps,v1,v2,v3,v4,v5,v6,v7,v8,v9⟩:=f0h (k:=Cj x1) q4 (by have:=q2.xnodup;rw[A9] at this;exact this) (Ar _);subst v1;have hval:=a0n rfl q3;simp only[List.take_length] at v5;subst v2;exact fin' q2 hval v9 v3 rfl v4 v5 (fun b hb=>by rw[A9];exact v6 b hb) v7 q1
      |_=>simp at hk1
     |_=>simp at hk1
    cases hri:(r i).s with
    |nls =>
     dsimp only at hk0;rw[hri] at hk0;dsimp only at hk0;have hie:=a3r hs hri (by simp);have ho:=hrel.own i;rw[←hie,hri] at ho;exact hnil ho.2 hk0
    |sub p v cc lo hi' =>
     simp only[hri] at hk0;have hie:=a3r hs hri (by simp);have hi2:(e.get i).s=.sub p v cc lo hi':=by rw[←hie];exact hri
     split at hk0
     ·obtain⟨t0,x0,h1,h2',h3,hk1⟩:=a8m hk0;have hre:=hs p.root (a5u h1);have href:=hrel.ref i;rw[hi2] at href;rw[hre] at h1 h2' h3;obtain⟨hix,hat⟩:=href.2.2 h2' h3;obtain⟨cs,base,fp',t1,cs0,ad,x1,fs,fr,g1,g2,g3,g4,g5,g6,g7,g8⟩:=b7n (hrel.own p.root) h1 hat hk1;rw[g6] at hk1;cases t1 with
      |sl m1 e1 te =>
       cases m1 with
       |own =>
        obtain⟨us,F',fs',q1,q2,q3,q4⟩:=d1h hrel hs h1 g1 g2 g3 g4 (fun k=>g6 k) hre hk1;obtain⟨e2,te2,a0,n,cap,s1,s2,s3,s4,s5,s6,s7⟩:=g5;have hn:n=Cj x1:=by
         obtain⟨a1,n1,cap1,hh,h1',_⟩:=q3;rw[s2] at hh;simp only[AG,AR,and_true] at hh;rw[hh.2.1];exact h1'
        obtain⟨base',n',cap',cs',fps,v1,v2,v3,v4,v5,v6,v7,v8,v9⟩:=f0h (k:=hi'.toNat) q3 (by have:=q2.xnodup;rw[A9] at this;exact this) (by omega);rw[s2] at v1;simp only[AG,AR,and_true] at v1;obtain⟨rfl,rfl,rfl⟩:=v1;have hval:a.eval (.tmp i)=.slice a0 hi'.toNat cap:=by
         have hz:a0.map (fun x=>x.add 0)=a0:=by
          cases a0 with
          |none=>rfl
          |some ad=>simp[CO]
         have hlo0:(Int.ofNat 0).toNat=0:=rfl;rw[a5s,s7];simp only[hlo0,Nat.zero_mul,Nat.sub_zero,hz,if_true,ite_self]
        exact fin' q2 hval v9 v3 (by rw[A7];omega) v4 v5 (fun b hb=>by rw[A9];exact v6 b hb) v7 q1
       |_=>simp at hk1
      |_=>simp at hk1
     ·simp at hk0
    |_=>simp only[hri] at hk0;exact hview hk0
   |const v =>
    dsimp only at hk0;cases v with
    |slice a0 n0 c0 =>
     cases a0 with
     |none =>
      cases n0 with
      |zero =>
       cases c0 with
       |zero=>exact hnil rfl hk0
       |succ c0=>simp at hk0
      |succ n0=>simp at hk0
     |some a0=>simp at hk0
    |_=>simp at hk0
   |global g=>simp at hk0
   |func f=>simp at hk0
  ·simp at hk0
 split at hk
 ·rename_i T T2 hats';have hats:c.argTypes=#[T,T2]:=by rw[←By (xs:=c.argTypes),hats']
  split at hk
  ·rename_i m e0 te hT2;obtain⟨el,i,q1,_⟩:=a9v htab hT2;exact hmain hats q1 (by simp) hk
  ·rename_i hT2;exact hmain hats (c6h htab hT2) (by simp) hk
  ·simp at hk
 ·simp at hk
end Go.Rb

namespace Go.Rb
variable {A:Amb} {P:Program} {Z Z':Nat→Prop} {h h':Array Obj} {R:Type} {C:Ctx} {B:Base} {e:En} {a:Act} {w w':World} {F F0:Nat→List Nat} {X X0:List Nat} {r:Nat→Ent} {o:Oper}
def f8a(v:Option Value)(b:Option Int):Prop :=
 match v,b with
 |none,none=>True
 |some v,some n=>v=.int .i64 n
 |_,_=>False
theorem c8u(hrel:Rel A P C B e a w Z F X)(hs:Sub r e){lo:Option Operand}{k:Option Int→Option R}{res:R}(hk:cutK.bound r lo k=some res) :
  ∃b,k b=some res∧f8a (lo.map a.eval) b:=by
 unfold cutK.bound at hk;cases lo with
 |none=>exact⟨none,hk,trivial⟩
 |some x =>
  dsimp only at hk;obtain⟨t,y,org,hk,hv⟩:=a0v hrel hs hk;obtain⟨cs,fp,g1,g2⟩:=a6d hrel hv;split at hk
  ·obtain⟨_,rfl,_⟩:=g2;exact⟨_,hk,a0n rfl g1⟩
  ·simp at hk
theorem c3r{l h:Option Int}{n:Nat}{k:Int→Int→Option R}{res:R}(hk:cutK.range l h n k=some res) :
  ∃x y,k x y=some res∧0≤x∧x≤y∧y≤n∧x=l.getD 0∧y=h.getD n:=by
 unfold cutK.range at hk;split at hk
 ·exact⟨_,_,hk,Bu _,by omega,Bu _,rfl,rfl⟩
 ·split at hk
  ·exact⟨_,_,hk,‹_∧_›.1,‹_∧_›.2,Bu _,rfl,rfl⟩
  ·simp at hk
 ·split at hk
  ·exact⟨_,_,hk,Bu _,‹_∧_›.1,‹_∧_›.2,rfl,rfl⟩
  ·simp at hk
 ·split at hk
  ·rename_i hc;exact⟨_,_,hk,hc.1,hc.2.1,hc.2.2,rfl,rfl⟩
  ·simp at hk
theorem d1f{isS:Bool}{len cap:Nat}{lo hi:Option Value}{l h:Option Int}(hl:f8a lo l)(hh:f8a hi h)(hc:len≤cap){x y:Int}(h0:0≤x)(hxy:x≤y)(hy:y≤len)(ex:x=l.getD 0)(ey:y=h.getD len) :
  (ET isS len cap lo hi none).run P w=.ok (x.toNat,y.toNat,cap) w:=by
 have hb:∀(n:Int) (m:Nat) (cd:BoundsCode),0≤n→n≤m→(Fe (.int .i64 n) m cd).run P w=.ok n.toNat w:=by
  intro n m cd h1 h2;simp[Fe,asIntOf,h1,h2]
 unfold ET;cases lo with
 |none =>
  cases l with
  |some _=>exact hl.elim
  |none =>
   cases hi with
   |none =>
    cases h with
    |some _=>exact hh.elim
    |none=>simp at ex ey;subst ex;subst ey;simp
   |some v =>
    cases h with
    |none=>exact hh.elim
    |some m =>
     obtain rfl:=hh;simp at ex ey;subst ex;subst ey;simp[hb y cap _ (by omega) (by omega)]
 |some u =>
  cases l with
  |none=>exact hl.elim
  |some n =>
   obtain rfl:=hl;simp at ex;subst ex;cases hi with
   |none =>
    cases h with
    |some _=>exact hh.elim
    |none=>simp at ey;subst ey;simp[hb x len _ h0 hxy]
   |some v =>
    cases h with
    |none=>exact hh.elim
    |some m =>
     obtain rfl:=hh;simp at ey;subst ey;have h3:=hb y cap;have h4:x≤(y.toNat:Int):=by omega
     simp[h3 _ (by omega) (by omega),hb x y.toNat _ h0 h4]
theorem d0e(s:ByteArray)(i j:Nat):a2c (s.extract i j)=((a2c s).take j).drop i:=by
 unfold a2c;rw[Er,Array.toList_extract,List.extract_eq_take_drop];rw[←List.map_take,←FQ,List.drop_take]
theorem e9x(htab:a3c P C)(hrel:Rel A P C B e a w Z F [])(hs:Sub r e){d:Nat}(hdst:o.dst=some d)(hd:a4f C B d){T:Nat}{x:Operand}{lo hi:Option Operand}{ty:Nat}
  (hop:o.op=.slice T x lo hi none) {k:List Up→Option R} {res:R} (hk:sem C (.slice T x lo hi none) ty o.dst r k=some res) :
  ∃us,k us=some res∧Snd A P C B e a w us o:=by
 simp only[sem] at hk;rw[hdst] at hk;unfold cutK at hk;obtain⟨l,hk,hbl⟩:=c8u hrel hs hk;obtain⟨hh,hk,hbh⟩:=c8u hrel hs hk;obtain⟨t,y,org,hk,hv⟩:=a0v hrel hs hk;obtain⟨cs,fp,g1,g2⟩:=a6d hrel hv;cases hel:elOK C T t with
 |false=>rw[hel] at hk;simp at hk
 |true =>
  rw[hel] at hk;dsimp only at hk;obtain⟨tt,hTy,hi'⟩:∃tt,C.ty T=some tt∧tt.imm=t.imm:=by
   unfold elOK at hel;split at hel
   ·exact⟨_,‹_›,of_decide_eq_true hel⟩
   ·simp at hel
  have hrun0:∀{v:Value},(Ew T (a.eval x) (lo.map a.eval) (hi.map a.eval) none).run P w=.ok v w→(execOp a.eval o).run P w=.ok (.value v) w:=by
   intro v hv;simp[execOp,hop,hv]
  have hslice:∀{m:Md} {e0:Nat} {te:Ty} {a0:Option Addr} {n cap:Nat},t.imm=.sl m e0 te→a.eval x=.slice a0 n cap→n≤cap→∀{u v:Int},0≤u→u≤v→v≤n→u=l.getD 0→v=hh.getD n →
    (execOp a.eval o).run P w=.ok (.value (.slice (if cap=u.toNat then a0 else a0.map (·.add (u.toNat*te.size))) (v.toNat - u.toNat) (cap - u.toNat))) w:=by
   intro m e0 te a0 n cap hti hx0 hn u v q1 q2 q3 q4 q5;refine hrun0 ?_;rw[hx0];rw[hti] at hi';cases tt <;> simp[Ty.imm] at hi'
   all_goals (obtain⟨i,dd,h1,h2,h3,h4,_⟩:=(htab _ _ hTy).ex;cases dd <;> first|exact h4.elim|skip)
   obtain⟨_,hte,_⟩:=h4;have hz:=(htab _ _ hte).sizeOf w;have hsz:_=te.size:=a3x (t:=te) (t':=te) rfl;simp only[Ew,ED,AK,An h2,AI,d1f hbl hbh hn q1 q2 q3 q4 q5,hz,BJ];rw[←hi'.2.2,a1e]
  split at hk
  ·
   obtain⟨_,s,rfl,rfl,hsz⟩:=g2;have hx0:=a0n rfl g1;obtain⟨u,v,hk,q1,q2,q3,q4,q5⟩:=c3r hk;have hll:=a4h s;rw[hll] at q3 q5;have hT:C.ty T=some .str:=by
    cases tt <;> simp[Ty.imm] at hi';exact hTy
   refine⟨_,a0c rfl hk,a6m (us:=[]) (cs:=[.string (s.extract u.toNat v.toNat)]) (a3g hrel) hdst hd (hrun0 ?_) (a1c rfl rfl (by simp)) ⟨rfl,_,rfl,(d0e s _ _).symm,?_⟩⟩
   ·rw[hx0];simp[Ew,ED,An (c6h htab hT),d1f hbl hbh (Ar _) q1 q2 q3 q4 q5]
   ·have:(s.extract u.toNat v.toNat).size≤s.size:=by
     rw[ByteArray.size_extract];omega
    omega
  ·
   rename_i e0 te l0;obtain⟨u,v,hk,q1,q2,q3,q4,q5⟩:=c3r hk;obtain⟨a0,n,cap,rfl,rfl,h5,h6,h7,h8,h9⟩:=g2;have hx0:=a0n rfl g1;rw[←h5] at q3 q5;have hrun:=hslice (m:=.imm) (e0:=e0) (te:=te.imm) rfl hx0 h6 q1 q2 q3 q4 q5;have hlen:((l0.take v.toNat).drop u.toNat).length=v.toNat - u.toNat:=by rw[B8,A7];omega
   refine⟨_,a0c rfl hk,a6m (us:=[]) (a3g hrel) hdst hd hrun (a1c rfl rfl (by simp)) ⟨_,_,_,rfl,rfl,hlen.symm,by omega,?_,by omega,?_⟩⟩
   ·refine AM (Ai _ (by omega)) h7
   ·rcases h9 with rfl|⟨ad,cells,rfl,p1,p2,p3⟩
    ·left;simp
    ·by_cases hz:v.toNat - u.toNat=0
     ·left;exact Bm (by rw[hlen];exact hz)
     ·right;rw[if_neg (by omega),a1e];have hmul:u.toNat*te.size+(v.toNat - u.toNat)*te.size≤n*te.size:=by
       rw[←AA];exact Ai _ (by omega)
      refine⟨_,seg cells (u.toNat*te.size) ((v.toNat - u.toNat)*te.size),rfl,?_,?_,fun j hj=>?_⟩
      ·show Z (ad.add _).block;rw[a8j p2.1];exact p1
      ·show Row w.heap (ad.add _) _ _;rw[a8j p2.1];exact p2.sub hmul
      ·rw[hlen] at hj;have hjm:j*te.size+te.size≤(v.toNat - u.toNat)*te.size:=by rw[←AC];exact Ai _ (by omega)
       rw[a9u hjm,←AA,D8,Cq];exact p3 (u.toNat+j) (by omega)
  ·
   rename_i e0 te l0;unfold c5z at hk;have hfin:∀{p:Pl} {t0:Ty} {cs':List Value} {base:Option Nat} {cs0:List Value} {ad:Option Addr},p.ix=none→r p.root=e.get p.root→(e.get p.root).s.rootTy=some t0→b0q w.heap (e.get p.root).s (a.tm p.root) cs' base →
     Loc w.heap p t0 cs' base (.sl .own e0 te) cs0 ad→VC (.sl .own e0 te) (a.eval x) cs0→(∃fs,Rep A P (.sl .own e0 te) Z w.heap cs0 l0 fs) →
     (cutK.range l hh (Cj l0) fun u v=>fin (some d) (.sub p (r p.root).v (r p.root).c u v) [] k)=some res→∃us,k us=some res∧Snd A P C B e a w us o:=by
    intro p t0 cs' base cs0 ad hix hre hrt hrc hloc hvc hrep hk;obtain⟨u,v,hk,q1,q2,q3,q4,q5⟩:=c3r hk;obtain⟨fs,a0,n,cap,rfl,h5,h6,h7,h8,h9⟩:=hrep;have hx0:=a0n rfl hvc;rw[←h5] at q3 q5;have hrun:=hslice (m:=.imm) (e0:=e0) (te:=te.imm) rfl hx0 h6 q1 q2 q3 q4 q5;rw[hre] at hk;refine⟨_,a0c rfl hk,a2f (us:=[]) (fp:=[]) (a3g hrel) hdst hd hrun rfl Ax (by simp) ⟨Ar _,Ar _,fun _ _=>⟨hix,t0,cs',base,hrt,hrc,.inl ⟨_,_,ad,hloc,e0,te.imm,a0,n,cap,rfl,rfl,q1,q2,q3,h6,rfl⟩⟩⟩⟩
   have hk9:=hk;clear hk;cases org with
   |none=>simp at hk9
   |root i =>
    dsimp only at hk9;obtain⟨rfl,h2,h3⟩:=hv;have ho:=hrel.own i;rw[h2] at ho;obtain⟨cs1,k1,k2⟩:=ho;exact hfin (p:=⟨i,[],none⟩) (t0:=.sl .own e0 te) (base:=none) (ad:=none) rfl h3 (by simp[h2,SV.rootTy]) (by simp only[h2];exact⟨k1,rfl⟩) ⟨0,rfl,(b1n (a1j k2)).symm,rfl⟩ k1 ⟨_,k2⟩ hk9
   |place p =>
    dsimp only at hk9;split at hk9
    ·simp at hk9
    ·rename_i hix;obtain⟨t0,x0,cs1,base,fp',cs0,ad,fs,fr,k1,k2,k3,k4,k5,k6,k7,k8,k9,k10,_⟩:=b9w hrel hv;exact hfin (by simpa[Pl.idx] using hix) k10 (b4a k1) k2 k5 k9 ⟨_,k8⟩ hk9
  ·simp at hk
end Go.Rb

namespace Go.Rb
variable {A:Amb} {P:Program} {Z Z':Nat→Prop} {h h':Array Obj} {R:Type} {C:Ctx} {B:Base} {e:En} {a:Act} {w w':World} {F F0:Nat→List Nat} {X X0:List Nat} {r:Nat→Ent} {o:Oper}
theorem e4v{c:List Value}{i:Nat}{v:Value}{vs:List Value}(hi:i<c.length):a1d (c.set i v) (i+1) vs=a1d c i (v::vs):=by
 unfold a1d;have h1:(c.set i v).take (i+1)=c.take i++[v]:=by
  rw[List.take_add_one,List.take_set_of_le (Ar _),List.getElem?_set_self hi];rfl
 have h2:(c.set i v).drop (i+1+vs.length)=c.drop (i+(v::vs).length):=by
  rw[List.drop_set_of_lt (by omega),Bd];congr 1;omega
 rw[h1,h2];simp
theorem d6a:∀(vs:List Value) (off k:Nat) (c:Array Value),off+k+vs.length≤c.size→((vs.zipIdx k).foldl (fun cs (x:Value×Nat)=>cs.setIfInBounds (off+x.2) x.1) c).toList=a1d c.toList (off+k) vs
 |[],off,k,c,_=>by simp[a1d]
 |v::vs,off,k,c,hl=>by
  rw[Fp,List.foldl_cons];rw[Bd] at hl;have ih:=d6a vs off (k+1) (c.setIfInBounds (off+k) v) (by simp;omega);rw[ih,Array.toList_setIfInBounds];exact e4v (by rw[AN];omega)
theorem d6e{place:Nat→Option (Nat×Nat)}{cs:List Value}{i off:Nat}{v:Value}{ys:List Value}{rest:List (Nat×Value)}(hv:v.cells.toList=ys)(hp:place i=some (off,ys.length))(hl:off+ys.length≤cs.length) :
  Da place cs.toArray ((i,v)::rest)=Da place (a1d cs off ys).toArray rest:=by
 have hs:v.cells.size=ys.length:=by rw[←hv];simp
 simp only[Da,hp];rw[if_neg (by simp[hs];omega)];congr 1;apply HX;have:=d6a ys off 0 cs.toArray (by simpa using hl);rw[←hv] at this;rw[←Array.foldl_toList,Array.toList_zipIdx];simpa[hv] using this
def c8e(place:Nat→Option (Nat×Nat))(t:Ty):Prop:=∀i off ti,a1h t i=some (off,ti)→place i=some (off,ti.size)
theorem c8e.imm{place:Nat→Option (Nat×Nat)}{t t':Ty}(hp:c8e place t)(hi:t'.imm=t.imm):c8e place t':=by
 intro i off ti hc;obtain⟨ti',h1,h2⟩:=c0w hi hc;rw[hp i off ti' h1,a3x h2]
theorem c5o:∀(ps:List (Nat×Operand)) {e:En} {r:Nat→Ent} {us:List Up} {t:Ty} {x:t.den} {Z:Nat→Prop} {F:Nat→List Nat} {X fp:List Nat} {cs:List Value} {k:(t:Ty)→t.den→List Up→Option R} {res:R},
  Rel A P C B (e.app us) a w Z F X→Sub r (e.app us)→Rep A P t Z w.heap cs x fp→X.Perm fp→c9e C ps r us t x k=some res →
  ∃t' x' us' Z' F' X' fp' cs',k t' x' us'=some res∧Rel A P C B (e.app us') a w Z' F' X'∧Rep A P t' Z' w.heap cs' x' fp'∧X'.Perm fp'∧t'.imm=t.imm ∧
   ∀place,c8e place t→Da place cs.toArray (ps.map fun p=>(p.1,a.eval p.2))=some cs'.toArray
 |[],e,r,us,t,x,Z,F,X,fp,cs,k,res,hrel,hs,hr,hX,hk=>⟨t,x,us,Z,F,X,fp,cs,hk,hrel,hr,hX,rfl,fun place _=>rfl⟩
 |(i,ob)::ps,e,r,us,t,x,Z,F,X,fp,cs,k,res,hrel,hs,hr,hX,hk=>by
  unfold c9e at hk;obtain⟨t2,y,ups,hk,⟨Z1,F1,fs,ys,g1,g2,g3,g4⟩,gs⟩:=b8u hrel hs hk;obtain⟨oc,ti,hc⟩:=c6p hk;have hr1:=a0g hr g2 fun _ _=>rfl
  obtain⟨x0,fs0,fr,q1,q2,q3,q4,q5⟩:=b7p hc hr1;rw[q1] at hk;split at hk
  ·rename_i hd;have hi:=of_decide_eq_true hd;obtain⟨t1,x1,fp1,u1,u2,u3,u4,_,_⟩:=q5 Z1 w.heap t2 ys y fs hi g4 (fun b=>id) (fun _ _=>rfl) hk;have hylen:ys.length=ti.size:=by rw[a1j g4,a3x hi]
   have hXn:(fs++(fr++fs0)).Nodup:=((Ay fs (hX.trans q2)).nodup_iff).1 g1.xnodup;have hX':(fr++fs).Nodup:=by
    rw[←Ae] at hXn;exact(Aw.nodup_iff).1 (Ak.1 hXn).1
   have hrel2:Rel A P C B (e.app (us++ups)) a w Z1 F1 (fr++fs):=by
    rw[a2b];refine g1.subX (fun b hb=>?_) hX';rcases Aq.1 hb with hb|hb
    ·exact Al _ ((hX.trans q2).mem_iff.2 (Am _ hb))
    ·exact Am _ hb
   obtain⟨t',x',us',Z',F',X',fp',cs',v1,v2,v3,v4,v5,v6⟩:=c5o ps hrel2 (by rw[a2b];exact gs) u4 u3.symm u1;refine⟨t',x',us',Z',F',X',fp',cs',v1,v2,v3,v4,by rw[v5,u2],fun place hp=>?_⟩;rw[Bc,d6e (a6t g3) (by rw[hp i oc ti hc,hylen]) (by omega)];exact v6 place (hp.imm u2)
  ·simp at hk
theorem b8f(htab:a3c P C):∀{fs:List Field} {p:Ty} {o0:Nat},a8r C fs p o0 →
  ∃places:List (Nat×Nat),fs.mapM (fun f=>(P.info? f.type).map fun i=>(f.offset,i.size))=some places∧∀i off ti,a1h p i=some (off,ti)→places[i]?=some (o0+off,ti.size)
 |f::fs,.pair a b,o0,hf=>by
  obtain⟨h1,h2,h3,h4⟩:=hf;obtain⟨i,dd,q1,q2,q3,_⟩:=(htab _ _ h2).ex;obtain⟨places,h5,h6⟩:=b8f htab h4;refine⟨(f.offset,i.size)::places,by simp[List.mapM_cons,q1,h5],fun j off ti hc=>?_⟩;cases j with
  |zero =>
   simp only[a1h,Ad,Aj] at hc;obtain⟨rfl,rfl⟩:=hc;simp[h1,q3]
  |succ j =>
   simp only[a1h] at hc;split at hc
   ·rename_i o' t' hc';simp only[Ad,Aj] at hc;obtain⟨rfl,rfl⟩:=hc;have:=h6 j o' t' hc';simp only[List.getElem?_cons_succ,this];simp;omega
   ·simp at hc
 |[],.unit,o0,_=>⟨[],rfl,fun i off ti hc=>by simp[a1h] at hc⟩
 |[],.pair _ _,_,hf=>hf.elim
 |[],.int _,_,hf|[],.bool,_,hf|[],.str,_,hf|[],.err,_,hf|[],.sl _ _ _,_,hf|[],.slh _ _,_,hf
 |[],.fn _ _,_,hf|[],.fn2 _ _ _,_,hf|[],.ptr _,_,hf|[],.lf _,_,hf|[],.st _,_,hf|[],.arr _ _,_,hf=>hf.elim
 |_::_,.int _,_,hf|_::_,.bool,_,hf|_::_,.str,_,hf|_::_,.err,_,hf|_::_,.sl _ _ _,_,hf|_::_,.slh _ _,_,hf
 |_::_,.fn _ _,_,hf|_::_,.fn2 _ _ _,_,hf|_::_,.ptr _,_,hf|_::_,.lf _,_,hf|_::_,.st _,_,hf|_::_,.arr _ _,_,hf|_::_,.unit,_,hf=>hf.elim
theorem e1t(t:Ty):t.zero.imm=t.imm:=by
 induction t <;> simp_all [Ty.zero,Ty.imm]
theorem e9w(htab:a3c P C)(hrel:Rel A P C B e a w Z F [])(hs:Sub r e){d:Nat}(hdst:o.dst=some d)(hd:a4f C B d){T:Nat}{parts:Array (Nat×Operand)}{ty:Nat}
  (hop:o.op=.build T parts) {k:List Up→Option R} {res:R} (hk:sem C (.build T parts) ty o.dst r k=some res) :
  ∃us,k us=some res∧Snd A P C B e a w us o:=by
 simp only[sem] at hk;rw[hdst] at hk;split at hk
 ·rename_i t hT;split at hk
  ·simp at hk
  ·rename_i z hz;have hzt:zeroCells (.st t)=some z:=hz;have hrz:Rep A P t.zero Z w.heap z t.zero.dflt []:=a6f (a7e hz);obtain⟨t',x',us',Z',F',X',fp',cs',v1,v2,v3,v4,v5,v6⟩:=c5o parts.toList (us:=[]) (a3g hrel) hs hrz (BO _) hk;obtain⟨i,dd,q1,q2,q3,q4,q5⟩:=(htab _ _ hT).ex;obtain⟨v0,p0,p1⟩:=q5 z hzt;cases dd with
   |struct fs =>
    obtain⟨places,p3,p4⟩:=b8f htab q4;have hpl:c8e (fun i=>places.toArray[i]?) t:=by
     intro i off ti hc;simpa using p4 i off ti hc
    have hfill:=v6 _ (hpl.imm (e1t t));have hz1:v0.cells=z.toArray:=by rw[←a6t p1]
    have hb:P.built T (parts.map fun p=>(p.1,a.eval p.2)).toList=some cs'.toArray:=by
     unfold Program.built;simp only[q1,q2,p0,p3,hz1,BX];exact hfill
    have hrun:(execOp a.eval o).run P w=.ok (.value (.agg cs'.toArray)) w:=by
     have:=run_build w T (parts.map fun p=>(p.1,a.eval p.2)) cs'.toArray hb;simp only[execOp,hop,AK];rw[this];rfl
    exact⟨_,a0c rfl v1,a2f (fp:=fp') v2 hdst hd hrun ⟨cs',by unfold VC;simp[Ty.agg],v3⟩ (v4.nodup_iff.1 v2.xnodup) (fun b hb=>v4.mem_iff.2 hb) trivial⟩
   |_=>exact q4.elim
 ·simp at hk
end Go.Rb

namespace Go.Rb
variable {A:Amb} {P:Program} {Z Z':Nat→Prop} {h h':Array Obj} {R:Type} {C:Ctx} {B:Base} {e:En} {a:Act} {w w':World} {F F0:Nat→List Nat} {X X0:List Nat} {r:Nat→Ent} {o:Oper}
theorem d2b{dst:Option Nat}{t:Ty}{z:List Value}(hz:zeroCells t=some z):(elTy C dst t).imm=t.imm∧zeroCells (elTy C dst t)=some z:=by
 unfold elTy;split
 ·exact⟨e1t t,a7e hz⟩
 ·exact⟨rfl,hz⟩
theorem c4r(hft:FtOK A P C){te:Ty}{n:Nat}:∀(ps:List (Nat×Operand)) {e:En} {r:Nat→Ent} {us:List Up} {l:List te.den} {Z:Nat→Prop} {F:Nat→List Nat} {X:List Nat} {fps:List (List Nat)} {cs:List Value}
  {k:List te.den→List Up→Option R} {res:R},
  Rel A P C B (e.app us) a w Z F X→Sub r (e.app us)→l.length=n→fps.length=n→cs.length=n*te.size→(∀i (hi:i<l.length),Rep A P te Z w.heap (seg cs (i*te.size) te.size) l[i] (fps.getD i []))→X.Perm fps.flatten →
  c8m C te n ps r us l k=some res →
  ∃(l':List te.den) (us':List Up) (Z':Nat→Prop) (F':Nat→List Nat) (X':List Nat) (fps':List (List Nat)) (cs':List Value),k l' us'=some res∧Rel A P C B (e.app us') a w Z' F' X'∧l'.length=n∧fps'.length=n∧cs'.length=n*te.size ∧
   (∀i (hi:i<l'.length),Rep A P te Z' w.heap (seg cs' (i*te.size) te.size) l'[i] (fps'.getD i []))∧X'.Perm fps'.flatten ∧
   Da (fun i=>some (i*te.size,te.size)) cs.toArray (ps.map fun p=>(p.1,a.eval p.2))=some cs'.toArray
 |[],e,r,us,l,Z,F,X,fps,cs,k,res,hrel,hs,hl,hf,hc,hr,hX,hk=>⟨l,us,Z,F,X,fps,cs,hk,hrel,hl,hf,hc,hr,hX,rfl⟩
 |(i,ob)::ps,e,r,us,l,Z,F,X,fps,cs,k,res,hrel,hs,hl,hf,hc,hr,hX,hk=>by
  unfold c8m at hk;split at hk
  ·rename_i hin;have hin:i<n:=by simpa[In] using hin
   obtain⟨y,ups,hk,⟨Z1,F1,fs,ys,g1,g2,g3,g4⟩,gs⟩:=a9b hft hrel hs hk;have hylen:ys.length=te.size:=a1j g4;have hle:i*te.size+te.size≤n*te.size:=by rw[←AC];exact Ai _ hin
   have hsplit:=a8v (l:=fps) (j:=i) (by omega);have hXn:(fs++((fps.set i []).flatten++fps[i])).Nodup:=((Ay fs (hX.trans hsplit)).nodup_iff).1 g1.xnodup;have hsub:∀b,b∈(fps.set i []).flatten→b∈X:=fun b hb=>(hX.trans hsplit).mem_iff.2 (Am _ hb)
   have hX':((fps.set i fs).flatten).Perm ((fps.set i []).flatten++fs):=a7c fs (by omega);have hnd:((fps.set i []).flatten++fs).Nodup:=by
    rw[←Ae] at hXn;exact(Aw.nodup_iff).1 (Ak.1 hXn).1
   have hrel2:Rel A P C B (e.app (us++ups)) a w Z1 F1 (fps.set i fs).flatten:=by
    rw[a2b];refine g1.subX (fun b hb=>?_) (hX'.nodup_iff.2 hnd);rcases Aq.1 (hX'.mem_iff.1 hb) with hb|hb
    ·exact Al _ (hsub b hb)
    ·exact Am _ hb
   have hlen':(a1d cs (i*te.size) ys).length=n*te.size:=by rw[a4i (by omega)];exact hc
   obtain⟨l',us',Z',F',X',fps',cs',v1,v2,v3,v4,v5,v6,v7,v8⟩:=c4r hft ps (cs:=a1d cs (i*te.size) ys) (fps:=fps.set i fs) (l:=l.set i y) hrel2 (by rw[a2b];exact gs)
    (by simpa using hl) (by simpa using hf) hlen' (fun j hj=>by
     have hj':j<l.length:=by simpa using hj
     by_cases hij:i=j
     ·subst hij;rw[List.getElem_set_self,a3s hylen (by omega)];have:(fps.set i fs).getD i []=fs:=by simp[BC,show i<fps.length by omega]
      rw[this];exact g4
     ·rw[CD hij,a1z (by omega) (by rw[hylen];exact b4p hij)];have:(fps.set i fs).getD j []=fps.getD j []:=by simp[BC,C4 hij]
      rw[this];exact a0g (hr j hj') g2 fun _ _=>rfl) (BO _) hk
   refine⟨l',us',Z',F',X',fps',cs',v1,v2,v3,v4,v5,v6,v7,?_⟩;rw[Bc,d6e (a6t g3) (by rw[hylen]) (by show i*te.size+ys.length≤cs.length;omega)];exact v8
  ·simp at hk
theorem d4u{zc:Array Value}{n sz:Nat}(hz:zc.size=sz)(hsz:1≤sz):(Cw (n*sz)).map (fun i=>zc[i % zc.size]!)=(As n zc.toList).flatten.toArray:=by
 apply HX;have hfl:(As n zc.toList).flatten.length=n*sz:=by
  simp[hz]
 refine Eg (by simp[hz]) fun j h1 h2=>?_
 have hj:j<n*sz:=by simpa using h1
 simp only[BX,Array.toList_range,Eh,List.getElem_range];have hdiv:j / sz<n:=(Nat.div_lt_iff_lt_mul (by omega)).2 hj;have hseg:=a3t (x:=zc.toList) (n:=n) (i:=j / sz) hdiv;have hmod:j % sz<sz:=Nat.mod_lt _ (by omega);have h3:(seg (As n zc.toList).flatten (j / sz*zc.toList.length) zc.toList.length)[j % sz]?=(As n zc.toList).flatten[j]?:=by
  unfold seg;rw[AV,if_pos (by simpa[hz] using hmod),Bg];congr 1;rw[AN,hz,Nat.mul_comm];exact Nat.div_add_mod j sz
 rw[hseg] at h3;rw[hz];have h4:j % sz<zc.size:=by omega
 have h5:zc.toList[j % sz]?=some zc[j % sz]!:=by simp[h4]
 have h6:(As n zc.toList).flatten[j]?=some (As n zc.toList).flatten[j]:=Bb (by rw[hfl];exact hj);rw[h5,h6] at h3;simpa using Ag h3
theorem c5g{us:List Up}(hrel:Rel A P C B (e.app us) a w Z F X){d:Nat}(hdst:o.dst=some d)(hd:a4f C B d){te:Ty}{n cap e0:Nat}{l:List te.den}{cells:Array Value}{fps:List (List Nat)}
  (hrun:(execOp a.eval o).run P w=.ok (.value (.slice (some ⟨w.heap.size,0,none⟩) n cap)) w') (hos:w'.os=w.os) (hout:w'.output=w.output) (htape:w'.tape=w.tape)
  (hsz:w'.heap.size=w.heap.size+1) (hh:∀b,b<w.heap.size→w'.heap[b]?=w.heap[b]?) (hb:BlkE 0 w'.heap w.heap.size cells)
  (hl:l.length=n) (hn:n≤cap) (he:n*e0≤room) (hn2:n≤room) (hc:cells.size=cap*te.size) (hf:fps.length=n)
  (hr:∀i (hi:i<l.length),Rep A P te Z w.heap (seg cells.toList (i*te.size) te.size) l[i] (fps.getD i [])) (hX:X.Perm fps.flatten) :
  Snd A P C B e a w (us++[⟨d,.slot,.val (.sl .own e0 te) l⟩]) o:=by
 have hnm:w.heap.size∉fps.flatten:=fun hm=>by have:=hrel.xb _ (hX.mem_iff.2 hm);omega
 refine b5p (fp:=w.heap.size::fps.flatten) hrel hdst hd hrun (by omega) hos hout htape (fun b hb _=>hh b hb) ⟨_,a1c rfl rfl (by simp),_,_,_,rfl,hl.symm,hn,he,hn2,.inr ⟨w.heap.size,cells,fps,rfl,hb.any e0,hc,rfl,by omega,fun i hi=>?_⟩⟩
  (AO.2 ⟨hnm,hX.nodup_iff.1 hrel.xnodup⟩) (fun b hb=>?_) trivial
 ·exact a0g (hr i hi) (fun b=>id) fun b hb=>hh b (hb.elim (hrel.zb b) fun hb=>hrel.xb b (hX.mem_iff.2 (a2p hb)))
 ·rcases A3.1 hb with rfl|hb
  ·exact .inr (Ar _)
  ·exact .inl (hX.mem_iff.2 hb)
theorem b7y(n:Nat):(As n ([]:List Nat)).flatten=[]:=by induction n <;> simp_all [EL]
theorem d7f{p:Pl}{v c j:Nat}(hrel:Rel A P C B e a w Z F [])(hs:Sub r e)(hj:(r j).s=.ptr p v c)(hv:(r p.root).v=v)(hi:p.idx=false)(hr:(r p.root).s.isRoot=true) :
  ∃ad,a.tm j=.pointer (some ad)∧f1v e a.tm w.heap (p,v,c) (.pointer (some ad)):=by
 have h1:=hs j (by rw[hj];simp);have h2:=hs p.root (by intro h;rw[h] at hr;cases hr);have h3:=hrel.ref j;rw[←h1,hj] at h3;have h4:f1v e a.tm w.heap (p,v,c) (a.tm j):=h3;obtain⟨_,_,g⟩:=h3;obtain⟨t,cs,base,k1,k2,k3⟩:=g (by rw[←h2];exact hv) (fun hx=>by rw[Pl.idx] at hi;rw[hi] at hx;cases hx);rcases k3 with⟨t0,cs0,ad,_,ad',_,k4⟩|⟨k4,_⟩
 ·exact⟨ad',k4,k4 ▸ h4⟩
 ·rw[Pl.idx] at hi;rw[hi] at k4;cases k4
theorem c7b(hrel:Rel A P C B e a w Z F [])(hs:Sub r e):∀(ps:List (Nat×Operand)) (m:Nat) {l:List (Pl×Nat×Nat)},c8k r ps m=some l →
  ∃vs:List Value,vs.length=l.length∧ps.map (fun p=>(p.1,a.eval p.2))=(vs.zipIdx m).map (fun x=>(x.2,x.1))∧0<l.length ∧
   ∀i (hi:i<l.length),∃ad,vs[i]?=some (.pointer (some ad))∧f1v e a.tm w.heap l[i] (.pointer (some ad))
 |[],m,l,h=>by simp[c8k] at h
 |[(i,.tmp j)],m,l,h=>by
  unfold c8k at h;split at h
  ·rename_i p v c hj;split at h
   ·rename_i hb;simp only[Af,B2] at hb;obtain⟨⟨⟨b1,b2⟩,b3⟩,b4⟩:=hb;obtain⟨ad,g1,g2⟩:=d7f hrel hs hj (AF b2) b3 b4;obtain rfl:=Ag h;refine⟨[a.tm j],rfl,by simp[a5s,AF b1],by simp,fun k hk=>?_⟩;have:k=0:=by simp at hk;omega
    subst this;exact⟨ad,by simp[g1],g2⟩
   ·cases h
  ·cases h
 |[(i,.const _)],m,l,h=>by simp[c8k] at h
 |[(i,.global _)],m,l,h=>by simp[c8k] at h
 |(i,.tmp j)::x::ps,m,l,h=>by
  unfold c8k at h;split at h
  ·rename_i p v c l' hj hl';split at h
   ·rename_i hb;simp only[Af,B2] at hb;obtain⟨⟨⟨b1,b2⟩,b3⟩,b4⟩:=hb;obtain⟨ad,g1,g2⟩:=d7f hrel hs hj (AF b2) b3 b4;obtain rfl:=Ag h;obtain⟨vs,q1,q2,q3,q4⟩:=c7b hrel hs (x::ps) (m+1) hl';refine⟨a.tm j::vs,by simp[q1],?_,by simp,fun k hk=>?_⟩
    ·rw[Bc,q2,Fp,Bc,a5s,AF b1]
    ·cases k with
     |zero=>exact⟨ad,by simp[g1],g2⟩
     |succ k =>
      obtain⟨ad',g3,g4⟩:=q4 k (by simpa using hk);exact⟨ad',by simpa using g3,by simpa using g4⟩
   ·cases h
  ·cases h
 |(i,.const _)::x::ps,m,l,h=>by simp[c8k] at h
 |(i,.global _)::x::ps,m,l,h=>by simp[c8k] at h
theorem f7w(hrel:Rel A P C B e a w Z F []){d:Nat}(hdst:o.dst=some d)(hd:a4f C B d){l:List (Pl×Nat×Nat)}{cells:Array Value}
  (hrun:(execOp a.eval o).run P w=.ok (.value (.slice (some ⟨w.heap.size,0,none⟩) l.length l.length)) w') (hos:w'.os=w.os) (hout:w'.output=w.output) (htape:w'.tape=w.tape)
  (hsz:w'.heap.size=w.heap.size+1) (hh:∀b,b<w.heap.size→w'.heap[b]?=w.heap[b]?) (hb:BlkE 0 w'.heap w.heap.size cells) (hc:cells.size=l.length)
  (hp:∀i (hi:i<l.length),∃ad,cells[i]?=some (.pointer (some ad))∧f1v e a.tm w.heap l[i] (.pointer (some ad))) :
  Snd A P C B e a w [⟨d,.slot,.pts l⟩] o:=by
 intro next Q hnext;unfold Ch;rw[hrun,C6,hdst];have hdn:d<a.tmps.size:=AU hd.1 hrel.nt;refine hnext _ _ (fun b=>Z b∨b=w.heap.size) (setF F d []) ?_;refine hrel.dst hd (Y:=[]) (X':=[]) (by simp) (by omega) hos hout htape (fun b h _=>hh b h) (fun b=>.inl) (fun b hb=>hb.imp id fun h=>.inr (by omega)) (fun b hb=>hb.elim (fun h=>by have:=hrel.zb b h;omega) fun h=>by omega)
  ⟨rfl,_,rfl,.inr rfl⟩ Ax (by simp) (by simp) ?_
 obtain⟨el,fr,hbk,_⟩:=hb.blk;refine⟨_,cells,el,fr,rfl,hbk,hc,fun i hi=>?_⟩;obtain⟨ad,g1,g2,g3,g4⟩:=hp i hi;refine⟨ad,g1,?_⟩;by_cases hq:l[i].1.root=d
 ·exact⟨by rw[a0j,if_pos hq.symm,←hq];simp only[Ent.bump];omega,by rw[a0j,if_pos hq.symm,←hq];simp only[Ent.bump];omega,fun k1=>by
   rw[a0j,if_pos hq.symm,←hq] at k1;simp only[Ent.bump] at k1;omega⟩
 ·have hget:(e.app [⟨d,.slot,.pts l⟩]).get l[i].1.root=e.get l[i].1.root:=by rw[a0j,if_neg (BM hq)]
  exact⟨by rw[hget];exact g2,by rw[hget];exact g3,fun k1 k2=>b2i (hrel.own _) (by rw[hget]) (by rw[c5n hdn,if_neg hq]) (fun b hb=>hh b (hrel.fb _ b hb)) (g4 (by rw[←hget];exact k1) fun hx=>by rw[←hget];exact k2 hx)⟩
theorem d0d(htab:a3c P C)(hft:FtOK A P C)(hrel:Rel A P C B e a w Z F [])(hs:Sub r e){d:Nat}(hdst:o.dst=some d)(hd:a4f C B d){T n:Nat}{parts:Array (Nat×Operand)}{ty:Nat}
  (hop:o.op=.buildSlice T n parts) {k:List Up→Option R} {res:R} (hk:sem C (.buildSlice T n parts) ty o.dst r k=some res) :
  ∃us,k us=some res∧Snd A P C B e a w us o:=by
 simp only[sem] at hk;rw[hdst] at hk;cases hpt:c8k r parts.toList 0 with
 |some l =>
  rw[hpt] at hk;dsimp only at hk;split at hk
  ·rename_i e0 te0 hT hln;simp only[Af] at hln;have hn24:¬n>2 ^ 24:=by
    have:=of_decide_eq_true hln.2;omega
   have hln:=AF hln.1;obtain⟨vs,p1,p2,p3,p4⟩:=c7b hrel hs _ _ hpt;obtain⟨el,i,q1,q2,q3,q4,q5,q6,q7,q8,q9⟩:=a9v htab hT;obtain⟨i',r1,r2⟩:=(htab _ _ q2).pz _ rfl;rw[q3] at r1;obtain rfl:=Ag r1;have hsz1:i.size=1:=q9;obtain⟨w',g1,g2,g3,g4,g5,g6,g7⟩:=a4m (P:=P) (w:=w) el vs.toArray;have hw':w'=w.alloc (.cells vs.toArray el):=by
    have:(newRow el vs.toArray).run P w=.ok ⟨w.heap.size,0,none⟩ (w.alloc (.cells vs.toArray el)):=by simp[newRow]
    rw[g1] at this;exact(DB this).2
   have hv1:∀v∈vs,v.cells=#[v]:=by
    intro v hv;obtain⟨j,hj,rfl⟩:=Bf hv;obtain⟨ad,h1,_⟩:=p4 j (by omega);rw[Bb hj] at h1;rw[Ag h1];rfl
   have hrun:(execOp a.eval o).run P w=.ok (.value (.slice (some ⟨w.heap.size,0,none⟩) l.length l.length)) w':=by
    have key:(D3 T n (parts.map fun p=>(p.1,a.eval p.2))).run P w=.ok (.slice (some ⟨w.heap.size,0,none⟩) n n) w':=by
     rw[hw'];refine Io w T el n _ vs.toArray i (.pointer none) q1 q3 r2 (by rw[hsz1];omega) (by rw[hsz1];omega) ?_;rw[BX,p2,hsz1];exact Great.fill_flat vs _ hv1 (by simp;omega)
    simp only[execOp,hop,AK];rw[key,hln];rfl
   exact⟨_,a0c rfl hk,f7w hrel hdst hd hrun g2 g3 g4 g5 g6 g7 (by simpa using p1) (fun j hj=>by
    obtain⟨ad,h1,h2⟩:=p4 j hj;exact⟨ad,by simpa using h1,h2⟩)⟩
  ·simp at hk
 |none =>
 rw[hpt] at hk;dsimp only at hk;split at hk
 ·rename_i m e0 te0 hT;split at hk
  ·rename_i z hz hb;simp only[Af] at hb;have hb1:=of_decide_eq_true hb.1;have hb2:=of_decide_eq_true hb.2;obtain⟨hti,htz⟩:=d2b (C:=C) (dst:=some d) hz;generalize elTy C (some d) te0=te at hk hti htz hb1;obtain⟨el,i,q1,q2,q3,q4,q5,q6,q7,q8,q9⟩:=a9v htab hT;obtain⟨i',dd,r1,r2,r3,r4,r5⟩:=(htab _ _ q2).ex;rw[q3] at r1;obtain rfl:=Ag r1;obtain⟨zv,p0,p1⟩:=r5 z hz;have hsz:i.size=te.size:=by rw[q9,a3x hti]
   have hz1:zv.cells.toList=z:=a6t p1;have hzr:Rep A P te Z w.heap z te.dflt []:=a6f htz;have hzl:z.length=te.size:=a1j hzr;have hzs:zv.cells.size=te.size:=by rw[←AN,hz1,hzl]
   have hpos:1≤te.size:=by rw[a3x hti];exact q7
   have hlen0:(As n z).flatten.length=n*te.size:=by simp[hzl]
   obtain⟨l',us',Z',F',X',fps',cs',v1,v2,v3,v4,v5,v6,v7,v8⟩:=c4r hft parts.toList (us:=[]) (l:=As n te.dflt) (fps:=As n []) (cs:=(As n z).flatten) (a3g hrel) hs (by simp) (by simp) hlen0
    (fun j hj=>by
     have hj':j<n:=by simpa using hj
     rw[←hzl,a3t hj',E6];have:(As n ([]:List Nat)).getD j []=[]:=by simp[BC,hj']
     rw[this];exact hzr) (by rw[b7y]) hk
   have hn2:n≤room:=AM (BB _ q5) hb2;obtain⟨w',g1,g2,g3,g4,g5,g6,g7⟩:=a4m (P:=P) (w:=w) el cs'.toArray;have hrun:(execOp a.eval o).run P w=.ok (.value (.slice (some ⟨w.heap.size,0,none⟩) n n)) w':=by
    have hzrow:(Cw (n*i.size)).map (fun j=>zv.cells[j % zv.cells.size]!)=(As n z).flatten.toArray:=by
     rw[hsz,d4u hzs hpos,hz1]
    have hsmall:¬n*i.size>2 ^ 24:=by rw[hsz];omega
    have hz5:Da (fun i=>some (i*te.size,te.size)) (As n z).flatten.toArray (parts.map fun p=>(p.1,a.eval p.2)).toList=some cs'.toArray:=by rw[BX];exact v8
    have hw':w'=w.alloc (.cells cs'.toArray el):=by
     have:(newRow el cs'.toArray).run P w=.ok ⟨w.heap.size,0,none⟩ (w.alloc (.cells cs'.toArray el)):=by simp[newRow]
     rw[g1] at this;exact(DB this).2
    have key:(D3 T n (parts.map fun p=>(p.1,a.eval p.2))).run P w=.ok (.slice (some ⟨w.heap.size,0,none⟩) n n) w':=by
     rw[hw'];by_cases hn0:n*i.size=0
     ·have h0:n=0:=by
       rcases FF.1 hn0 with h|h
       ·exact h
       ·omega
      subst h0;simp only[List.replicate_zero,List.flatten_nil] at hz5;rw[←hsz] at hz5;rw[BX] at hz5;have e1:(Ig (fun _:Nat=>(default:Value)) (Cw 0))=#[]:=by simp[Cw]
      simp[D3,An q1,sizeOf,typeInfo,q3,newRow];rw[e1,hz5];simp
     ·exact Io w T el n _ cs'.toArray i zv q1 q3 p0 hsmall hn0 (by rw[hzrow,hsz];exact hz5)
    simp only[execOp,hop,AK];rw[key];rfl
   exact⟨_,a0c rfl v1,c5g v2 hdst hd hrun g2 g3 g4 g5 g6 g7 v3 (Ar _) hb2 hn2 (by simp[v5]) v4 (fun i hi=>v6 i hi) v7⟩
  ·simp at hk
 ·simp at hk
theorem d3b(htab:a3c P C)(hrel:Rel A P C B e a w Z F [])(hs:Sub r e){d:Nat}(hdst:o.dst=some d)(hd:a4f C B d){T:Nat}{x y:Operand}{ty:Nat}
  (hop:o.op=.makeSlice T x y) {k:List Up→Option R} {res:R} (hk:sem C (.makeSlice T x y) ty o.dst r k=some res) :
  ∃us,k us=some res∧Snd A P C B e a w us o:=by
 simp only[sem] at hk;rw[hdst] at hk;split at hk
 ·rename_i m e0 te0 hT;split at hk
  ·simp at hk
  ·rename_i z hz;obtain⟨hti,htz⟩:=d2b (C:=C) (dst:=some d) hz;generalize elTy C (some d) te0=te at hk hti htz;obtain⟨n,kd1,hn0,hk,hx⟩:∃n kd,(kd:IntKind).min≤n∧(sem.idxK r y fun m=>if 0≤n∧n≤m∧m*e0≤room then fin (some d) (.val (.sl .own e0 te) (As n.toNat te.dflt)) [] k else none)=some res∧a.eval x=.int kd n:=by
    obtain⟨n,kd,h1,h2,h3,h4⟩:=b5k hrel hs hk;exact⟨n,kd,h3,h1,h2⟩
   obtain⟨mm,kd2,hk,hy,_,_⟩:=b5k hrel hs hk;split at hk
   ·rename_i hc;obtain⟨c1,c2,c3⟩:=hc;obtain⟨el,i,q1,q2,q3,q4,q5,q6,q7,q8,q9⟩:=a9v htab hT;obtain⟨i',dd,r1,r2,r3,r4,r5⟩:=(htab _ _ q2).ex;rw[q3] at r1;obtain rfl:=Ag r1;obtain⟨zv,p0,p1⟩:=r5 z hz;have hsz:i.size=te.size:=by rw[q9,a3x hti]
    have hz1:zv.cells.toList=z:=a6t p1;have hzr:Rep A P te Z w.heap z te.dflt []:=a6f htz;have hzl:z.length=te.size:=a1j hzr;have hzs:zv.cells.size=te.size:=by rw[←AN,hz1,hzl]
    have hpos:1≤te.size:=by rw[a3x hti];exact q7
    have hzrow:(Cw (mm.toNat*i.size)).map (fun j=>zv.cells[j % zv.cells.size]!)=(As mm.toNat z).flatten.toArray:=by
     rw[hsz,d4u hzs hpos,hz1]
    have hmm:mm.toNat*e0≤room:=by
     have:(mm.toNat:Int)=mm:=B4 (by omega);have h2:((mm.toNat*e0:Nat):Int)≤(room:Nat):=by push_cast;rw[this];exact c3
     exact_mod_cast h2
    have hmr:mm.toNat≤room:=AM (BB _ q5) hmm;have hwrap:∀z:Int,0≤z→z≤mm→Aa.wrap z=z:=by
     intro z h1 h2;unfold room at hmr;simp only[Bh,Bi,AX];simp;omega
    obtain⟨w',g1,g2,g3,g4,g5,g6,g7⟩:=a4m (P:=P) (w:=w) el (As mm.toNat z).flatten.toArray;have hw':w'=w.alloc (.cells (As mm.toNat z).flatten.toArray el):=by
     have:(newRow el (As mm.toNat z).flatten.toArray).run P w=.ok ⟨w.heap.size,0,none⟩ (w.alloc (.cells (As mm.toNat z).flatten.toArray el)):=by simp[newRow]
     rw[g1] at this;exact(DB this).2
    have hb48:¬(281474976710656<(i.bytes:Int)*mm):=by
     rw[q4];have h3:(mm.toNat:Int)=mm:=B4 (by omega);have h4:((mm.toNat*e0:Nat):Int)≤(room:Nat):=by exact_mod_cast hmm
     push_cast at h4
     rw[h3,Int.mul_comm] at h4;unfold room at h4;omega
    have hrun:(execOp a.eval o).run P w=.ok (.value (.slice (some ⟨w.heap.size,0,none⟩) n.toNat mm.toNat)) w':=by
     rw[hw'];have hm1:¬mm<0:=by omega
     have hn1:¬n<0:=by omega
     have hnm:¬mm<n:=by omega
     have w1:=hwrap n c1 c2;have w2:=hwrap mm (by omega) (Bu _);by_cases hz0:mm.toNat*i.size=0
     ·have h0:mm.toNat=0:=by
       rcases FF.1 hz0 with h|h
       ·exact h
       ·omega
      have e1:(Ig (fun _:Nat=>(default:Value)) (Cw 0))=#[]:=by simp[Cw]
      simp[execOp,hop,Fq,An q1,asInt,asIntOf,hx,hy,typeInfo,q3,w1,w2,hm1,hn1,hnm,hb48,sizeOf,h0,newRow,askRoom,e1]
     ·simp[execOp,hop,Fq,An q1,asInt,asIntOf,hx,hy,typeInfo,q3,w1,w2,hm1,hn1,hnm,hb48,sizeOf,zeroValue,p0,hz0,newRow,hzrow]
    exact⟨_,a0c rfl hk,c5g (us:=[]) (fps:=As n.toNat []) (a3g hrel) hdst hd hrun g2 g3 g4 g5 g6 g7 (by simp) (by omega) (AM (Ai _ (by omega)) hmm) (by omega) (by simp[hzl]) (by simp)
     (fun j hj=>by
      have hj':j<n.toNat:=by simpa using hj
      show Rep A P te Z w.heap (seg (As mm.toNat z).flatten _ _) _ _;rw[←hzl,a3t (by omega),E6];have:(As n.toNat ([]:List Nat)).getD j []=[]:=by simp[BC,hj']
      rw[this];exact hzr) (by rw[b7y])⟩
   ·simp at hk
 ·simp at hk
end Go.Rb

namespace Go.Rb
variable {A:Amb} {P:Program} {Z Z':Nat→Prop} {h h':Array Obj} {R:Type} {C:Ctx} {B:Base} {e:En} {a:Act} {w w':World} {F F0:Nat→List Nat} {X X0:List Nat} {r:Nat→Ent} {o:Oper}
theorem d9k:∀{t:Ty} {i o:Nat} {t0:Ty},a1h t i=some (o,t0)→t.pure=true→t0.pure=true:=by
 intro t
 induction t with
 |pair a b iha ihb =>
  intro i o t0 hc hp;simp only[Ty.pure,Af] at hp;cases i with
  |zero=>simp only[a1h,Ad,Aj] at hc;obtain⟨rfl,rfl⟩:=hc;exact hp.1
  |succ i =>
   simp only[a1h] at hc;split at hc <;> simp only[Ad,Aj,reduceCtorEq] at hc;rename_i h;obtain⟨rfl,rfl⟩:=hc;exact ihb h hp.2
 |_=>intro i o t0 hc hp;simp[a1h] at hc
theorem b8s:∀{p:List Stp} {t:Ty} {o:Nat} {t0:Ty},a1w p t=some (o,t0)→t.pure=true→t0.pure=true
 |[],t,o,t0,hc,hp=>by simp only[a1w,Ad,Aj] at hc;obtain⟨rfl,rfl⟩:=hc;exact hp
 |.f i::p,t,o,t0,hc,hp=>by
  cases t with
  |st t =>
   simp only[a1w] at hc;split at hc
   ·rename_i h1;split at hc
    ·rename_i h2;simp only[Ad,Aj] at hc;obtain⟨rfl,rfl⟩:=hc;exact b8s h2 (d9k h1 hp)
    ·simp at hc
   ·simp at hc
  |_=>simp[a1w] at hc
 |.a j::p,t,o,t0,hc,hp=>by
  cases t with
  |arr n t =>
   simp only[a1w] at hc;split at hc
   ·split at hc
    ·rename_i h2;simp only[Ad,Aj] at hc;obtain⟨rfl,rfl⟩:=hc;exact b8s h2 hp
    ·simp at hc
   ·simp at hc
  |_=>simp[a1w] at hc
theorem d5r:∀{t:Ty} {i o:Nat} {t0:Ty},a1h t i=some (o,t0)→t.shal=true→t0.shal=true:=by
 intro t
 induction t with
 |pair a b iha ihb =>
  intro i o t0 hc hp;simp only[Ty.shal,Af] at hp;cases i with
  |zero=>simp only[a1h,Ad,Aj] at hc;obtain⟨rfl,rfl⟩:=hc;exact hp.1
  |succ i =>
   simp only[a1h] at hc;split at hc <;> simp only[Ad,Aj,reduceCtorEq] at hc;rename_i h;obtain⟨rfl,rfl⟩:=hc;exact ihb h hp.2
 |_=>intro i o t0 hc hp;simp[a1h] at hc
theorem e5t{t te:Ty}{e:Nat}(hp:t.pure=true):a6p t≠some (e,te):=by
 cases t with
 |sl m e' t'=>cases m <;> simp[a6p,Ty.pure] at hp ⊢
 |slh=>simp[Ty.pure] at hp
 |_=>simp[a6p]
theorem b7m:∀{p:List Stp} {t:Ty} {o:Nat} {tsl te:Ty} {e:Nat},a1w p t=some (o,tsl)→t.shal=true→a6p tsl=some (e,te)→tsl=.sl .own e te∧te.pure=true
 |[],t,o,tsl,te,e,hc,hp,he=>by
  simp only[a1w,Ad,Aj] at hc;obtain⟨rfl,rfl⟩:=hc;cases t with
  |sl m e' t' =>
   cases m <;> simp[a6p] at he;obtain⟨rfl,rfl⟩:=he;exact⟨rfl,hp⟩
  |slh e' t'=>simp[Ty.shal] at hp
  |_=>simp[a6p] at he
 |.f i::p,t,o,tsl,te,e,hc,hp,he=>by
  cases t with
  |st t =>
   simp only[a1w] at hc;split at hc
   ·rename_i o1 t1 h1;split at hc
    ·rename_i h2;simp only[Ad,Aj] at hc;obtain⟨rfl,rfl⟩:=hc;exact b7m h2 (d5r h1 hp) he
    ·simp at hc
   ·simp at hc
  |_=>simp[a1w] at hc
 |.a j::p,t,o,tsl,te,e,hc,hp,he=>by
  cases t with
  |arr n t=>exact absurd he (e5t (b8s hc hp))
  |_=>simp[a1w] at hc
theorem Wr.size{ad:Addr}{ys:List Value}(hw:Wr h h' ad ys):h'.size=h.size:=by
 obtain⟨_,_,_,_,_,_,_,_,_,_,hs⟩:=hw;exact hs
theorem Wr.other{ad:Addr}{ys:List Value}(hw:Wr h h' ad ys){b:Nat}(hb:b≠ad.block):h'[b]?=h[b]?:=by
 obtain⟨_,_,_,_,_,_,_,_,_,ho,_⟩:=hw;exact ho b hb
theorem c7v{s:SV}{t t1:Ty}{x:t.den}{x1:t1.den}(hs:RootIs s t x):(s.with t1 x1).rootTy=some t1:=by cases hs <;> rfl
theorem d0v{s:SV}{t t1:Ty}{x:t.den}{x1:t1.den}(hs:RootIs s t x){v:Value}{cs cs1:List Value}{base:Option Nat}(hc:b0q h s v cs base)(hi:t1.imm=t.imm)(hcb:c0f h' base cs cs1) :
  b0q h' (s.with t1 x1) v cs1 base:=by
 cases hs with
 |val =>
  obtain⟨h1,rfl⟩:=hc;obtain rfl:cs1=cs:=hcb;exact⟨b0c hi.symm h1,rfl⟩
 |box =>
  obtain⟨b,c,h1,h2,h3,rfl⟩:=hc;obtain⟨c1,g1,rfl⟩:=hcb;exact⟨b,c1,h1,g1,rfl,rfl⟩
theorem c3u{e e':En}{tm:Nat→Value}{l:List (Pl×Nat×Nat)}{v:Value}(hptr:∀p n c v,Ref e tm h (.ptr p n c) v→Ref e' tm h' (.ptr p n c) v)
  (hpk:∀b n c,v=.slice (some ⟨b,0,none⟩) n c→h'[b]?=h[b]?) (hr:Ref e tm h (.pts l) v):Ref e' tm h' (.pts l) v:=by
 obtain⟨b,c,el,fr,h1,h2,h3,h4⟩:=hr;refine⟨b,c,el,fr,h1,by rw[hpk b _ _ h1];exact h2,h3,fun i hi=>?_⟩;obtain⟨ad,g1,g2⟩:=h4 i hi;exact⟨ad,g1,hptr _ _ _ _ g2⟩
theorem c3p{e e':En}{tm:Nat→Value}{q n j:Nat}{v:Value}(hv:(e'.get q).v=(e.get q).v)(hs:∀l,(e.get q).s=.pts l→(e'.get q).s=.pts l)
  (hr:Ref e tm h (.pte q n j) v):Ref e' tm h' (.pte q n j) v:=by
 obtain⟨h1,h2⟩:=hr;refine⟨by rw[hv];exact h1,fun k=>?_⟩;obtain⟨l,b,g1,g2⟩:=h2 (by rw[←hv];exact k);exact⟨l,b,hs _ g1,g2⟩
theorem c6e(hrel:Rel A P C B e a w Z F X){rt:Nat}{t t1:Ty}{x:t.den}{x1:t1.den}{cs cs1:List Value}{base:Option Nat}(hs:RootIs (e.get rt).s t x)(hc:b0q w.heap (e.get rt).s (a.tm rt) cs base)(hi:t1.imm=t.imm)
  (hcb:c0f w'.heap base cs cs1) (hh:∀b,b∉F rt→w'.heap[b]?=w.heap[b]?) {s:SV} {v:Value} (hpk:∀l,s=.pts l→∀b n c,v=.slice (some ⟨b,0,none⟩) n c→w'.heap[b]?=w.heap[b]?) (hr:Ref e a.tm w.heap s v) :
  Ref (e.app [⟨rt,.cont,(e.get rt).s.with t1 x1⟩]) a.tm w'.heap s v:=by
 have hoth:∀{p:Pl} {Y:Ty→List Value→Option Addr→Prop},p.root≠rt→At e a.tm w.heap p Y→At (e.app [⟨rt,.cont,(e.get rt).s.with t1 x1⟩]) a.tm w'.heap p Y:=by
  intro p Y hp ha;refine b2i (hrel.own p.root) ?_ rfl (fun b hb=>hh b fun h=>hp (hrel.disj _ _ b hb h)) ha;rw[a0j,if_neg (BM hp)]
 have hg:(e.app [⟨rt,.cont,(e.get rt).s.with t1 x1⟩]).get rt=⟨(e.get rt).v,(e.get rt).c+1,(e.get rt).s.with t1 x1⟩:=by rw[a0j,if_pos rfl];rfl
 have hgo:∀q,q≠rt→(e.app [⟨rt,.cont,(e.get rt).s.with t1 x1⟩]).get q=e.get q:=fun q hq=>by rw[a0j,if_neg (BM hq)]
 have hptr:∀p n c v,Ref e a.tm w.heap (.ptr p n c) v→Ref (e.app [⟨rt,.cont,(e.get rt).s.with t1 x1⟩]) a.tm w'.heap (.ptr p n c) v:=by
  intro p n c v hr;obtain⟨h1,h2,h3⟩:=hr;by_cases hp:p.root=rt
  ·have hgr:(e.app [⟨rt,.cont,(e.get rt).s.with t1 x1⟩]).get p.root=⟨(e.get rt).v,(e.get rt).c+1,(e.get rt).s.with t1 x1⟩:=by rw[hp];exact hg
   rw[hp] at h1 h2 h3;refine⟨by rw[hgr];exact h1,by rw[hgr];show c≤_+1;omega,fun k1 k2=>?_⟩;rw[hgr] at k1 k2;cases hix:p.ix with
   |some jq =>
    exfalso;have hcc:(e.get rt).c+1=c:=k2 (by rw[hix];rfl);omega
   |none =>
    obtain⟨t',cs',base',q1,q2,q3⟩:=h3 k1 (fun hx=>by rw[hix] at hx;simp at hx);rw[hp] at q1 q2;have htt:t'=t:=by rw[b4a hs] at q1;exact(Ag q1).symm
    subst htt;obtain⟨rfl,rfl⟩:=b8o q2 hc;refine⟨t1,cs1,base',by rw[hgr];exact c7v hs,by rw[hgr,hp];exact d0v hs hc hi hcb,?_⟩;rcases q3 with⟨t0,cs0,ad,u1,u2⟩|⟨u1,_⟩
    ·unfold Loc at u1;rw[hix] at u1;obtain⟨o1,u3,u4,u5⟩:=u1;obtain⟨t0',u6,u7⟩:=b7u hi.symm u3;exact .inl ⟨t0',seg cs1 o1 t0'.size,ad,by unfold Loc;rw[hix];exact⟨o1,u6,rfl,u5⟩,u2⟩
    ·rw[hix] at u1;simp at u1
  ·rw[show(Ref _ a.tm w'.heap (.ptr p n c) v)=(n≤((e.app [⟨rt,.cont,(e.get rt).s.with t1 x1⟩]).get p.root).v∧c≤((e.app [⟨rt,.cont,(e.get rt).s.with t1 x1⟩]).get p.root).c∧(((e.app [⟨rt,.cont,(e.get rt).s.with t1 x1⟩]).get p.root).v=n→(p.ix.isSome=true→((e.app [⟨rt,.cont,(e.get rt).s.with t1 x1⟩]).get p.root).c=c)→At (e.app [⟨rt,.cont,(e.get rt).s.with t1 x1⟩]) a.tm w'.heap p (PtrX v))) from rfl];rw[hgo _ hp];exact⟨h1,h2,fun k1 k2=>hoth hp (h3 k1 k2)⟩
 cases s with
 |ptr p n c=>exact hptr p n c v hr
 |pts l=>exact c3u hptr (hpk l rfl) hr
 |pte q n j =>
  by_cases hq:q=rt
  ·subst hq;refine c3p (by rw[hg]) (fun l hl=>?_) hr;rw[hl] at hs;rcases hs with h|h <;> cases h
  ·exact c3p (by rw[hgo q hq]) (fun l hl=>by rw[hgo q hq];exact hl) hr
 |ali p n c =>
  obtain⟨h1,h2,h3⟩:=hr;by_cases hp:p.root=rt
  ·have hgr:(e.app [⟨rt,.cont,(e.get rt).s.with t1 x1⟩]).get p.root=⟨(e.get rt).v,(e.get rt).c+1,(e.get rt).s.with t1 x1⟩:=by rw[hp];exact hg
   rw[hp] at h1 h2;refine⟨by rw[hgr];exact h1,by rw[hgr];show c≤_+1;omega,fun k1 k2=>?_⟩;rw[hgr] at k2;have hcc:(e.get rt).c+1=c:=k2;omega
  ·have:=hgo _ hp;exact⟨by rw[this];exact h1,by rw[this];exact h2,fun k1 k2=>hoth hp (h3 (by rw[←this];exact k1) (by rw[←this];exact k2))⟩
 |sub p n c lo hi' =>
  obtain⟨h1,h2,h3⟩:=hr;by_cases hp:p.root=rt
  ·have hgr:(e.app [⟨rt,.cont,(e.get rt).s.with t1 x1⟩]).get p.root=⟨(e.get rt).v,(e.get rt).c+1,(e.get rt).s.with t1 x1⟩:=by rw[hp];exact hg
   rw[hp] at h1 h2;refine⟨by rw[hgr];exact h1,by rw[hgr];show c≤_+1;omega,fun k1 k2=>?_⟩;rw[hgr] at k2;have hcc:(e.get rt).c+1=c:=k2;omega
  ·have:=hgo _ hp;refine⟨by rw[this];exact h1,by rw[this];exact h2,fun k1 k2=>?_⟩;obtain⟨y1,y2⟩:=h3 (by rw[←this];exact k1) (by rw[←this];exact k2);exact⟨y1,hoth hp y2⟩
 |_=>trivial
end Go.Rb
