/- Rb: the row of a law that is told 'true', where package-level errors are laid. Own work. -/
import Derived.Test.YthkgkalebkbndaaGreatDoorRbF
import Derived.LaidLaws
import Derived.RowKitTokens
import Derived.Stop.LaidErr
import Derived.Stop.Joined
set_option autoImplicit false
set_option linter.unusedVariables false
set_option linter.unusedSimpArgs false
open Go.Frame renaming enter->FZ
open Go.Input renaming okWide->FV
open Go.MemPlace renaming cell->De,row->CU
open Go.OpenSpec renaming ofChange->CE
open Go.Value renaming okWide->BY
open List renaming append_nil->A9,map_cons->Bc,mem_append_right->Al,mem_cons->A3,mem_map->Cs,nodup_cons->AO
open Option renaming map_eq_some_iff->AS
open Option.some renaming inj->Ag
open Prod.mk renaming injEq->Aj
namespace Go.Rb
open Go.RowKit Go.ChangeShapes
variable {A:Amb} {P:Program} {C:Ctx} {w w':World} {Z Z':Nat→Prop} {h h':Array Obj} {H:Type} {enc:TypeId×Value→H}
def d3k(nm:String)(text:List UInt8):DataW Unit:=.iface nm (.ptr (.agg [.lit (.string text)]))
structure ErrTy (P:Program) (nm:String) (ti tp te ts:TypeId):Prop where
 hi:∃ms,P.underlying ti=some (.interface ms)
 hrow:∀u,P.typeName? 3 u=some nm→u=tp
 hp:P.underlying tp=some (.pointer te)
 he:∃f,P.underlying te=some (.struct #[f])∧f.type=ts∧f.offset=0
 hs:P.underlying ts=some .string
 hc:P.cellsOf te=1
 hcs:P.cellsOf ts=1
theorem c2a{nm:String}{ti tp te ts:TypeId}(ht:ErrTy P nm ti tp te ts){W:World}:∀(l:List (String×List UInt8)) (ps:List MemPlace),(∀x,x∈l→∀g,P.globalNamed x.1=some g→(P.globals[g]?).map (·.type)=some ti) →
  DataW.LaidVars P W (l.map fun x=>(x.1,d3k nm x.2)) ps→ps.Nodup →
  (∀b off,De b off∈ps→(∃c t,W.heap[b]?=some (.cells c t (0,0)))∧∀u v,W.cell? ⟨b,off,none⟩=some (.iface u v)→BY P W .any 0 u v) →
  ∃as:List (Nat×Addr),as.map (fun x=>some x.1)=l.map (fun x=>P.globalNamed x.1)∧(∀x,x∈as→x.2.spot=none∧(De x.2.block x.2.off∈ps)∧(∃c t,W.heap[x.2.block]?=some (.cells c t (0,0))) ∧
   ∃el fr,W.heap[x.1]?=some (.cells #[.iface tp (.pointer (some x.2))] el fr))∧(as.map Prod.snd).Nodup
 |[],ps,_,_,_,_=>⟨[],rfl,by simp,by simp⟩
 |(n,text)::l,ps,hty,hl,hnd,hrows=>by
  obtain⟨g,t,cs,fuel,p,q,hg,ht0,hv,hd,hq,e⟩:=hl;obtain⟨ms,hi⟩:=ht.hi;obtain⟨f,he,hft,hfo⟩:=ht.he;have hti:=hty _ List.mem_cons_self g hg;obtain rfl:ti=t:=Ag (hti.symm.trans ht0);subst e;obtain⟨cl⟩:=cs;have hvh:∃el fr,W.heap[g]?=some (.cells ⟨cl⟩ el fr):=by
   unfold World.var? at hv;rw[show P.globalNamed n=some g from hg] at hv;simp only[Option.bind_some] at hv;split at hv
   ·rename_i cs el fr hh;cases hv;exact⟨el,fr,hh⟩
   ·cases hv
  have hlen:cl.length≠0:=by
   intro h0;have:cl=[]:=List.length_eq_zero_iff.1 h0;subst this;obtain⟨f1,u,v,hx,_⟩:=iface_of_trod hi hd;simp at hx
  have ok0:∀u v,cl=[.iface u v]→BY P W .any 0 u v:=fun u v e=>by
   subst e;exact(hrows g 0 (by simp[CU])).2 u v (by simpa using World.var?_cell hg hv 0)
  obtain⟨a,s,rfl,hc0,hs0,hz0,rfl⟩:=errorString_of_trod hi ht.hrow ht.hp he hft hfo ht.hs ht.hc ht.hcs hd ok0;have hsp:a.spot=none:=by
   have h1:=ok0 _ _ rfl;unfold BY at h1;simp only[ht.hp] at h1;unfold Cell.okWide at h1;simp only[ht.hp] at h1;unfold World.cell? at hc0;cases a with|mk b o sp =>
   cases sp with
   |none=>rfl
   |some sp =>
    simp at hc0;split at hc0 <;> cases hc0
  obtain⟨as,h1,h2,h3⟩:=c2a ht l q (fun x hx=>hty x (List.mem_cons_of_mem _ hx)) hq (List.Nodup.sublist (List.sublist_append_right _ _) hnd) fun b off hm=>hrows b off (Al _ hm)
  have hma:De a.block a.off∈(CU ⟨g,0,none⟩ (⟨[.iface tp (.pointer (some a))]⟩:Array Value).size++CU a 1++q):=by simp[CU]
  refine⟨(g,a)::as,by simp[h1,hg],?_,?_⟩
  ·intro x hx;rcases A3.1 hx with rfl|hx
   ·exact⟨hsp,hma,(hrows _ _ hma).1,hvh⟩
   ·obtain⟨k1,k2,k3,k4⟩:=h2 x hx;exact⟨k1,Al _ k2,k3,k4⟩
  ·rw[Bc,AO];refine⟨?_,h3⟩;intro hm;obtain⟨x,hx,hxa⟩:=Cs.1 hm;obtain⟨_,k2,_⟩:=h2 x hx;dsimp only at hxa;rw[hxa] at k2;have:=(List.nodup_append.1 hnd).2.2 (De a.block a.off) (by simp[CU]) _ k2;exact this rfl
theorem e3q{α:Type}:∀{l:List (Nat×α)} {i:Nat},find? l i=none→∀x,(i,x)∉l
 |[],_,_,_=>by simp
 |(j,y)::l,i,h,x=>by
  unfold find? at h;split at h
  ·cases h
  ·rename_i hb;intro hm;rcases A3.1 hm with he|hm
   ·cases he;simp at hb
   ·exact e3q h x hm
theorem f4r{as:List (Nat×Addr)}(hnd:(as.map Prod.snd).Nodup){g g':Nat}{a:Addr}(h1:(g,a)∈as)(h2:(g',a)∈as):g=g':=by
 induction as with
 |nil=>simp at h1
 |cons x as ih =>
  rw[Bc,AO] at hnd;rcases A3.1 h1 with e1|k1 <;> rcases A3.1 h2 with e2|k2
  ·rw[←e1] at e2;cases e2;rfl
  ·exact(hnd.1 (Cs.2 ⟨(g',a),k2,by rw[←e1]⟩)).elim
  ·exact(hnd.1 (Cs.2 ⟨(g,a),k1,by rw[←e2]⟩)).elim
  ·exact ih hnd.2 k1 k2
theorem d8y{nm:String}{ti tp te ts:TypeId}(ht:ErrTy P nm ti tp te ts){W:World}{l:List (String×List UInt8)}(hty:∀x,x∈l→∀g,P.globalNamed x.1=some g→(P.globals[g]?).map (·.type)=some ti)
  (hl:laidMet P (l.map fun x=>(x.1,d3k nm x.2)) W) (hgl:∀g t x,C.gl g=some ⟨t,x⟩→(∃y,y∈l∧P.globalNamed y.1=some g)∧(⟨t,x⟩:(t:Ty)×t.den)=⟨.err,UV.sent g⟩)
  {raws:List (Nat×Value)} (hraw:∀x,x∈raws→∃el fr,W.heap[x.1]?=some (.cells #[x.2] el fr)) :
  ∃A:Amb,(∀g T a,A.sent g=some (T,a)→T=tp)∧A.raw=raws∧GlobOK A P C (fun b=>b<W.heap.size) W.heap:=by
 obtain⟨ps,h1,h2,h3⟩:=hl;obtain⟨as,k1,k2,k3⟩:=c2a ht l ps hty h1 h2 h3;have hlt:∀{b:Nat} {c:Array Value} {t:TypeId} {fr:Nat×Nat},W.heap[b]?=some (.cells c t fr)→b<W.heap.size:=fun {b c t fr} hh=>by
  rcases Nat.lt_or_ge b W.heap.size with h|h
  ·exact h
  ·rw[Array.getElem?_eq_none h] at hh;cases hh
 refine⟨⟨fun g=>(find? as g).map fun a=>(tp,a),raws⟩,fun g T a hs=>?_,rfl,⟨fun g t x hg=>?_,⟨fun g T a hs=>?_,fun g g' T T' a hs hs'=>?_,fun x hx=>?_⟩⟩⟩
 ·simp only[AS,Aj] at hs;obtain⟨_,_,rfl,_⟩:=hs;rfl
 ·obtain⟨⟨y,hy,hyg⟩,he⟩:=hgl g t x hg;cases he;have hm:some g∈as.map (fun x=>some x.1):=by
   rw[k1];exact Cs.2 ⟨y,hy,hyg⟩
  obtain⟨z,hz,hzg⟩:=Cs.1 hm;cases hf:find? as g with
  |none =>
   have:=e3q hf z.2;rw[←Ag hzg] at this;exact absurd hz this
  |some a =>
   have hmem:=b4f hf;obtain⟨_,_,_,el,fr,hh⟩:=k2 _ hmem;refine⟨[.iface tp (.pointer (some a))],hlt hh,⟨rfl,rfl,_,el,fr,hh,fun j hj=>?_⟩,rfl,⟨tp,a,rfl,?_⟩,_,rfl,by simp,rfl⟩
   ·have:j<1:=hj;obtain rfl:j=0:=by omega
    rfl
   ·simp[hf]
 ·simp only[AS,Aj] at hs;obtain⟨a',hf,_,rfl⟩:=hs;obtain⟨q1,_,⟨c,t,q3⟩,_⟩:=k2 _ (b4f hf);exact⟨hlt q3,q1,c,t,q3⟩
 ·simp only[AS,Aj] at hs hs';obtain⟨a1,hf,_,rfl⟩:=hs;obtain⟨a2,hf',_,he⟩:=hs';have h5:=b4f hf';rw[he] at h5;exact f4r k3 (b4f hf) h5
 ·obtain⟨el,fr,h5⟩:=hraw x hx;exact⟨hlt h5,el,fr,h5⟩
theorem e1h{f:FuncId}{tys:List Ty}(hglob:GlobOK A P C (fun b=>b<w.heap.size) w.heap){G:Nat→a3a (tys.map PS.val)→Option (b7i [.val .bool]×b3g (tys.map PS.val))}(hS:∀n,a6z A P C f ⟨tys.map PS.val,[.val .bool]⟩ (G n))
  {vs:Array Value} {x:a3a (tys.map PS.val)} (hx:a7t A P (fun b=>b<w.heap.size) w.heap (tys.map PS.val) vs.toList x []) (hG:∃n y,G n x=some y∧y.1.1=true) :
  Calls P f vs w fun e w'=>e=.returned (.bool true)∧Below w.heap.size w w':=by
 obtain⟨n,y,h1,h2⟩:=hG;refine(hS n x y h1 (fun b=>b<w.heap.size) w vs [] hglob (fun b hb=>hb) hx List.nodup_nil (by simp)).mono fun e w' ⟨v,Z',fr,fi,he,hr,hi,hs⟩=>?_
 obtain⟨cs,hv,hb⟩:=b5i hr;obtain⟨_,rfl⟩:=hb;exact⟨by rw[he,a0n rfl hv,h2],hs.below (Nat.le_refl _)⟩
theorem d5e{CK:Checked}{os:Os}{f:FuncId}{fn:Func}{s:ChangeSpec}{conds:List PathCond}{apart fresh handsOn:Bool}{laid:List (String×DataW Unit)}{l:List (String×List UInt8)}{nm:String}{ti tp te ts:TypeId}
  {raws:List (Nat×Value)} (hll:∀W,laidMetH CK.prog laid W→laidMet CK.prog (l.map fun x=>(x.1,d3k nm x.2)) W) (hraw:∀W,laidMetH CK.prog laid W→∀x,x∈raws→∃el fr,W.heap[x.1]?=some (.cells #[x.2] el fr)) (ht:ErrTy CK.prog nm ti tp te ts) (hty:∀x,x∈l→∀g,CK.prog.globalNamed x.1=some g→(CK.prog.globals[g]?).map (·.type)=some ti)
  (hgl:∀g t x,C.gl g=some ⟨t,x⟩→(∃y,y∈l∧CK.prog.globalNamed y.1=some g)∧(⟨t,x⟩:(t:Ty)×t.den)=⟨.err,UV.sent g⟩)
  (own:ownKnob CK.prog.godebug=none) (started:os.Started) (noInit:CK.prog.inits.idxOf? f=none) (hfn:CK.prog.funcs[f]?=some fn)
  (witness:∃(w:World) (tape:Tape) (i:Input),w.os=os∧(w.forCall tape i).Shaped CK.prog∧i.vars=[]∧FV CK.prog (w.forCall tape i) .any w.heap.size f i ∧
   ((s.pre enc CK.prog fn conds apart (w.forCall tape i).memory i.args∧laidMetH CK.prog laid (w.forCall tape i).memory)∧sizedMet enc CK.prog fn (CE s) apart (w.forCall tape i).memory i.args)∧({}:Assume).holds CK.prog (lone (FZ CK.prog f i.args .normal) [] (w.forCall tape i)))
  (hl:laidOutB CK.prog=true) (hrd:∀t,t∈fn.params.toList→CK.prog.readableRec t=true∧t<CK.prog.types.size)
  {tys:List Ty} (hk:c3t C fn.params.toList tys) (htab:a3c CK.prog C)
  {G:Nat→a3a (tys.map PS.val)→Option (b7i [.val .bool]×b3g (tys.map PS.val))} (hS:∀(A:Amb),(∀g T a,A.sent g=some (T,a)→T=tp)→A.raw=raws→∀n,a6z A CK.prog C f ⟨tys.map PS.val,[.val .bool]⟩ (G n))
  (hG:∀x,c4q tys x→∃n y,G n x=some y∧y.1.1=true)
  (hvars:s.vars=[]) {tb:TypeId} (hres:fn.resultTypes=#[tb]) (hub:CK.prog.underlying tb=some .bool)
  (hspec:∀ds,ds.length=fn.params.toList.length→s.fn H ds={ results:=[.lit (.bool true)],args:=ds,vars:=[] }) :
  ReturnsInHanded {} CK os f .any (fun w args=>(s.pre enc CK.prog fn conds apart w args∧laidMetH CK.prog laid w)∧sizedMet enc CK.prog fn (CE s) apart w args) (s.post enc CK.prog fn apart fresh handsOn false):=by
 refine returnsInHanded_of_change_and (X:=fun w _=>laidMetH CK.prog laid w) (fun _ _ _ hh h=>laidMetH.of_heap hh h) own started noInit hfn witness ?_;intro W base args ds gs before hval hW _ hsz hL _;have hW':=hW;obtain⟨p,q,hA,hV,rfl,hfz,hnd⟩:=hW;rw[hvars] at hV;obtain⟨rfl,rfl⟩:=trodVars_none hV;have hvt:s.plain.varTypes CK.prog=[]:=by
  unfold ChangeSpec.plain DataSpec.varTypes;simp[hvars]
 rw[hvt,A9,A9] at hsz;obtain⟨A,hA1,hA3,hA2⟩:=d8y ht hty (hll _ hL) hgl (hraw _ hL);obtain⟨x,hx,hxo⟩:=c5j (A:=A) htab _ tys args.toList ds p hk (fun j t v h1 h2=>hval j t v (by simpa using h1) (by simpa using h2)) hA hsz;refine(e1h hA2 (hS A hA1 hA3) hx (hG x hxo)).mono fun e W' ⟨he,hb⟩=>⟨_,he,ds,[],_,[],p,[],hW',?_,?_,?_,hb.frame _,fun h=>by cases h⟩
 ·rw[A9,hspec _ (b5y _ _ _ _ hA),hres];exact trodAll_mk1 (shut_bool hub true)
 ·rw[A9,hspec _ (b5y _ _ _ _ hA)];exact d7o hl hb _ _ _ _ hrd hA fun x hx=>hW'.lt x (List.mem_append_left _ hx)
 ·rw[A9,hspec _ (b5y _ _ _ _ hA),hvars];rfl
theorem b6o{CK:Checked}{os:Os}{f:FuncId}{fn:Func}{s:ChangeSpec}{conds:List PathCond}{apart fresh handsOn:Bool}{laid:List (String×DataW Unit)}{l:List (String×List UInt8)}{nm:String}{ti tp te ts:TypeId}
  (hll:laidMetH CK.prog laid=laidMet CK.prog (l.map fun x=>(x.1,d3k nm x.2))) (ht:ErrTy CK.prog nm ti tp te ts) (hty:∀x,x∈l→∀g,CK.prog.globalNamed x.1=some g→(CK.prog.globals[g]?).map (·.type)=some ti)
  (hgl:∀g t x,C.gl g=some ⟨t,x⟩→(∃y,y∈l∧CK.prog.globalNamed y.1=some g)∧(⟨t,x⟩:(t:Ty)×t.den)=⟨.err,UV.sent g⟩)
  (own:ownKnob CK.prog.godebug=none) (started:os.Started) (noInit:CK.prog.inits.idxOf? f=none) (hfn:CK.prog.funcs[f]?=some fn)
  (witness:∃(w:World) (tape:Tape) (i:Input),w.os=os∧(w.forCall tape i).Shaped CK.prog∧i.vars=[]∧FV CK.prog (w.forCall tape i) .any w.heap.size f i ∧
   ((s.pre enc CK.prog fn conds apart (w.forCall tape i).memory i.args∧laidMetH CK.prog laid (w.forCall tape i).memory)∧sizedMet enc CK.prog fn (CE s) apart (w.forCall tape i).memory i.args)∧({}:Assume).holds CK.prog (lone (FZ CK.prog f i.args .normal) [] (w.forCall tape i)))
  (hl:laidOutB CK.prog=true) (hrd:∀t,t∈fn.params.toList→CK.prog.readableRec t=true∧t<CK.prog.types.size)
  {tys:List Ty} (hk:c3t C fn.params.toList tys) (htab:a3c CK.prog C)
  {G:Nat→a3a (tys.map PS.val)→Option (b7i [.val .bool]×b3g (tys.map PS.val))} (hS:∀(A:Amb),(∀g T a,A.sent g=some (T,a)→T=tp)→∀n,a6z A CK.prog C f ⟨tys.map PS.val,[.val .bool]⟩ (G n))
  (hG:∀x,c4q tys x→∃n y,G n x=some y∧y.1.1=true)
  (hvars:s.vars=[]) {tb:TypeId} (hres:fn.resultTypes=#[tb]) (hub:CK.prog.underlying tb=some .bool)
  (hspec:∀ds,ds.length=fn.params.toList.length→s.fn H ds={ results:=[.lit (.bool true)],args:=ds,vars:=[] }) :
  ReturnsInHanded {} CK os f .any (fun w args=>(s.pre enc CK.prog fn conds apart w args∧laidMetH CK.prog laid w)∧sizedMet enc CK.prog fn (CE s) apart w args) (s.post enc CK.prog fn apart fresh handsOn false) :=
 d5e (raws:=[]) (fun W h=>by rw[hll] at h;exact h) (by simp) ht hty hgl own started noInit hfn witness hl hrd hk htab (fun A h _ n=>hS A h n) hG hvars hres hub hspec
end Go.Rb
