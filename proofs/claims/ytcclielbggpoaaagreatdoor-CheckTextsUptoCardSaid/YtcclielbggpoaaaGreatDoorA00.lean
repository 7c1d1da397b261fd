/- Part of the proof of CheckTexts (see the last text). -/
import Derived.Below
import Derived.KernelRfl
import Derived.OrdersHeld
import Derived.RowKit
import Derived.Shelf.Bits.Mul64
import Derived.Shelf.LaysM
import Derived.Shelf.Small.Strs
import Derived.Shelf.Small.Utf8
import Derived.Shelf.Small.Wraps
import Derived.Shelf.Strconv.Itoa0
import Derived.Shelf.Strconv.Itoa1
import Derived.Shelf.Strconv.Itoa2
import Derived.Shelf.Strconv.Itoa3
import Derived.Shelf.Strings.AsciiSet
import Derived.Shelf.Strings.Builder1
import Derived.Shelf.Strings.BuilderF
import Derived.Shelf.Strings.BuilderK
import Derived.Shelf.Strings.Count
import Derived.Shelf.Strings.Cut
import Derived.Shelf.Strings.Prefix
import Derived.Shelf.Strings.Runes
import Derived.Shelf.Strings.Search1
import Derived.Shelf.Strings.Search2
import Derived.Shelf.Strings.Search3
import Derived.Shelf.Strings.Shaped
import Derived.Shelf.Strings.Trim
import Derived.Shelf.Unicode.DecodeSlow
import Derived.Tactics
import Derived.Test.YtcclielbggpoaaaGreatDoorProg
set_option linter.all false
section
namespace Go.Proofs.g_
open Go Go.RowKit
section
variable {P:Program} {ops:Array Oper} {Q:Exit->Act->World->Prop}
def E_(M:List Nat)(o:Oper):Nat:=o.after.toList.foldl (λ m e=>if Region.binds .any e=true then m|||((1<<<e.on)|||M.getD e.on 0)else m) 0
def masks:List Oper->List Nat->List Nat
 |[],M=>M
 |o::r,M=>masks r (M++[E_ M o])
def Closed(ops:Array Oper)(l:Array Bool):Prop:=∀i o,ops[i]? =some o->l.getD i false=true->∀e∈o.after,Region.binds .any e=true->l.getD e.on false=true
def Ke(ops:Array Oper)(M:List Nat):Prop:=∀l,Closed ops l->∀i,l.getD i false=true->∀j,(M.getD i 0).testBit j=true->l.getD j false=true
theorem LJ(M:List Nat)(o:Oper)(j:Nat)(h:(E_ M o).testBit j=true):∃e∈o.after,Region.binds .any e=true∧(e.on=j∨(M.getD e.on 0).testBit j=true):=by
 unfold E_ at h
 have key:∀(es:List _)(m:Nat),(es.foldl (λ m e=>if Region.binds .any e=true then m|||((1<<<e.on)|||M.getD e.on 0)else m) m).testBit j=true->
   m.testBit j=true∨∃e∈es,Region.binds .any e=true∧(e.on=j∨(M.getD e.on 0).testBit j=true):=by
  intro es;induction es with
  |nil=>intro m h;exact .inl h
  |cons e es ih=>
   intro m h;rw[List.foldl_cons]at h;rcases ih _ h with h1|⟨e',he,h2⟩
   .by_cases hb:Region.binds .any e=true
    .rw[if_pos hb,Nat.testBit_or,Nat.testBit_or,Bool.or_eq_true,Bool.or_eq_true]at h1
     rcases h1 with h1|h1|h1
     .exact .inl h1
     .refine .inr ⟨e,List.mem_cons_self,hb,.inl ?_⟩
      rw[Nat.one_shiftLeft,Nat.testBit_two_pow]at h1;simpa using h1
     .exact .inr ⟨e,List.mem_cons_self,hb,.inr h1⟩
    .rw[if_neg hb]at h1
     exact .inl h1
   .exact .inr ⟨e',List.mem_cons_of_mem _ he,h2⟩
 rcases key _ _ h with h1|⟨e,he,h2⟩
 .simp at h1
 .exact⟨e,by simpa using he,h2⟩
theorem RN(r:List Oper):∀(p:List Oper)(M:List Nat),ops.toList=p++r->M.length=p.length->Ke ops M->Ke ops (masks r M):=by
 induction r with
 |nil=>intro p M _ _ h;exact h
 |cons o r ih=>
  intro p M hp hl h;refine ih (p++[o]) (M++[E_ M o]) (by rw[hp];simp) (by simp[hl]) ?_;intro l hc i hi j hj;by_cases hlt:i<M.length
  .refine h l hc i hi j ?_
   rw[List.getD_eq_getElem?_getD,List.getElem?_append_left hlt,<-List.getD_eq_getElem?_getD]at hj;exact hj
  .by_cases he:i=M.length
   .subst he
    rw[List.getD_eq_getElem?_getD,List.getElem?_append_right (Nat.le_refl _)]at hj;simp at hj;obtain⟨e,hem,hb,h1⟩:=LJ M o j hj;have ho:ops[M.length]? =some o:=by
     rw[<-Array.getElem?_toList,hp,List.getElem?_append_right (by omega)];simp[hl]
    have hle:=hc _ _ ho hi e hem hb;rcases h1 with h1|h1
    .rw[<-h1];exact hle
    .exact h l hc e.on hle j h1
   .rw[List.getD_eq_getElem?_getD,List.getElem?_append_right (by omega),List.getElem?_eq_none (by simp;omega)]at hj
    simp at hj
theorem uU:Ke ops (masks ops.toList []):=RN ops.toList [] [] rfl rfl (λ l _ i _ j hj=>by simp at hj)
def looks(ops:Array Oper)(o:Oper):List Tmp:=o.looksAt ops
def Fa(ops:Array Oper)(M:List Nat)(n:Nat)(i:Nat)(o:Oper)(j:Nat)(oj:Oper):Bool:=
 match oj.dst with
 |none=>true
 |some d=>decide (d<n)&&(i==j||o.dst !=some d)&&(!(looks ops o).contains d||(if j<i then(M.getD i 0).testBit j else decide (i<j)&&(M.getD j 0).testBit i))
def sG(ops:Array Oper)(n:Nat):Bool:=
 Region.noSelect ops&&
 (List.range ops.size).all λ i=>match ops[i]? with
  |none=>true
  |some o=>o.after.all (λ e=> !(Region.binds .any e)||decide (e.on<i))&&(List.range ops.size).all λ j=>match ops[j]? with
   |none=>true
   |some oj=>Fa ops (masks ops.toList []) n i o j oj
def cntF:List Bool->Nat
 |[]=>0
 |true::l=>cntF l
 |false::l=>cntF l+1
theorem w_:∀(l:List Bool)(i:Nat),l[i]? =some false->cntF (l.set i true)+1=cntF l
 |[],i,h=>by simp at h
 |b::l,0,h=>by
  simp at h;subst h;rfl
 |b::l,i+1,h=>by
  have:=w_ l i (by simpa using h);cases b<;>simp[cntF]<;>omega
theorem uV:∀(l:List Bool)(i:Nat),cntF l=0->l[i]? ≠some false
 |[],i,_=>by simp
 |b::l,0,h=>by cases b<;>simp[cntF]at h|-
 |b::l,i+1,h=>by
  have:=uV l i (by cases b<;>simp[cntF]at h|-;exact h);simpa using this
theorem D_(n:Nat):cntF (List.replicate n false)=n:=by
 induction n with
 |zero=>rfl
 |succ n ih=>rw[List.replicate_succ,cntF,ih]
def Reads(ops:Array Oper)(F:Nat->Value->World->Prop)(a0:Act)(i:Nat)(o:Oper)(a:Act)(w:World):Prop:=
 ∀d∈looks ops o,(∀j oj,ops[j]? =some oj->oj.dst=some d->j<i->F j (a.tmps.getD d undef) w)∧((∀j oj,ops[j]? =some oj->oj.dst=some d->¬j<i)->a.tmps.getD d undef=a0.tmps.getD d undef)
def Fb(P:Program)(ops:Array Oper)(F:Nat->Value->World->Prop)(S:Act->World->Prop)(X:World->World->Prop)(a0:Act)(i:Nat)(o:Oper):Prop:=
 ∀(a:Act)(w:World),a.tmps.size=a0.tmps.size->S a w->Reads ops F a0 i o a w->
  if Region.wanted o (yielded ops a.tmps)=true then o.wp P a w (λ a' w'=>∃v,a'=a.put o.dst v∧F i v w'∧S a' w'∧X w w') (λ _ _ _=>False)else F i undef w∧S (a.put o.dst undef) w
structure Mid(ops:Array Oper)(F:Nat->Value->World->Prop)(S:Act->World->Prop)(a0:Act)(l:Array Bool)(a:Act)(w:World):Prop where
 size:a.tmps.size=a0.tmps.size
 defers:a.defers=a0.defers
 s:S a w
 lsize:l.size=ops.size
 closed:Closed ops l
 done:∀i o d,ops[i]? =some o->o.dst=some d->l.getD i false=true->F i (a.tmps.getD d undef) w
 rest:∀d,(∀i o,ops[i]? =some o->o.dst=some d->l.getD i false=false)->a.tmps.getD d undef=a0.tmps.getD d undef
theorem rC{n:Nat}(h:sG ops n=true){i j:Nat}{o oj:Oper}(hi:ops[i]? =some o)(hj:ops[j]? =some oj):Fa ops (masks ops.toList []) n i o j oj=true∧∀e∈o.after,Region.binds .any e=true->e.on<i:=by
 unfold sG at h;rw[Bool.and_eq_true]at h;have h1:=List.all_eq_true.1 h.2 i (List.mem_range.2 (Array.getElem?_eq_some_iff.1 hi).1);rw[hi]at h1;simp only[Bool.and_eq_true]at h1;have h2:=List.all_eq_true.1 h1.2 j (List.mem_range.2 (Array.getElem?_eq_some_iff.1 hj).1);rw[hj]at h2;exact⟨h2,λ e he hbd=>by have:=Array.all_eq_true_iff_forall_mem.1 h1.1 e he;rw[hbd]at this;simpa using this⟩
theorem yw{M:List Nat}{n i j:Nat}{o oj:Oper}{d:Tmp}(h:Fa ops M n i o j oj=true)(hd:oj.dst=some d):d<n∧(i≠j->o.dst≠some d)∧(d∈looks ops o->(j<i∧(M.getD i 0).testBit j=true)∨(i<j∧(M.getD j 0).testBit i=true)):=by
 unfold Fa at h;rw[hd]at h;simp only[Bool.and_eq_true,Bool.or_eq_true,decide_eq_true_eq,beq_iff_eq,bne_iff_ne,ne_eq,Bool.not_eq_true']at h;refine⟨h.1.1,λ hne=>h.1.2.resolve_left hne,λ hm=>?_⟩;rcases h.2 with h2|h2
 .simp[hm]at h2
 .by_cases hlt:j<i
  .rw[if_pos hlt]at h2
   exact .inl ⟨hlt,h2⟩
  .rw[if_neg hlt,Bool.and_eq_true,decide_eq_true_eq]at h2
   exact .inr h2
theorem Ea{o:Oper}{a:Act}{w:World}{K K':Act->World->Prop}(h:∀a w,K a w->K' a w)(hh:o.wp P a w K (λ _ _ _=>False)):o.wp P a w K' Q:=by
 unfold Oper.wp at*
 generalize (execOp a.eval o).run P w=r at*
 cases r with
 |ok n w'=>
  cases n<;>simp only[Oper.upon]at hh|- <;>
   first
    |exact h _ _ hh
    |exact Calls.mono hh (λ e w'' he=>by cases e<;>first|exact h _ _ he|exact he.elim|(obtain⟨_,_,hf⟩:=he;exact hf.elim))
    |exact Rows.mono hh (λ _ _ he=>h _ _ he)
 |halt x w'=>cases x<;>simp only[Oper.upon]at hh|- <;>exact hh.elim
theorem C8{a:Act}{d:Tmp}(v:Value)(h:d<a.tmps.size):(a.put (some d) v).tmps.getD d undef=v:=by
 simp[Act.put,h]
theorem xg{a:Act}{x:Option Tmp}{d:Tmp}(v:Value)(h:x≠some d):(a.put x v).tmps.getD d undef=a.tmps.getD d undef:=by
 cases x with
 |none=>rfl
 |some e=>
  have hne:e≠d:=λ he=>h (he▸rfl);simp[Act.put,Array.getElem?_setIfInBounds_ne hne]
theorem qX{a:Act}{x:Option Tmp}(v:Value):(a.put x v).tmps.size=a.tmps.size:=by cases x<;>simp[Act.put]
theorem Us{a:Act}{x:Option Tmp}(v:Value):(a.put x v).defers=a.defers:=by cases x<;>rfl
variable {F:Nat->Value->World->Prop} {S:Act->World->Prop} {X:World->World->Prop} {a0:Act}
theorem pY{l:Array Bool}{i:Nat}(hc:Closed ops l)(hr:i∈Region.ready .any ops l):Closed ops (l.setIfInBounds i true):=by
 obtain⟨_,oi,hoi,hall⟩:=mem_ready.1 hr;intro j oj hj hl e he hb;by_cases hij:i=j
 .subst hij
  have:oj=oi:=Option.some.inj (hj.symm.trans hoi);subst this;exact getD_set_true (hall e he hb)
 .rw[getD_set_ne false hij]at hl
  exact getD_set_true (hc j oj hj hl e he hb)
theorem wF{l:Array Bool}{a:Act}{w w':World}{i:Nat}{o:Oper}{v:Value}(hd:sG ops a0.tmps.size=true)(z:∀j u,F j u w->F j u w')(hm:Mid ops F S a0 l a w)(hr:i∈Region.ready .any ops l)(ho:ops[i]? =some o)
  (hF:F i v w')(hS:S (a.put o.dst v) w'):Mid ops F S a0 (l.setIfInBounds i true) (a.put o.dst v) w' where
 size:=(qX v).trans hm.size
 defers:=(Us v).trans hm.defers
 s:=hS
 lsize:=by rw[Array.size_setIfInBounds];exact hm.lsize
 closed:=pY hm.closed hr
 done:=λ j oj d hj hdst hl=>by
  by_cases hij:i=j
  .subst hij
   have:oj=o:=Option.some.inj (hj.symm.trans ho);subst this;obtain⟨hp,_⟩:=rC hd ho ho;rw[hdst,C8 v (by rw[hm.size];exact(yw hp hdst).1)];exact hF
  .rw[getD_set_ne false hij]at hl
   obtain⟨hp,_⟩:=rC hd ho hj;rw[xg v ((yw hp hdst).2.1 hij)];exact z _ _ (hm.done j oj d hj hdst hl)
 rest:=λ d h=>by
  have hlt:i<l.size:=by rw[hm.lsize];exact(Array.getElem?_eq_some_iff.1 ho).1
  have hne:o.dst≠some d:=λ he=>by
   have:=h i o ho he;simp[hlt]at this
  rw[xg v hne];refine hm.rest d λ j oj hj hdj=>?_;have hj':=h j oj hj hdj;by_cases hij:i=j
  .subst hij
   have:oj=o:=Option.some.inj (hj.symm.trans ho);subst this;exact absurd hdj hne
  .rwa[getD_set_ne false hij]at hj'
theorem BO{l:Array Bool}{a:Act}{w:World}{i:Nat}{o:Oper}(hd:sG ops a0.tmps.size=true)(hm:Mid ops F S a0 l a w)(hr:i∈Region.ready .any ops l)(ho:ops[i]? =some o):Reads ops F a0 i o a w:=by
 have hlt:i<l.size:=by rw[hm.lsize];exact(Array.getElem?_eq_some_iff.1 ho).1
 have hun:l.getD i true=false:=(mem_ready.1 hr).1;have s:l.getD i false=false:=by
  simp[hlt]at hun|-
  exact hun
 intro d hdl;refine⟨λ j oj hj hdj hji=>?_,λ h=>hm.rest d λ j oj hj hdj=>?_⟩
 .obtain⟨hp,_⟩:=rC hd ho hj
  rcases(yw hp hdj).2.2 hdl with⟨_,hb⟩|⟨h2,_⟩
  .have hl:=uU (ops:=ops) _ (pY hm.closed hr) i (by simp[hlt]) j hb
   rw[getD_set_ne false (by omega)]at hl;exact hm.done j oj d hj hdj hl
  .omega
 .have z:=h j oj hj hdj
  obtain⟨hp,_⟩:=rC hd ho hj;rcases(yw hp hdj).2.2 hdl with⟨h2,_⟩|⟨_,hb⟩
  .exact absurd h2 z
  .cases hlj:l.getD j false with
   |false=>rfl
   |true=>
    have:=uU (ops:=ops) _ hm.closed j hlj i hb;rw[s]at this;exact this.symm
theorem ready_nil{n:Nat}{l:Array Bool}(hd:sG ops n=true)(hs:l.size=ops.size)(hr:Region.ready .any ops l=[]):∀i,i<ops.size->l.getD i false=true:=by
 intro i;induction i using Nat.strongRecOn with
 |_ i ih=>
  intro hi;cases hl:l.getD i false with
  |true=>rfl
  |false=>
   exfalso;have ho:ops[i]? =some ops[i]:=by simp[hi]
   obtain⟨_,hb⟩:=rC hd ho ho;have:i∈Region.ready .any ops l:=mem_ready.2 ⟨by simp[hs,hi]at hl|-;exact hl,ops[i],ho,λ e he hbd=>ih e.on (hb e he hbd) (Nat.lt_trans (hb e he hbd) hi)⟩;rw[hr]at this;cases this
theorem Ut(hd:sG ops a0.tmps.size=true)(z:∀w w' j u,X w w'->F j u w->F j u w')(hstep:∀i o,ops[i]? =some o->Fb P ops F S X a0 i o)
  (hend:∀l a w,Mid ops F S a0 l a w->(∀i,i<ops.size->l.getD i false=true)->Q .normal a w):
  ∀(fuel:Nat)(l:Array Bool)(a:Act)(w:World),Mid ops F S a0 l a w->cntF l.toList≤fuel->wpAny P .any ops Q fuel l a w:=by
 have hall:∀(l:Array Bool)(a:Act)(w:World),Mid ops F S a0 l a w->Region.ready .any ops l=[]->Q .normal a w:=λ l a w hm hr=>hend l a w hm (ready_nil hd hm.lsize hr);intro fuel;induction fuel with
 |zero=>
  intro l a w hm hc;have hr:Region.ready .any ops l=[]:=by
   refine List.eq_nil_iff_forall_not_mem.2 λ i hi=>?_;have hun:=(mem_ready.1 hi).1;have hlt:i<l.size:=by rw[hm.lsize];obtain⟨_,o,ho,_⟩:=mem_ready.1 hi;exact(Array.getElem?_eq_some_iff.1 ho).1
   refine uV l.toList i (by omega) ?_;simp[hlt]at hun|-
   exact hun
  exact⟨hr,hall l a w hm hr⟩
 |succ fuel ih=>
  intro l a w hm hc;refine⟨hall l a w hm,λ i hi=>?_⟩;obtain⟨hun,o,ho,_⟩:=mem_ready.1 hi;have hlt:i<l.size:=by rw[hm.lsize];exact(Array.getElem?_eq_some_iff.1 ho).1
  have hcnt:cntF (l.setIfInBounds i true).toList≤fuel:=by
   rw[Array.toList_setIfInBounds];have:=w_ l.toList i (by simp[hlt]at hun|-;exact hun);omega
  have hst:=hstep i o ho a w hm.size hm.s (BO hd hm hi ho);unfold wpOp;rw[ho];simp only;split
  .rename_i hw
   rw[if_pos hw]at hst;refine .inl (Ea (λ a' w' h=>?_) hst);obtain⟨v,rfl,hF,hS,hX⟩:=h;exact ih _ _ _ (wF hd (λ j u=>z w w' j u hX) hm hi ho hF hS) hcnt
  .rename_i hw
   rw[if_neg hw]at hst;exact ih _ _ _ (wF hd (λ j u h=>h) hm hi ho hst.1 hst.2) hcnt
theorem I8{id:Nat}{w:World}(hm:P.follows .mixedOrders=true)(hd:sG ops a0.tmps.size=true)(s:∀w w' j u,X w w'->F j u w->F j u w')(hS:S a0 w.drew)(hstep:∀i o,ops[i]? =some o->Fb P ops F S X a0 i o)
  (hend:∀l a w,Mid ops F S a0 l a w->(∀i,i<ops.size->l.getD i false=true)->Q .normal a w):(Code.region id ops true).wp P Q a0 w:=by
 refine wp_region_any hm (Ut hd s hstep hend ops.size (Array.replicate ops.size false) a0 w.drew ⟨rfl,rfl,hS,by simp,?_,?_,λ _ _=>rfl⟩ ?_)
 .intro i o _ hl
  simp[Array.getD]at hl
 .intro i o d _ _ hl
  simp[Array.getD]at hl
 .rw[Array.toList_replicate,D_];exact Nat.le_refl _
def StepB(P:Program)(ops:Array Oper)(F:Nat->Value->World->Prop)(W0:World)(a0:Act)(i:Nat)(o:Oper):Prop:=
 ∀(a:Act)(w:World),Below W0.heap.size W0 w->Reads ops F a0 i o a w->
  if Region.wanted o (yielded ops a.tmps)=true then o.wp P a w (λ a' w'=>∃v,a'=a.put o.dst v∧F i v w'∧Below w.heap.size w w') (λ _ _ _=>False)else F i undef w
def aJ(P:Program)(ops:Array Oper)(F:Nat->Value->World->Prop)(W0:World)(a0:Act):Nat->List Oper->Prop
 |_,[]=>True
 |i,o::r=>StepB P ops F W0 a0 i o∧aJ P ops F W0 a0 (i+1) r
theorem aJ.at{W0:World}:∀(r:List Oper)(n:Nat),aJ P ops F W0 a0 n r->∀i o,r[i]? =some o->StepB P ops F W0 a0 (n+i) o
 |[],_,_,i,o,h=>by simp at h
 |o'::r,n,h,0,o,ho=>by
  simp at ho;subst ho;exact h.1
 |o'::r,n,h,i+1,o,ho=>by
  have:=aJ.at r (n+1) h.2 i o (by simpa using ho);rwa[show n+1+i=n+(i+1) by omega]at this
theorem aJ.nil{W0:World}{n:Nat}:aJ P ops F W0 a0 n []:=trivial
theorem aJ.cons{W0:World}{n:Nat}{o:Oper}{r:List Oper}(h:StepB P ops F W0 a0 n o)(t:aJ P ops F W0 a0 (n+1) r):aJ P ops F W0 a0 n (o::r):=⟨h,t⟩
def eU(a:Act)(a0:Act)(r:List Oper):Act:=r.foldl (λ b o=>match o.dst with|some d=>b.put (some d) (a.tmps.getD d undef)|none=>b) a0
theorem uI(a:Act):∀(r:List Oper)(b:Act),(eU a b r).tmps.size=b.tmps.size
 |[],b=>rfl
 |o::r,b=>by
  unfold eU;rw[List.foldl_cons];refine(uI a r _).trans ?_;cases o.dst<;>simp[Act.put]
theorem vU(a:Act):∀(r:List Oper)(b:Act),(eU a b r).defers=b.defers
 |[],b=>rfl
 |o::r,b=>by
  unfold eU;rw[List.foldl_cons];refine(vU a r _).trans ?_;cases o.dst<;>rfl
theorem vV(a:Act)(d:Tmp):∀(r:List Oper)(b:Act),a.tmps.size=b.tmps.size->(b.tmps.getD d undef=a.tmps.getD d undef∨∃o∈r,o.dst=some d)->(eU a b r).tmps.getD d undef=a.tmps.getD d undef
 |[],b,_,h=>h.elim id (λ⟨_,h,_⟩=>by cases h)
 |o::r,b,hs,h=>by
  unfold eU;rw[List.foldl_cons];refine vV a d r _ ?_ ?_
  .cases o.dst<;>simp[Act.put,hs]
  .by_cases hod:o.dst=some d
   .left
    rw[hod];by_cases hlt:d<b.tmps.size
    .exact C8 _ hlt
    .simp[Act.put,hlt,hs]
   .rcases h with h|⟨o',ho',hd'⟩
    .left
     cases hx:o.dst with
     |none=>exact h
     |some x=>exact(xg _ (λ e=>hod (hx.trans e))).trans h
    .rcases List.mem_cons.1 ho' with rfl|ho'
     .exact absurd hd' hod
     .exact .inr ⟨o',ho',hd'⟩
theorem V4{l:Array Bool}{a:Act}{w:World}(hm:Mid ops F S a0 l a w):a=eU a a0 ops.toList:=by
 have hs:=uI a ops.toList a0;have hg:∀d,(eU a a0 ops.toList).tmps.getD d undef=a.tmps.getD d undef:=λ d=>by
  refine vV a d ops.toList a0 hm.size ?_;by_cases h:∃o∈ops.toList,o.dst=some d
  .exact .inr h
  .refine .inl (hm.rest d λ i o ho hod=>absurd ⟨o,?_,hod⟩ h).symm
   exact List.mem_of_getElem? (by rw[Array.getElem?_toList];exact ho)
 have ht:a.tmps=(eU a a0 ops.toList).tmps:=by
  refine Array.ext (by rw[hs,hm.size]) λ i h1 h2=>?_;have:=hg i;simp[h1,h2]at this;exact this.symm
 have hdf:a.defers=(eU a a0 ops.toList).defers:=by rw[vU,hm.defers]
 cases a;cases h:eU _ a0 ops.toList;simp only[h]at ht hdf;subst ht hdf;rfl
theorem uJ{w w1 w2:World}(h:Below w.heap.size w w1)(k:Below w1.heap.size w1 w2):Below w.heap.size w w2:=
 h.trans ⟨k.os,k.tape,k.output,k.size,λ i hi=>k.block i (Nat.lt_of_lt_of_le hi h.size)⟩
theorem iW{id:Nat}{w:World}(hm:P.follows .mixedOrders=true)(hd:sG ops a0.tmps.size=true)(z:∀w w' j u,Below w.heap.size w w'->F j u w->F j u w')(hsteps:aJ P ops F w.drew a0 0 ops.toList)
  (hend:∀a w',(∀i o d,ops[i]? =some o->o.dst=some d->F i (a.tmps.getD d undef) w')->a=eU a a0 ops.toList->Below w.drew.heap.size w.drew w'->Q .normal a w'):(Code.region id ops true).wp P Q a0 w:=by
 refine I8 (X:=λ w w'=>Below w.heap.size w w') (S:=λ _ w'=>Below w.drew.heap.size w.drew w') hm hd (λ w w' j u h=>z w w' j u h) (Below.refl _ _) (λ i o ho a w' _ hS hr=>?_) (λ l a w' hmid hl=>hend a w' (λ i o d ho hod=>?_) (V4 hmid) hmid.s)
 .have h:=aJ.at ops.toList 0 hsteps i o (by rw[Array.getElem?_toList];exact ho)
  rw[Nat.zero_add]at h;have h2:=h a w' hS hr;split
  .rename_i hw
   rw[if_pos hw]at h2;exact Oper.wp_mono (λ a' w'' hh=>by obtain⟨v,h3,h4,h5⟩:=hh;exact⟨v,h3,h4,uJ hS h5,h5⟩) h2
  .rename_i hw
   rw[if_neg hw]at h2;exact⟨h2,hS⟩
 .exact hmid.done i o d ho hod (hl i (Array.getElem?_eq_some_iff.1 ho).1)
def lastB(ops:Array Oper)(n:Nat):Bool:=(List.range n).all λ j=>((masks ops.toList []).getD n 0).testBit j
theorem RQ{n:Nat}(hd:sG ops a0.tmps.size=true)(D:∀w w' j u,X w w'->F j u w->F j u w')(hn:ops.size=n+1)(hlast:lastB ops n=true)(hstep:∀i o,i<n->ops[i]? =some o->Fb P ops F S X a0 i o)
  (hend:∀l a w,Mid ops F S a0 l a w->(∀i,i<n->l.getD i false=true)->l.getD n false=false->wpOp P ops Q n (λ a w=>Q .normal a w) a w):
  ∀(fuel:Nat)(l:Array Bool)(a:Act)(w:World),Mid ops F S a0 l a w->l.getD n false=false->cntF l.toList≤fuel->wpAny P .any ops Q fuel l a w:=by
 intro fuel;induction fuel with
 |zero=>
  intro l a w hm hln hc;exfalso;have hlt:n<l.size:=by rw[hm.lsize];omega
  refine uV l.toList n (by omega) ?_;simp[hlt]at hln|-
  exact hln
 |succ fuel ih=>
  intro l a w hm hln hc;refine⟨λ hr=>?_,λ i hi=>?_⟩
  .have:=ready_nil hd hm.lsize hr n (by omega)
   rw[hln]at this;cases this
  obtain⟨hun,o,ho,hall⟩:=mem_ready.1 hi;have hlt:i<l.size:=by rw[hm.lsize];exact(Array.getElem?_eq_some_iff.1 ho).1
  by_cases hin:i=n
  .subst hin
   have hl:∀j,j<i->l.getD j false=true:=λ j hj=>by
    have hb:=List.all_eq_true.1 hlast j (List.mem_range.2 hj);have:=uU (ops:=ops) _ (pY hm.closed hi) i (by simp[hlt]) j hb;rwa[getD_set_ne false (by omega)]at this
   refine wpOp_mono (λ a' w' hq=>wpAny_done (List.eq_nil_iff_forall_not_mem.2 λ j hj=>?_) hq fuel) (hend l a w hm hl hln);obtain⟨h1,oj,hoj,_⟩:=mem_ready.1 hj;have hj':j<i+1:=by rw[<-hn];exact(Array.getElem?_eq_some_iff.1 hoj).1
   by_cases hji:j=i
   .subst hji
    simp[hlt]at h1
   .rw[getD_set_ne true (Ne.symm hji)]at h1
    have h2:=hl j (by omega);have hjl:j<l.size:=by rw[hm.lsize];omega
    simp[hjl]at h1 h2;rw[h2]at h1;cases h1
  .have hlt':i<n:=by rw[hm.lsize]at hlt;omega
   have hcnt:cntF (l.setIfInBounds i true).toList≤fuel:=by
    rw[Array.toList_setIfInBounds];have:=w_ l.toList i (by simp[hlt]at hun|-;exact hun);omega
   have z:(l.setIfInBounds i true).getD n false=false:=by rw[getD_set_ne false hin];exact hln
   have hst:=hstep i o hlt' ho a w hm.size hm.s (BO hd hm hi ho);unfold wpOp;rw[ho];simp only;split
   .rename_i hw
    rw[if_pos hw]at hst;refine .inl (Ea (λ a' w' h=>?_) hst);obtain⟨v,rfl,hF,hS,hX⟩:=h;exact ih _ _ _ (wF hd (λ j u=>D w w' j u hX) hm hi ho hF hS) z hcnt
   .rename_i hw
    rw[if_neg hw]at hst;exact ih _ _ _ (wF hd (λ j u h=>h) hm hi ho hst.1 hst.2) z hcnt
theorem RS{n:Nat}{l:Array Bool}{a:Act}{w:World}(hn:ops.size=n+1)(hm:Mid ops F S a0 l a w)(hln:l.getD n false=false):a=eU a a0 (ops.toList.take n):=by
 have hs:=uI a (ops.toList.take n) a0;have hg:∀d,(eU a a0 (ops.toList.take n)).tmps.getD d undef=a.tmps.getD d undef:=λ d=>by
  refine vV a d (ops.toList.take n) a0 hm.size ?_;by_cases h:∃o∈ops.toList.take n,o.dst=some d
  .exact .inr h
  .refine .inl (hm.rest d λ i o ho hod=>?_).symm
   by_cases hin:i<n
   .exact absurd ⟨o,List.mem_of_getElem? (i:=i) (by rw[List.getElem?_take_of_lt hin,Array.getElem?_toList];exact ho),hod⟩ h
   .have:i=n:=by have:=(Array.getElem?_eq_some_iff.1 ho).1;omega
    rw[this];exact hln
 have ht:a.tmps=(eU a a0 (ops.toList.take n)).tmps:=by
  refine Array.ext (by rw[hs,hm.size]) λ i h1 h2=>?_;have:=hg i;simp[h1,h2]at this;exact this.symm
 have hdf:a.defers=(eU a a0 (ops.toList.take n)).defers:=by rw[vU,hm.defers]
 cases a;cases h:eU _ a0 (ops.toList.take n);simp only[h]at ht hdf;subst ht hdf;rfl
theorem xk{id:Nat}{w:World}(n:Nat)(on:Oper)(hm:P.follows .mixedOrders=true)(hd:sG ops a0.tmps.size=true)(hn:ops.size=n+1)(hlast:lastB ops n=true)(hon:ops[n]? =some on)(z:∀w w' j u,Below w.heap.size w w'->F j u w->F j u w')
  (hsteps:aJ P ops F w.drew a0 0 (ops.toList.take n))
  (hend:∀a w',(∀i o d,i<n->ops[i]? =some o->o.dst=some d->F i (a.tmps.getD d undef) w')->a=eU a a0 (ops.toList.take n)->Below w.drew.heap.size w.drew w'->wpList P ops Q [on] a w'):(Code.region id ops true).wp P Q a0 w:=by
 refine wp_region_any hm (RQ (S:=λ _ w'=>Below w.drew.heap.size w.drew w') (X:=λ w w'=>Below w.heap.size w w') (n:=n) hd (λ w w' j u h=>z w w' j u h) hn hlast (λ i o hi ho a w' _ hS hr=>?_) (λ l a w' hmid hl hln=>?_) ops.size (Array.replicate ops.size false) a0 w.drew ⟨rfl,rfl,Below.refl _ _,by simp,?_,?_,λ _ _=>rfl⟩ ?_ ?_)
 .have h:=aJ.at (ops.toList.take n) 0 hsteps i o (by rw[List.getElem?_take_of_lt hi,Array.getElem?_toList];exact ho)
  rw[Nat.zero_add]at h;have h2:=h a w' hS hr;split
  .rename_i hw
   rw[if_pos hw]at h2;exact Oper.wp_mono (λ a' w'' hh=>by obtain⟨v,h3,h4,h5⟩:=hh;exact⟨v,h3,h4,uJ hS h5,h5⟩) h2
  .rename_i hw
   rw[if_neg hw]at h2;exact⟨h2,hS⟩
 .have h:=hend a w' (λ i o d hi ho hod=>hmid.done i o d ho hod (hl i hi)) (RS hn hmid hln) hmid.s
  unfold wpOp;rw[hon];unfold wpList at h;exact h
 .intro i o _ hl
  simp[Array.getD]at hl
 .intro i o d _ _ hl
  simp[Array.getD]at hl
 .simp[Array.getD]
 .rw[Array.toList_replicate,D_];exact Nat.le_refl _
def ig(L:List (Value->World->Prop)):Prop:=∀p∈L,∀u w w',Below w.heap.size w w'->p u w->p u w'
theorem ig.nil:ig []:=λ _ h=>by cases h
theorem ig.cons{p:Value->World->Prop}{L:List (Value->World->Prop)}(h:∀u w w',Below w.heap.size w w'->p u w->p u w')(t:ig L):ig (p::L):=λ q hq=>by
 rcases List.mem_cons.1 hq with rfl|hq
 .exact h
 .exact t q hq
theorem ig.get{L:List (Value->World->Prop)}(h:ig L):∀w w' j u,Below w.heap.size w w'->(L.getD j (λ _ _=>True)) u w->(L.getD j (λ _ _=>True)) u w':=λ w w' j u hb hp=>by
 by_cases hj:j<L.length
 .rw[List.getD_eq_getElem?_getD,List.getElem?_eq_getElem hj,Option.getD_some]at hp|-
  exact h _ (List.getElem_mem _) u w w' hb hp
 .rw[List.getD_eq_getElem?_getD,List.getElem?_eq_none (by omega)]
  trivial
theorem Reads.got{i:Nat}{o:Oper}{a:Act}{w:World}(h:Reads ops F a0 i o a w)(d:Tmp)(j:Nat){oj:Oper}(hl:(looks ops o).contains d=true)(hj:ops[j]? =some oj)(hd:oj.dst=some d)(hji:j<i):F j (a.eval (.tmp d)) w:=
 (h d (by simpa using hl)).1 j oj hj hd hji
def Ka(ops:Array Oper)(i:Nat)(d:Tmp):Bool:=(ops.toList.take i).all λ o=>o.dst !=some d
theorem Reads.was{i:Nat}{o:Oper}{a:Act}{w:World}(h:Reads ops F a0 i o a w)(d:Tmp)(hl:(looks ops o).contains d=true)(hn:Ka ops i d=true):a.eval (.tmp d)=a0.eval (.tmp d):=by
 refine(h d (by simpa using hl)).2 λ j oj hj hd hji=>?_;have:=List.all_eq_true.1 hn oj (List.mem_of_getElem? (i:=j) (by rw[List.getElem?_take_of_lt hji,Array.getElem?_toList];exact hj));rw[hd]at this;simp at this
theorem xq{a:Act}{d:Tmp}{v:Value}(h:a.eval (.tmp d)=v):a.tmps[d]?.getD undef=v:=by rw[<-h];simp[Act.eval]
theorem bT{a:Act}(v:Value):a.eval (.const v)=v:=rfl
section
variable {W0:World} {i:Nat} {o:Oper} {a:Act} {w:World}
theorem dL(hg:o.guard=none):Region.wanted o (yielded ops a.tmps)=true:=by unfold Region.wanted;rw[hg]
theorem eO{g:Nat}{b t:Bool}{d:Tmp}{s:Oper}(hg:o.guard=some (g,b))(ho:ops[g]? =some s)(hd:s.dst=some d)(ht:a.eval (.tmp d)= .bool t):Region.wanted o (yielded ops a.tmps)=(t==b):=by
 have hy:yielded ops a.tmps g=some t:=by
  unfold yielded;have ht':a.tmps.getD d undef= .bool t:=ht;have:a.tmps[d]? =some (.bool t):=by
   cases hx:a.tmps[d]? with
   |none=>simp[hx,undef]at ht'
   |some u=>simp[hx]at ht';rw[ht']
  simp[ho,hd,this]
 unfold Region.wanted;rw[hg];simp only[hy];cases t<;>cases b<;>rfl
theorem pF{g:Nat}{b:Bool}{d:Tmp}{s:Oper}(hg:o.guard=some (g,b))(ho:ops[g]? =some s)(hd:s.dst=some d)(ht:a.eval (.tmp d)=undef):Region.wanted o (yielded ops a.tmps)=false:=by
 have hy:yielded ops a.tmps g=none:=by
  unfold yielded;have ht':a.tmps.getD d undef=undef:=ht;simp only[ho,hd,Option.bind_some];cases hx:a.tmps[d]? with
  |none=>rfl
  |some u=>
   have:u=undef:=by simpa[hx]using ht'
   subst this;rfl
 unfold Region.wanted;rw[hg];simp only[hy];cases b<;>rfl
theorem PU{Q:Exit->Act->World->Prop}{w1:World}(hg:o.guard=none)(hrun:(execOp a.eval o).run P w= .ok .skip w1)(hd:o.dst=none)(h:Q .normal a w1):wpList P ops Q [o] a w:=by
 refine Go.wpList_plain hg λ K hK=>?_;unfold Oper.wp;rw[hrun];show K (a.put o.dst undef) w1;rw[hd];exact hK _ _ h
theorem V5{t:Array Value}{d:List Deferred}{k:Tmp}:(Act.mk t d).eval (.tmp k)=t.getD k undef:=rfl
theorem gu{v:Value}(hw:Region.wanted o (yielded ops a.tmps)=true)(hF:F i v w)(hrun:(execOp a.eval o).run P w= .ok (.value v) w):
  if Region.wanted o (yielded ops a.tmps)=true then o.wp P a w (λ a' w'=>∃v,a'=a.put o.dst v∧F i v w'∧Below w.heap.size w w') (λ _ _ _=>False)else F i undef w:=by
 rw[if_pos hw];unfold Oper.wp;rw[hrun];exact⟨v,rfl,hF,Below.refl _ _⟩
theorem gU{f:FuncId}{fn:Func}{s:Array Operand}{ts:Array TypeId}(args:Array Value)(hw:Region.wanted o (yielded ops a.tmps)=true)(hf:P.funcs[f]? =some fn)(hname:(fn.name== "runtime.NumGoroutine")=false)(hb:fn.body.isSome=true)
  (hop:o.op= .call {callee:= .value (.func f),args:=s,argTypes:=ts})(hargs:s.map a.eval=args)
  (h:Calls P f args w λ e w'=>∃v,e= .returned v∧F i v w'∧Below w.heap.size w w'):
  if Region.wanted o (yielded ops a.tmps)=true then o.wp P a w (λ a' w'=>∃v,a'=a.put o.dst v∧F i v w'∧Below w.heap.size w w') (λ _ _ _=>False)else F i undef w:=by
 rw[if_pos hw];have h1:fn.name≠ "runtime.NumGoroutine":=by simpa using hname
 obtain⟨c,hc⟩:=Option.isSome_iff_exists.1 hb;have he:(callFunc f args).run P w= .ok (.enter f args) w:=by simp[callFunc,hf,h1,hc]
 have hrun:(execOp a.eval o).run P w= .ok (.enter f args) w:=by
  unfold execOp;simp[hop,resolve,Deferred.ofValue,invoke,Act.eval,hargs,he]
 unfold Oper.wp;rw[hrun,Oper.upon_enter];refine h.mono λ e w'' hh=>?_;obtain⟨v,rfl,hF,hbb⟩:=hh;exact⟨v,rfl,hF,hbb⟩
theorem Kg{f:FuncId}{fn:Func}{t:Tmp}{s:Array Operand}{ts:Array TypeId}(args:Array Value)(hw:Region.wanted o (yielded ops a.tmps)=true)(ht:a.eval (.tmp t)= .func (.func f) #[] #[])(hf:P.funcs[f]? =some fn)(hname:(fn.name== "runtime.NumGoroutine")=false)(hb:fn.body.isSome=true)
  (hop:o.op= .call {callee:= .value (.tmp t),args:=s,argTypes:=ts})(hargs:s.map a.eval=args)
  (h:Calls P f args w λ e w'=>∃v,e= .returned v∧F i v w'∧Below w.heap.size w w'):
  if Region.wanted o (yielded ops a.tmps)=true then o.wp P a w (λ a' w'=>∃v,a'=a.put o.dst v∧F i v w'∧Below w.heap.size w w') (λ _ _ _=>False)else F i undef w:=by
 rw[if_pos hw];have h1:fn.name≠ "runtime.NumGoroutine":=by simpa using hname
 obtain⟨c,hc⟩:=Option.isSome_iff_exists.1 hb;have he:(callFunc f args).run P w= .ok (.enter f args) w:=by simp[callFunc,hf,h1,hc]
 have ht':=xq ht;have hrun:(execOp a.eval o).run P w= .ok (.enter f args) w:=by
  unfold execOp;simp[hop,resolve,Deferred.ofValue,invoke,ht,hargs,he]
 unfold Oper.wp;rw[hrun,Oper.upon_enter];refine h.mono λ e w'' hh=>?_;obtain⟨v,rfl,hF,hbb⟩:=hh;exact⟨v,rfl,hF,hbb⟩
theorem qF(hw:Region.wanted o (yielded ops a.tmps)=false)(hF:F i undef w):
  if Region.wanted o (yielded ops a.tmps)=true then o.wp P a w (λ a' w'=>∃v,a'=a.put o.dst v∧F i v w'∧Below w.heap.size w w') (λ _ _ _=>False)else F i undef w:=by
 rw[hw,if_neg (by simp)];exact hF
end
end
end Go.Proofs.g_
end
namespace Go.Proofs.bO
def limbs(b n:Nat):List Int:=
 if h:n=0∨b<2 then []else((n% b:Nat):Int)::limbs b (n/b)
termination_by n
decreasing_by
 have h1:n≠0:=λ e=>h (.inl e);have h2:2≤b:=by omega
 exact Nat.div_lt_self (by omega) (by omega)
def val(b:Int):List Int->Int
 |[]=>0
 |x::xs=>x+b*val b xs
def inr(b:Int)(l:List Int):Prop:=∀x∈l,0≤x∧x<b
instance (b:Int)(l:List Int):Decidable (inr b l):=by unfold inr;infer_instance
def norm(b:Int)(l:List Int):Prop:=inr b l∧l.getLast?≠some 0
instance (b:Int)(l:List Int):Decidable (norm b l):=by unfold norm;infer_instance
def dU(l:List Int):List Int:=(l.reverse.dropWhile (· ==0)).reverse
theorem lQ(b:Int):inr b []:=λ x hx=>by simp at hx
theorem kX{b x:Int}{l:List Int}:inr b (x::l)↔(0≤x∧x<b)∧inr b l:=by
 unfold inr;simp
theorem nT{b:Int}{l m:List Int}:inr b (l++m)↔inr b l∧inr b m:=by
 unfold inr;constructor
 .intro h;exact⟨λ x hx=>h x (List.mem_append_left _ hx),λ x hx=>h x (List.mem_append_right _ hx)⟩
 .rintro⟨h1,h2⟩ x hx
  rcases List.mem_append.1 hx with hx|hx
  .exact h1 x hx
  .exact h2 x hx
theorem tT{b:Int}{l:List Int}(h:inr b l)(n:Nat):inr b (l.take n):=λ x hx=>h x (List.mem_of_mem_take hx)
theorem xu{b:Int}{l:List Int}(h:inr b l)(n:Nat):inr b (l.drop n):=λ x hx=>h x (List.mem_of_mem_drop hx)
theorem val_append(b:Int):∀l m:List Int,val b (l++m)=val b l+b^l.length*val b m
 |[],m=>by simp[val]
 |x::l,m=>by
  simp only[List.cons_append,val,List.length_cons,val_append b l m,Int.pow_succ];rw[Int.mul_add,<-Int.mul_assoc,Int.mul_comm b (b^l.length),Int.add_assoc]
theorem kT(b:Int)(l:List Int)(x:Int):val b (l++[x])=val b l+b^l.length*x:=by
 rw[val_append];simp[val]
theorem kF{b:Int}(hb:0<b):∀{l:List Int},inr b l->0≤val b l∧val b l<b^l.length
 |[],_=>by simp[val]
 |x::l,h=>by
  obtain⟨hx,hl⟩:=kX.1 h;obtain⟨h1,h2⟩:=kF hb hl;simp only[val,List.length_cons,Int.pow_succ];constructor
  .have:=Int.mul_nonneg (Int.le_of_lt hb) h1;omega
  .have h3:b*val b l≤b*(b^l.length-1):=Int.mul_le_mul_of_nonneg_left (by omega) (Int.le_of_lt hb)
   rw[Int.mul_sub,Int.mul_comm b (b^l.length)]at h3;omega
theorem qb{b:Int}(hb:0<b){l:List Int}(h:inr b l):0≤val b l:=(kF hb h).1
theorem bZ(b:Nat):limbs b 0=[]:=by unfold limbs;simp
theorem iL{b n:Nat}(hb:2≤b)(hn:n≠0):limbs b n=((n% b:Nat):Int)::limbs b (n/b):=by
 rw[limbs];rw[dif_neg (by omega)]
theorem uZ{b:Nat}(hb:2≤b)(n:Nat):val (b:Int) (limbs b n)=(n:Int):=by
 induction n using Nat.strongRecOn with
 |_ n ih=>
  by_cases hn:n=0
  .subst hn;rw[bZ];rfl
  .rw[iL hb hn,val,ih (n/b) (Nat.div_lt_self (by omega) (by omega))]
   have h1:(((n% b:Nat):Int)+(b:Int)*((n/b:Nat):Int))=((n% b+b*(n/b):Nat):Int):=by
    rw[Int.natCast_add,Int.natCast_mul]
   rw[h1,Nat.mod_add_div]
theorem yD{b:Nat}(hb:2≤b)(n:Nat):inr (b:Int) (limbs b n):=by
 induction n using Nat.strongRecOn with
 |_ n ih=>
  by_cases hn:n=0
  .subst hn;rw[bZ];exact lQ _
  .rw[iL hb hn]
   refine kX.2 ⟨⟨by omega,?_⟩,ih (n/b) (Nat.div_lt_self (by omega) (by omega))⟩;have:=Nat.mod_lt n (show 0<b by omega);omega
theorem nC{b n:Nat}(hb:2≤b)(hn:n≠0):limbs b n≠[]:=by rw[iL hb hn];simp
theorem Fh{b:Nat}(hb:2≤b)(n:Nat):(limbs b n).getLast?≠some 0:=by
 induction n using Nat.strongRecOn with
 |_ n ih=>
  by_cases hn:n=0
  .subst hn;rw[bZ];simp
  .rw[iL hb hn]
   by_cases hq:n/b=0
   .rw[hq,bZ]
    simp only[List.getLast?_singleton,ne_eq,Option.some.injEq];have:n<b:=by
     rcases Nat.div_eq_zero_iff.1 hq with h|h
     .omega
     .exact h
    rw[Nat.mod_eq_of_lt this];omega
   .have:=ih (n/b) (Nat.div_lt_self (by omega) (by omega))
    rcases List.eq_nil_or_concat (limbs b (n/b))with h|⟨ys,a,h⟩
    .exact absurd h (nC hb hq)
    .rw[h]at this|-
     rw[List.concat_eq_append]at this|-
     rw[<-List.cons_append,List.getLast?_concat];rwa[List.getLast?_concat]at this
theorem sI{b:Nat}(hb:2≤b)(n:Nat):norm (b:Int) (limbs b n):=⟨yD hb n,Fh hb n⟩
theorem Qm{b x:Int}{l:List Int}(h:norm b (x::l)):norm b l:=by
 refine⟨(kX.1 h.1).2,λ hl=>h.2 ?_⟩;rw[List.getLast?_cons,hl];rfl
theorem uX{b:Nat}(hb:2≤b):∀{l:List Int},norm (b:Int) l->limbs b (val (b:Int) l).toNat=l
 |[],_=>by simp[val,bZ]
 |x::l,h=>by
  have ih:=uX hb (Qm h);obtain⟨⟨hx0,hx1⟩,hl⟩:=kX.1 h.1;have hv:=qb (b:=(b:Int)) (by omega) hl;obtain⟨v,hv'⟩:=Int.eq_ofNat_of_zero_le hv;obtain⟨y,rfl⟩:=Int.eq_ofNat_of_zero_le hx0;have hy:y<b:=by omega
  rw[hv']at ih;simp only[Int.toNat_natCast]at ih;simp only[val,hv'];have e:((y:Int)+(b:Int)*(v:Int)).toNat=y+b*v:=by
   rw[<-Int.natCast_mul,<-Int.natCast_add,Int.toNat_natCast]
  rw[e];have hne:y+b*v≠0:=by
   intro h0;have hy0:y=0:=by omega
   have hv0:v=0:=by
    rcases Nat.eq_zero_or_pos v with h1|h1
    .exact h1
    .have:=Nat.mul_pos (show 0<b by omega) h1;omega
   subst hv0;rw[bZ]at ih;rw[<-ih]at h;have:=h.2;rw[hy0]at this;simp at this
  rw[iL hb hne];congr 1
  .rw[Nat.add_mul_mod_self_left,Nat.mod_eq_of_lt hy]
  .rw[Nat.add_mul_div_left _ _ (by omega),Nat.div_eq_of_lt hy,Nat.zero_add,ih]
theorem oK(ys:List Int)(a:Int):dU (ys++[a])=if a=0 then dU ys else ys++[a]:=by
 unfold dU;rw[List.reverse_append,List.reverse_singleton,List.singleton_append,List.dropWhile_cons];by_cases h:a=0
 .simp[h]
 .simp[h]
theorem NY(l:List Int):l=[]∨∃ys a,l=ys++[a]:=by
 rcases List.eq_nil_or_concat l with h|⟨ys,a,h⟩
 .exact .inl h
 .exact .inr ⟨ys,a,by simpa using h⟩
theorem qd{p:List Int->Prop}(h0:p [])(h1:∀ys a,p ys->p (ys++[a])):∀l,p l:=by
 intro l;obtain⟨n,hn⟩:∃n,l.length=n:=⟨_,rfl⟩;induction n generalizing l with
 |zero=>rw[List.eq_nil_of_length_eq_zero hn];exact h0
 |succ n ih=>
  rcases NY l with rfl|⟨ys,a,rfl⟩
  .exact h0
  .exact h1 ys a (ih ys (by simpa using hn))
theorem NZ(b:Int):∀l,val b (dU l)=val b l:=by
 refine qd rfl λ ys a ih=>?_;rw[oK];by_cases h:a=0
 .rw[if_pos h,ih,kT,h];simp
 .rw[if_neg h]
theorem N7{b:Int}:∀l,inr b l->inr b (dU l):=by
 refine qd (λ _=>lQ _) λ ys a ih h=>?_;rw[oK];by_cases ha:a=0
 .rw[if_pos ha];exact ih (nT.1 h).1
 .rw[if_neg ha];exact h
theorem LZ:∀l,(dU l).getLast?≠some 0:=by
 refine qd (by simp[dU]) λ ys a ih=>?_;rw[oK];by_cases ha:a=0
 .rw[if_pos ha];exact ih
 .rw[if_neg ha];simpa using ha
theorem mq:∀l,(dU l).length≤l.length:=by
 refine qd (Nat.le_refl _) λ ys a ih=>?_;rw[oK];by_cases ha:a=0
 .rw[if_pos ha,List.length_append];omega
 .rw[if_neg ha];exact Nat.le_refl _
theorem sF{b:Nat}(hb:2≤b){l:List Int}(h:inr (b:Int) l):dU l=limbs b (val (b:Int) l).toNat:=by
 rw[<-NZ];exact(uX hb ⟨N7 l h,LZ l⟩).symm
theorem yX{b:Nat}(hb:2≤b){l:List Int}(h:norm (b:Int) l):dU l=l:=by
 rw[sF hb h.1,uX hb h]
theorem gB{b:Nat}(hb:2≤b):∀(k n:Nat),n<b^k->(limbs b n).length≤k
 |0,n,h=>by
  have:n=0:=by simpa using h
  subst this;rw[bZ];simp
 |k+1,n,h=>by
  by_cases hn:n=0
  .subst hn;rw[bZ];simp
  .rw[iL hb hn,List.length_cons]
   have:=gB hb k (n/b) (Nat.div_lt_of_lt_mul (by rw[Nat.mul_comm];rwa[Nat.pow_succ]at h));omega
theorem nV{b:Nat}(hb:2≤b)(n:Nat):n<b^(limbs b n).length:=by
 have h:=(kF (b:=(b:Int)) (by omega) (yD hb n)).2;rw[uZ hb]at h;rw[<-Int.natCast_pow]at h;omega
theorem Kk{b:Nat}(hb:2≤b)(n:Nat)(hn:n≠0):b^((limbs b n).length-1)≤n:=by
 by_cases h:b^((limbs b n).length-1)≤n
 .exact h
 .have h1:=gB hb _ n (Nat.lt_of_not_le h)
  have h2:(limbs b n).length≠0:=λ e=>nC hb hn (List.eq_nil_of_length_eq_zero e);omega
theorem fU{b:Nat}(hb:2≤b){m n:Nat}(h:m≤n):(limbs b m).length≤(limbs b n).length:=
 gB hb _ m (Nat.lt_of_le_of_lt h (nV hb n))
theorem Df(b:Int):∀(l:List Int)(i:Nat)(v:Int)(h:i<l.length),val b (l.set i v)=val b l+(v-l[i])*b^i
 |x::l,0,v,h=>by simp[val];omega
 |x::l,i+1,v,h=>by
  have:=Df b l i v (by simpa using h);simp only[List.set_cons_succ,val,List.getElem_cons_succ,Int.pow_succ];rw[this];grind
theorem zJ{b:Int}{l:List Int}(h:inr b l)(i:Nat){v:Int}(hv:0≤v∧v<b):inr b (l.set i v):=by
 intro x hx;rcases List.mem_or_eq_of_mem_set hx with h1|rfl
 .exact h x h1
 .exact hv
theorem mE(b:Int):∀n,val b (List.replicate n 0)=0
 |0=>rfl
 |n+1=>by rw[List.replicate_succ,val,mE b n];simp
theorem oz{b:Int}(hb:0<b)(n:Nat):inr b (List.replicate n 0):=λ x hx=>by rw[List.eq_of_mem_replicate hx];omega
theorem jh(b:Int)(l:List Int)(i:Nat)(h:i<l.length):val b (l.take (i+1))=val b (l.take i)+b^i*l[i]:=by
 rw[List.take_succ_eq_append_getElem h,kT,List.length_take,Nat.min_eq_left (by omega)]
theorem I9(b:Int)(l:List Int)(i:Nat)(h:i≤l.length):val b l=val b (l.take i)+b^i*val b (l.drop i):=by
 have:=val_append b (l.take i) (l.drop i);rw[List.take_append_drop,List.length_take,Nat.min_eq_left h]at this;exact this
theorem fI{b:Int}{l:List Int}(h:inr b l){i:Nat}(hi:i<l.length):0≤l[i]∧l[i]<b:=h _ (List.getElem_mem hi)
theorem pow_pos{b:Int}(hb:0<b)(n:Nat):0<b^n:=Int.pow_pos hb
theorem UH{b:Int}(hb:1≤b){m n:Nat}(h:m≤n):b^m≤b^n:=by
 induction n with
 |zero=>rw[Nat.le_zero.1 h];exact Int.le_refl _
 |succ n ih=>
  by_cases h1:m=n+1
  .rw[h1];exact Int.le_refl _
  .refine Int.le_trans (ih (by omega)) ?_
   rw[Int.pow_succ];have h2:=pow_pos (by omega:0<b) n;have h3:=Int.mul_le_mul_of_nonneg_left hb (by omega:0≤b^n);rw[Int.mul_one]at h3;exact h3
def jA(a b:Int):Int:=if a<b then -1 else if a>b then 1 else 0
theorem wh{b x y:Int}{xs ys:List Int}(hb:0<b)(hl:xs.length=ys.length)(hx:inr b xs)(hy:inr b ys)(h:x<y):val b (xs++[x])<val b (ys++[y]):=by
 rw[kT,kT,hl];have h1:=kF hb hx;have h2:=kF hb hy;rw[hl]at h1;have h3:b^ys.length*(x+1)≤b^ys.length*y:=Int.mul_le_mul_of_nonneg_left (by omega) (by have:=pow_pos hb ys.length;omega);rw[Int.mul_add,Int.mul_one]at h3;omega
theorem nH{b m n:Nat}(hb:2≤b)(h:(limbs b m).length<(limbs b n).length):m<n:=by
 by_cases h1:m<n
 .exact h1
 .have:=fU hb (by omega:n≤m);omega
theorem Qn{b m n:Nat}(hb:2≤b)(h:limbs b m=limbs b n):m=n:=by
 have h1:=uZ hb m;have h2:=uZ hb n;rw[h]at h1;omega
theorem gK{b m:Nat}(hb:2≤b):limbs b m=[]↔m=0:=by
 refine⟨λ h=>?_,λ h=>by rw[h,bZ]⟩;exact Qn hb (h.trans (bZ b).symm)
end Go.Proofs.bO
namespace Go.Proofs
open Go.Shelf
def Tryz.lays169_ren:Go.Shelf.Ren:=⟨λ|169=>20|n=>n,λ|70=>57|9=>9|0=>0|72=>60|37=>58|127=>156|3=>3|5=>5|n=>n,λ|n=>n⟩
theorem Tryz.lays169:Go.Proofs.Lays.n169 Tryz.prog Tryz.lays169_ren:={
 mixed:=by kernel_rfl
 f169:=Tryz.func20.trans (congrArg some (by kernel_rfl))
 t0:=Tryz.underlying0
 a0:=Tryz.isAgg0
 z0:=Tryz.sizeOf0
 v0:=Tryz.zeroValue0
 t3:=Tryz.underlying3
 a3:=Tryz.isAgg3
 z3:=Tryz.sizeOf3
 v3:=Tryz.zeroValue3
 t9:=Tryz.underlying9
 a9:=Tryz.isAgg9
 z9:=Tryz.sizeOf9
 v9:=Tryz.zeroValue9
 t37:=Tryz.underlying58
 a37:=Tryz.isAgg58
 z37:=Tryz.sizeOf58
 v37:=Tryz.zeroValue58
 t70:=Tryz.underlying57
 a70:=Tryz.isAgg57
 z70:=Tryz.sizeOf57
 v70:=Tryz.zeroValue57
 t72:=Tryz.underlying60
 a72:=Tryz.isAgg60
 z72:=Tryz.sizeOf60
 v72:=Tryz.zeroValue60
 t127:=Tryz.underlying156
 a127:=Tryz.isAgg156
 z127:=Tryz.sizeOf156
 v127:=Tryz.zeroValue156}
theorem Tryz.Builder_Extra_169:Builder.Extra Tryz.prog Tryz.lays169_ren:={
 sizeBuilder:=by kernel_rfl
 liesBuilder:=by kernel_rfl
 t5:=Tryz.underlying5
 a5:=Tryz.isAgg5
 z5:=Tryz.sizeOf5
 v5:=Tryz.zeroValue5
 infoByte:=by kernel_rfl
 cellsByte:=by kernel_rfl
 sizeByte:=by kernel_rfl
 neB5:=by decide}
def Tryz.lays161_ren:Go.Shelf.Ren:=⟨λ|161=>246|231=>310|227=>312|233=>313|235=>315|228=>401|197=>402|151=>59|260=>467|152=>133|137=>235|119=>236|224=>237|225=>238|217=>323|266=>410|n=>n,λ|9=>9|4=>4|3=>3|5=>5|117=>417|116=>416|0=>0|124=>420|105=>502|21=>21|119=>586|46=>330|139=>589|138=>588|n=>n,λ|3=>4|4=>5|n=>n⟩
theorem Tryz.lays161:Go.Proofs.Lays.n161 Tryz.prog Tryz.lays161_ren:={
 mixed:=by kernel_rfl
 f119:=Tryz.func236.trans (congrArg some (by kernel_rfl))
 f137:=Tryz.func235.trans (congrArg some (by kernel_rfl))
 f151:=Tryz.func59.trans (congrArg some (by kernel_rfl))
 f152:=Tryz.func133.trans (congrArg some (by kernel_rfl))
 f161:=Tryz.func246.trans (congrArg some (by kernel_rfl))
 f197:=Tryz.func402.trans (congrArg some (by kernel_rfl))
 f217:=Tryz.func323.trans (congrArg some (by kernel_rfl))
 f224:=Tryz.func237.trans (congrArg some (by kernel_rfl))
 f225:=Tryz.func238.trans (congrArg some (by kernel_rfl))
 f227:=Tryz.func312.trans (congrArg some (by kernel_rfl))
 f228:=Tryz.func401.trans (congrArg some (by kernel_rfl))
 f231:=Tryz.func310.trans (congrArg some (by kernel_rfl))
 f233:=Tryz.func313.trans (congrArg some (by kernel_rfl))
 f235:=Tryz.func315.trans (congrArg some (by kernel_rfl))
 f260:=Tryz.func467.trans (congrArg some (by kernel_rfl))
 f266:=Tryz.func410.trans (congrArg some (by kernel_rfl))
 t0:=Tryz.underlying0
 a0:=Tryz.isAgg0
 z0:=Tryz.sizeOf0
 v0:=Tryz.zeroValue0
 t3:=Tryz.underlying3
 a3:=Tryz.isAgg3
 z3:=Tryz.sizeOf3
 v3:=Tryz.zeroValue3
 t4:=Tryz.underlying4
 a4:=Tryz.isAgg4
 z4:=Tryz.sizeOf4
 v4:=Tryz.zeroValue4
 t5:=Tryz.underlying5
 a5:=Tryz.isAgg5
 z5:=Tryz.sizeOf5
 v5:=Tryz.zeroValue5
 t9:=Tryz.underlying9
 a9:=Tryz.isAgg9
 z9:=Tryz.sizeOf9
 v9:=Tryz.zeroValue9
 t21:=Tryz.underlying21
 a21:=Tryz.isAgg21
 z21:=Tryz.sizeOf21
 v21:=Tryz.zeroValue21
 t46:=Tryz.underlying330
 a46:=Tryz.isAgg330
 z46:=Tryz.sizeOf330
 v46:=Tryz.zeroValue330
 t105:=Tryz.underlying502
 a105:=Tryz.isAgg502
 z105:=Tryz.sizeOf502
 v105:=Tryz.zeroValue502
 t116:=Tryz.underlying416
 a116:=Tryz.isAgg416
 z116:=Tryz.sizeOf416
 t117:=Tryz.underlying417
 a117:=Tryz.isAgg417
 z117:=Tryz.sizeOf417
 v117:=Tryz.zeroValue417
 t119:=Tryz.underlying586
 a119:=Tryz.isAgg586
 z119:=Tryz.sizeOf586
 t124:=Tryz.underlying420
 a124:=Tryz.isAgg420
 z124:=Tryz.sizeOf420
 v124:=Tryz.zeroValue420
 t138:=Tryz.underlying588
 a138:=Tryz.isAgg588
 z138:=Tryz.sizeOf588
 v138:=Tryz.zeroValue588
 t139:=Tryz.underlying589
 a139:=Tryz.isAgg589
 z139:=Tryz.sizeOf589
 v139:=Tryz.zeroValue589
 g3:=by kernel_rfl
 g4:=by kernel_rfl}
def Tryz.lays160_ren:Go.Shelf.Ren:=⟨λ|160=>229|232=>311|231=>310|227=>312|234=>314|233=>313|236=>316|235=>315|228=>401|271=>403|151=>59|197=>402|120=>468|152=>133|260=>467|137=>235|119=>236|224=>237|225=>238|217=>323|266=>410|n=>n,λ|9=>9|4=>4|3=>3|5=>5|117=>417|116=>416|0=>0|124=>420|21=>21|105=>502|46=>330|119=>586|139=>589|138=>588|n=>n,λ|3=>4|4=>5|n=>n⟩
theorem Tryz.lays160:Go.Proofs.Lays.n160 Tryz.prog Tryz.lays160_ren:={
 mixed:=by kernel_rfl
 f119:=Tryz.func236.trans (congrArg some (by kernel_rfl))
 f120:=Tryz.func468.trans (congrArg some (by kernel_rfl))
 f137:=Tryz.func235.trans (congrArg some (by kernel_rfl))
 f151:=Tryz.func59.trans (congrArg some (by kernel_rfl))
 f152:=Tryz.func133.trans (congrArg some (by kernel_rfl))
 f160:=Tryz.func229.trans (congrArg some (by kernel_rfl))
 f197:=Tryz.func402.trans (congrArg some (by kernel_rfl))
 f217:=Tryz.func323.trans (congrArg some (by kernel_rfl))
 f224:=Tryz.func237.trans (congrArg some (by kernel_rfl))
 f225:=Tryz.func238.trans (congrArg some (by kernel_rfl))
 f227:=Tryz.func312.trans (congrArg some (by kernel_rfl))
 f228:=Tryz.func401.trans (congrArg some (by kernel_rfl))
 f231:=Tryz.func310.trans (congrArg some (by kernel_rfl))
 f232:=Tryz.func311.trans (congrArg some (by kernel_rfl))
 f233:=Tryz.func313.trans (congrArg some (by kernel_rfl))
 f234:=Tryz.func314.trans (congrArg some (by kernel_rfl))
 f235:=Tryz.func315.trans (congrArg some (by kernel_rfl))
 f236:=Tryz.func316.trans (congrArg some (by kernel_rfl))
 f260:=Tryz.func467.trans (congrArg some (by kernel_rfl))
 f266:=Tryz.func410.trans (congrArg some (by kernel_rfl))
 f271:=Tryz.func403.trans (congrArg some (by kernel_rfl))
 t0:=Tryz.underlying0
 a0:=Tryz.isAgg0
 z0:=Tryz.sizeOf0
 v0:=Tryz.zeroValue0
 t3:=Tryz.underlying3
 a3:=Tryz.isAgg3
 z3:=Tryz.sizeOf3
 v3:=Tryz.zeroValue3
 t4:=Tryz.underlying4
 a4:=Tryz.isAgg4
 z4:=Tryz.sizeOf4
 v4:=Tryz.zeroValue4
 t5:=Tryz.underlying5
 a5:=Tryz.isAgg5
 z5:=Tryz.sizeOf5
 v5:=Tryz.zeroValue5
 t9:=Tryz.underlying9
 a9:=Tryz.isAgg9
 z9:=Tryz.sizeOf9
 v9:=Tryz.zeroValue9
 t21:=Tryz.underlying21
 a21:=Tryz.isAgg21
 z21:=Tryz.sizeOf21
 v21:=Tryz.zeroValue21
 t46:=Tryz.underlying330
 a46:=Tryz.isAgg330
 z46:=Tryz.sizeOf330
 v46:=Tryz.zeroValue330
 t105:=Tryz.underlying502
 a105:=Tryz.isAgg502
 z105:=Tryz.sizeOf502
 v105:=Tryz.zeroValue502
 t116:=Tryz.underlying416
 a116:=Tryz.isAgg416
 z116:=Tryz.sizeOf416
 t117:=Tryz.underlying417
 a117:=Tryz.isAgg417
 z117:=Tryz.sizeOf417
 v117:=Tryz.zeroValue417
 t119:=Tryz.underlying586
 a119:=Tryz.isAgg586
 z119:=Tryz.sizeOf586
 t124:=Tryz.underlying420
 a124:=Tryz.isAgg420
 z124:=Tryz.sizeOf420
 v124:=Tryz.zeroValue420
 t138:=Tryz.underlying588
 a138:=Tryz.isAgg588
 z138:=Tryz.sizeOf588
 v138:=Tryz.zeroValue588
 t139:=Tryz.underlying589
 a139:=Tryz.isAgg589
 z139:=Tryz.sizeOf589
 v139:=Tryz.zeroValue589
 g3:=by kernel_rfl
 g4:=by kernel_rfl}
def Tryz.lays119_ren:Go.Shelf.Ren:=⟨λ|119=>236|n=>n,λ|21=>21|4=>4|n=>n,λ|n=>n⟩
theorem Tryz.lays119:Go.Proofs.Lays.n119 Tryz.prog Tryz.lays119_ren:={
 mixed:=by kernel_rfl
 f119:=Tryz.func236.trans (congrArg some (by kernel_rfl))
 t4:=Tryz.underlying4
 a4:=Tryz.isAgg4
 z4:=Tryz.sizeOf4
 v4:=Tryz.zeroValue4
 t21:=Tryz.underlying21
 a21:=Tryz.isAgg21
 z21:=Tryz.sizeOf21
 v21:=Tryz.zeroValue21}
theorem Tryz.utf8_ValidRune(r:Int)(w:World):
 Calls Tryz.prog 236 #[.int .i32 r] w λ e w'=>e= .returned (.bool (Lib.validRune r))∧w'=w:=Any.utf8_ValidRune Tryz.lays119 r w
def Tryz.lays106_ren:Go.Shelf.Ren:=⟨λ|106=>244|213=>329|265=>413|n=>n,λ|9=>9|3=>3|n=>n,λ|n=>n⟩
theorem Tryz.lays106:Go.Proofs.Lays.n106 Tryz.prog Tryz.lays106_ren:={
 mixed:=by kernel_rfl
 f106:=Tryz.func244.trans (congrArg some (by kernel_rfl))
 f213:=Tryz.func329.trans (congrArg some (by kernel_rfl))
 f265:=Tryz.func413.trans (congrArg some (by kernel_rfl))
 t3:=Tryz.underlying3
 a3:=Tryz.isAgg3
 z3:=Tryz.sizeOf3
 v3:=Tryz.zeroValue3
 t9:=Tryz.underlying9
 a9:=Tryz.isAgg9
 z9:=Tryz.sizeOf9
 v9:=Tryz.zeroValue9}
open Go.RowKit in
theorem Tryz.strings_Compare(a b:ByteArray)(w:World):
 Calls Tryz.prog 244 #[.string a,.string b] w λ e w'=>e= .returned (.int .i64 (Lib.compareBytes a.data.toList b.data.toList))∧w'=w:=Any.strings_Compare Tryz.lays106 a b w
def Tryz.lays137_ren:Go.Shelf.Ren:=⟨λ|137=>235|217=>323|266=>410|n=>n,λ|9=>9|5=>5|3=>3|n=>n,λ|n=>n⟩
theorem Tryz.lays137:Go.Proofs.Lays.n137 Tryz.prog Tryz.lays137_ren:={
 mixed:=by kernel_rfl
 f137:=Tryz.func235.trans (congrArg some (by kernel_rfl))
 f217:=Tryz.func323.trans (congrArg some (by kernel_rfl))
 f266:=Tryz.func410.trans (congrArg some (by kernel_rfl))
 t3:=Tryz.underlying3
 a3:=Tryz.isAgg3
 z3:=Tryz.sizeOf3
 v3:=Tryz.zeroValue3
 t5:=Tryz.underlying5
 a5:=Tryz.isAgg5
 z5:=Tryz.sizeOf5
 v5:=Tryz.zeroValue5
 t9:=Tryz.underlying9
 a9:=Tryz.isAgg9
 z9:=Tryz.sizeOf9
 v9:=Tryz.zeroValue9}
open Go.RowKit in
theorem Tryz.strings_IndexByte(s:ByteArray)(c:Int)(w:World):
 Calls Tryz.prog 235 #[.string s,.int .u8 c] w λ e w'=>e= .returned (.int .i64 (Lib.indexByte s.data.toList c.toNat.toUInt8))∧w'=w:=Any.strings_IndexByte Tryz.lays137 s c w
def Tryz.lays103_ren:Go.Shelf.Ren:=⟨λ|103=>228|210=>309|206=>400|n=>n,λ|9=>9|4=>4|24=>89|3=>3|n=>n,λ|n=>n⟩
theorem Tryz.lays103:Go.Proofs.Lays.n103 Tryz.prog Tryz.lays103_ren:={
 mixed:=by kernel_rfl
 f103:=Tryz.func228.trans (congrArg some (by kernel_rfl))
 f206:=Tryz.func400.trans (congrArg some (by kernel_rfl))
 f210:=Tryz.func309.trans (congrArg some (by kernel_rfl))
 t3:=Tryz.underlying3
 a3:=Tryz.isAgg3
 z3:=Tryz.sizeOf3
 v3:=Tryz.zeroValue3
 t4:=Tryz.underlying4
 a4:=Tryz.isAgg4
 z4:=Tryz.sizeOf4
 v4:=Tryz.zeroValue4
 t9:=Tryz.underlying9
 a9:=Tryz.isAgg9
 z9:=Tryz.sizeOf9
 v9:=Tryz.zeroValue9
 t24:=Tryz.underlying89
 a24:=Tryz.isAgg89
 z24:=Tryz.sizeOf89
 v24:=Tryz.zeroValue89}
open Go.RowKit in
theorem Tryz.strings_CutPrefix(s p:ByteArray)(w:World):
 Calls Tryz.prog 228 #[.string s,.string p] w λ e w'=>e= .returned (.tuple #[.string ⟨(Lib.trimPrefix s.data.toList p.data.toList).toArray⟩,.bool (Lib.hasPrefix s.data.toList p.data.toList)])∧w'=w:=Any.strings_CutPrefix Tryz.lays103 s p w
open Go.RowKit in
theorem Tryz.Builder_String_any_f(B b:Nat)(l:List UInt8)(w:World)(h:Lib.IsBuilderF 60 5 B b (Lib.byteCells l) w)(hBw:B≤w.heap.size):
 Calls Tryz.prog 20 #[.pointer (some ⟨b,0,none⟩)] w λ e w'=>e= .returned (.string ⟨l.toArray⟩)∧(Lib.IsBuilderF 60 5 B b (Lib.byteCells l) w'∧Below B w w'):=Any.Builder_String_any_f Tryz.lays169 Tryz.Builder_Extra_169 B b l w h hBw
def Tryz.laysM171_ren:Go.Shelf.Ren:=⟨λ|171=>19|243=>61|246=>135|283=>239|284=>240|285=>241|286=>242|129=>325|317=>324|318=>326|319=>327|320=>328|337=>411|338=>412|n=>n,λ|3=>3|9=>9|2=>2|4=>4|171=>339|0=>0|53=>249|37=>58|5=>5|173=>342|212=>428|51=>328|20=>20|213=>429|46=>330|232=>553|233=>554|n=>n,λ|17=>1|18=>2|19=>3|n=>n⟩
theorem Tryz.laysM171:Go.Proofs.LaysM.n171 Tryz.prog Tryz.laysM171_ren:={
 mixed:=by kernel_rfl
 f129:=Tryz.func325.trans (congrArg some (by kernel_rfl))
 f171:=Tryz.func19.trans (congrArg some (by kernel_rfl))
 f243:=Tryz.func61.trans (congrArg some (by kernel_rfl))
 f246:=Tryz.func135.trans (congrArg some (by kernel_rfl))
 f283:=Tryz.func239.trans (congrArg some (by kernel_rfl))
 f284:=Tryz.func240.trans (congrArg some (by kernel_rfl))
 f285:=Tryz.func241.trans (congrArg some (by kernel_rfl))
 f286:=Tryz.func242.trans (congrArg some (by kernel_rfl))
 f317:=Tryz.func324.trans (congrArg some (by kernel_rfl))
 f318:=Tryz.func326.trans (congrArg some (by kernel_rfl))
 f319:=Tryz.func327.trans (congrArg some (by kernel_rfl))
 f320:=Tryz.func328.trans (congrArg some (by kernel_rfl))
 f337:=Tryz.func411.trans (congrArg some (by kernel_rfl))
 f338:=Tryz.func412.trans (congrArg some (by kernel_rfl))
 t0:=Tryz.underlying0
 a0:=Tryz.isAgg0
 z0:=Tryz.sizeOf0
 v0:=Tryz.zeroValue0
 t2:=Tryz.underlying2
 a2:=Tryz.isAgg2
 z2:=Tryz.sizeOf2
 v2:=Tryz.zeroValue2
 t3:=Tryz.underlying3
 a3:=Tryz.isAgg3
 z3:=Tryz.sizeOf3
 v3:=Tryz.zeroValue3
 t4:=Tryz.underlying4
 a4:=Tryz.isAgg4
 z4:=Tryz.sizeOf4
 v4:=Tryz.zeroValue4
 t5:=Tryz.underlying5
 a5:=Tryz.isAgg5
 z5:=Tryz.sizeOf5
 v5:=Tryz.zeroValue5
 t9:=Tryz.underlying9
 a9:=Tryz.isAgg9
 z9:=Tryz.sizeOf9
 v9:=Tryz.zeroValue9
 t20:=Tryz.underlying20
 a20:=Tryz.isAgg20
 z20:=Tryz.sizeOf20
 v20:=Tryz.zeroValue20
 t37:=Tryz.underlying58
 a37:=Tryz.isAgg58
 z37:=Tryz.sizeOf58
 v37:=Tryz.zeroValue58
 t46:=Tryz.underlying330
 a46:=Tryz.isAgg330
 z46:=Tryz.sizeOf330
 v46:=Tryz.zeroValue330
 t51:=Tryz.underlying328
 a51:=Tryz.isAgg328
 z51:=Tryz.sizeOf328
 v51:=Tryz.zeroValue328
 t53:=Tryz.underlying249
 a53:=Tryz.isAgg249
 z53:=Tryz.sizeOf249
 v53:=Tryz.zeroValue249
 t171:=Tryz.underlying339
 a171:=Tryz.isAgg339
 z171:=Tryz.sizeOf339
 v171:=Tryz.zeroValue339
 t173:=Tryz.underlying342
 a173:=Tryz.isAgg342
 z173:=Tryz.sizeOf342
 v173:=Tryz.zeroValue342
 t212:=Tryz.underlying428
 a212:=Tryz.isAgg428
 z212:=Tryz.sizeOf428
 v212:=Tryz.zeroValue428
 t213:=Tryz.underlying429
 a213:=Tryz.isAgg429
 z213:=Tryz.sizeOf429
 t232:=Tryz.underlying553
 a232:=Tryz.isAgg553
 z232:=Tryz.sizeOf553
 v232:=Tryz.zeroValue553
 t233:=Tryz.underlying554
 a233:=Tryz.isAgg554
 z233:=Tryz.sizeOf554
 v233:=Tryz.zeroValue554
 g17:=by kernel_rfl
 g18:=by kernel_rfl
 g19:=by kernel_rfl
 i0:=by kernel_rfl
 i2:=by kernel_rfl
 i3:=by kernel_rfl
 i4:=by kernel_rfl
 i5:=by kernel_rfl
 i9:=by kernel_rfl
 i20:=by kernel_rfl
 i37:=by kernel_rfl
 i46:=by kernel_rfl
 i51:=by kernel_rfl
 i53:=by kernel_rfl
 i171:=by kernel_rfl
 i173:=by kernel_rfl
 i212:=by kernel_rfl
 i232:=by kernel_rfl
 i233:=by kernel_rfl
 m17:=by kernel_rfl
 m18:=by kernel_rfl
 m19:=by kernel_rfl}
open Go.RowKit Go.Sort Go.Lib in
theorem Tryz.strconv_Itoa(n:Int)(h0: -9223372036854775808≤n)(h1:n≤9223372036854775807)(w:World)(htab:Lib.TabIs Tryz.prog w "internal/strconv.uint64pow10" .u64 Lib.pow10Tab):
 Calls Tryz.prog 19 #[.int .i64 n] w λ e w'=>e= .returned (.string ⟨(Lib.itoa n).toArray⟩)∧∃k os,w'=grow (w.drewN k) os:=Any.strconv_Itoa Tryz.laysM171 n h0 h1 w htab
def Tryz.lays219_ren:Go.Shelf.Ren:=⟨λ|219=>308|217=>323|225=>238|224=>237|267=>399|266=>410|314=>466|n=>n,λ|9=>9|3=>3|4=>4|5=>5|46=>330|146=>551|51=>328|n=>n,λ|1=>0|n=>n⟩
theorem Tryz.lays219:Go.Proofs.Lays.n219 Tryz.prog Tryz.lays219_ren:={
 mixed:=by kernel_rfl
 f217:=Tryz.func323.trans (congrArg some (by kernel_rfl))
 f219:=Tryz.func308.trans (congrArg some (by kernel_rfl))
 f224:=Tryz.func237.trans (congrArg some (by kernel_rfl))
 f225:=Tryz.func238.trans (congrArg some (by kernel_rfl))
 f266:=Tryz.func410.trans (congrArg some (by kernel_rfl))
 f267:=Tryz.func399.trans (congrArg some (by kernel_rfl))
 f314:=Tryz.func466.trans (congrArg some (by kernel_rfl))
 t3:=Tryz.underlying3
 a3:=Tryz.isAgg3
 z3:=Tryz.sizeOf3
 v3:=Tryz.zeroValue3
 t4:=Tryz.underlying4
 a4:=Tryz.isAgg4
 z4:=Tryz.sizeOf4
 v4:=Tryz.zeroValue4
 t5:=Tryz.underlying5
 a5:=Tryz.isAgg5
 z5:=Tryz.sizeOf5
 v5:=Tryz.zeroValue5
 t9:=Tryz.underlying9
 a9:=Tryz.isAgg9
 z9:=Tryz.sizeOf9
 v9:=Tryz.zeroValue9
 t46:=Tryz.underlying330
 a46:=Tryz.isAgg330
 z46:=Tryz.sizeOf330
 v46:=Tryz.zeroValue330
 t51:=Tryz.underlying328
 a51:=Tryz.isAgg328
 z51:=Tryz.sizeOf328
 v51:=Tryz.zeroValue328
 t146:=Tryz.underlying551
 a146:=Tryz.isAgg551
 z146:=Tryz.sizeOf551
 v146:=Tryz.zeroValue551
 g1:=by kernel_rfl}
open Go.RowKit Go.Lib in
theorem Tryz.stringslite_Index_one(s:ByteArray)(c:UInt8)(w:World):
 Calls Tryz.prog 308 #[.string s,.string ⟨#[c]⟩] w λ e w'=>e= .returned (.int .i64 (Lib.indexByte s.data.toList c))∧w'=w:=Any.stringslite_Index_one Tryz.lays219 s c w
def Tryz.lays151_ren:Go.Shelf.Ren:=⟨λ|151=>59|152=>133|137=>235|119=>236|224=>237|225=>238|217=>323|266=>410|n=>n,λ|9=>9|21=>21|4=>4|3=>3|5=>5|0=>0|46=>330|n=>n,λ|n=>n⟩
theorem Tryz.lays151:Go.Proofs.Lays.n151 Tryz.prog Tryz.lays151_ren:={
 mixed:=by kernel_rfl
 f119:=Tryz.func236.trans (congrArg some (by kernel_rfl))
 f137:=Tryz.func235.trans (congrArg some (by kernel_rfl))
 f151:=Tryz.func59.trans (congrArg some (by kernel_rfl))
 f152:=Tryz.func133.trans (congrArg some (by kernel_rfl))
 f217:=Tryz.func323.trans (congrArg some (by kernel_rfl))
 f224:=Tryz.func237.trans (congrArg some (by kernel_rfl))
 f225:=Tryz.func238.trans (congrArg some (by kernel_rfl))
 f266:=Tryz.func410.trans (congrArg some (by kernel_rfl))
 t0:=Tryz.underlying0
 a0:=Tryz.isAgg0
 z0:=Tryz.sizeOf0
 v0:=Tryz.zeroValue0
 t3:=Tryz.underlying3
 a3:=Tryz.isAgg3
 z3:=Tryz.sizeOf3
 v3:=Tryz.zeroValue3
 t4:=Tryz.underlying4
 a4:=Tryz.isAgg4
 z4:=Tryz.sizeOf4
 v4:=Tryz.zeroValue4
 t5:=Tryz.underlying5
 a5:=Tryz.isAgg5
 z5:=Tryz.sizeOf5
 v5:=Tryz.zeroValue5
 t9:=Tryz.underlying9
 a9:=Tryz.isAgg9
 z9:=Tryz.sizeOf9
 v9:=Tryz.zeroValue9
 t21:=Tryz.underlying21
 a21:=Tryz.isAgg21
 z21:=Tryz.sizeOf21
 v21:=Tryz.zeroValue21
 t46:=Tryz.underlying330
 a46:=Tryz.isAgg330
 z46:=Tryz.sizeOf330
 v46:=Tryz.zeroValue330}
open Go.RowKit Go.Lib in
theorem Tryz.strings_ContainsRune_ascii(s:ByteArray)(r:Int)(w:World)(h0:0≤r)(h1:r<128):
 Calls Tryz.prog 59 #[.string s,.int .i32 r] w λ e w'=>e= .returned (.bool (decide (0≤Lib.indexByte s.data.toList r.toNat.toUInt8)))∧w'=w:=Any.strings_ContainsRune_ascii Tryz.lays151 s r w h0 h1
end Go.Proofs
