/- Part of the proof of CheckTexts (see the last text). -/
import Derived.IntWalk
import Derived.Test.YtcclielbggpoaaaGreatDoorA20
set_option linter.all false
section
namespace Go.cK
abbrev bn:String->Bool:=λ _=>false
def TR(ι:Pl)(T:Te)(a:Act):Prop:=∀t v,T.get t=some v->VR ι v (a.eval (.tmp t))
theorem TR.mono{ι aV:Pl}{T:Te}{a:Act}(h:TR ι T a)(hl:ι.le aV):TR aV T a:=λ t v hv=>(h t v hv).mono hl
theorem O1(ι:Pl){x:Value}{v:AV}(h:Mk x=some v):VR ι v x:=by
 unfold Mk at h;split at h<;>first
  |(cases h;first|exact .bool _|exact .int _ _|exact .str _|exact .oM|exact .bF|exact .oN|exact .qV|exact .oZ)
  |cases h
theorem Um{x:Value}{v:AV}(h:Mk x=some v):v.one=true:=by
 unfold Mk at h;split at h<;>first
  |(cases h;rfl)
  |cases h
theorem ME(ι:Pl):∀{xs:List Value}{vs:List AV},OE xs=some vs->dV ι vs xs∧∀c∈vs,c.one=true
 |[],vs,h=>by cases h;exact⟨.nil,by simp⟩
 |x::xs,vs,h=>by
  unfold OE at h;split at h
  .rename_i a s h1 h2
   cases h;obtain⟨p,q⟩:=ME ι h2;exact⟨.cons (O1 ι h1) p,by intro c hc;cases hc with|head=>exact Um h1|tail _ hc=>exact q c hc⟩
  .cases h
theorem Na(ι:Pl){x:Value}{v:AV}(h:cv x=some v):VR ι v x:=by
 unfold cv at h;split at h
 .rename_i cs
  cases hc:OE cs.toList with
  |none=>simp[hc]at h
  |some l=>
   simp[hc]at h;subst h;obtain⟨p,q⟩:=ME ι hc;exact .agg p q
 .exact O1 ι h
theorem bR{T:Te}{o:Operand}{k:AV->Bool}(h:eZ bn T o k=true):
  ∃v,k v=true∧(∀k':AV->Bool,eZ bn T o k'=k' v)∧∀ι a,TR ι T a->VR ι v (a.eval o):=by
 cases o with
 |tmp t=>
  simp only[eZ]at h|-
  cases hg:T.get t with
  |none=>simp[hg]at h
  |some v=>
   simp only[hg]at h;exact⟨v,h,λ k'=>rfl,λ ι a ht=>ht t v hg⟩
 |const c=>
  simp only[eZ]at h|-
  cases hg:cv c with
  |none=>simp[hg]at h
  |some v=>
   simp only[hg]at h;exact⟨v,h,λ k'=>rfl,λ ι a _=>Na ι hg⟩
 |func f=>exact⟨_,h,λ _=>rfl,λ ι a _=> .func f .nil .nil⟩
 |global g=>simp[eZ]at h
theorem ru{T:Te}:∀{l:List Operand}{k:List AV->Bool},qz bn T l k=true->
  ∃vs,k vs=true∧(∀k':List AV->Bool,qz bn T l k'=k' vs)∧∀ι a,TR ι T a->dV ι vs (l.map a.eval)
 |[],k,h=>⟨[],h,λ _=>rfl,λ _ _ _=> .nil⟩
 |o::l,k,h=>by
  simp only[qz]at h|-
  obtain⟨v,h1,e1,r1⟩:=bR h;obtain⟨vs,h2,e2,r2⟩:=ru h1;exact⟨v::vs,h2,λ k'=>by rw[e1,e2],λ ι a ht=> .cons (r1 ι a ht) (r2 ι a ht)⟩
theorem BH{T:Te}:∀{l:List (Nat×Operand)}{k:List (Nat×AV)->Bool},wO bn T l k=true->
  ∃vs,k vs=true∧(∀k':List (Nat×AV)->Bool,wO bn T l k'=k' vs)∧∀ι a,TR ι T a->vs.map (·.1)=l.map (·.1)∧dV ι (vs.map (·.2)) (l.map λ p=>a.eval p.2)
 |[],k,h=>⟨[],h,λ _=>rfl,λ _ _ _=>⟨rfl,.nil⟩⟩
 |(i,o)::l,k,h=>by
  simp only[wO]at h|-
  obtain⟨v,h1,e1,r1⟩:=bR h;obtain⟨vs,h2,e2,r2⟩:=BH h1;exact⟨(i,v)::vs,h2,λ k'=>by rw[e1,e2],λ ι a ht=>⟨by simp[(r2 ι a ht).1],.cons (r1 ι a ht) (r2 ι a ht).2⟩⟩
theorem xW{T:Te}{o:Option Operand}{k:Option AV->Bool}(h:wP bn T o k=true):
  ∃v,k v=true∧(∀k':Option AV->Bool,wP bn T o k'=k' v)∧∀ι a,TR ι T a->(o=none∧v=none)∨∃x y,o=some x∧v=some y∧VR ι y (a.eval x):=by
 cases o with
 |none=>exact⟨none,h,λ _=>rfl,λ _ _ _=> .inl ⟨rfl,rfl⟩⟩
 |some x=>
  simp only[wP]at h|-
  obtain⟨v,h1,e1,r1⟩:=bR h;exact⟨some v,h1,λ k'=>by rw[e1],λ ι a ht=> .inr ⟨x,v,rfl,rfl,r1 ι a ht⟩⟩
theorem iK{β:Type}:∀(l:List AV)(i:Nat)(t:Te),∃t':Te,(∀k:Te->Nat->β,o8 l i t k=k t' (i+l.length))∧
  ∀j,t'.get j=if i≤j∧j<i+l.length then l[j-i]? else t.get j
 |[],i,t=>⟨t,λ k=>rfl,λ j=>by simp;intro h;omega⟩
 |x::l,i,t=>by
  obtain⟨t',h1,h2⟩:=iK (β:=β) l (i+1) (t.put i (some x));refine⟨t',λ k=>?_,λ j=>?_⟩
  .show fT (t.put i (some x)) (λ t=>fJ (Nat.succ i) λ i=>o8 l i t k)=_
   rw[iU,dO];show o8 l (i+1) (t.put i (some x)) k=_;rw[h1];congr 1;simp;omega
  .rw[h2,Tr.get_put]
   by_cases hj:j=i
   .subst hj
    rw[if_neg (by omega),if_pos rfl,if_pos ⟨Nat.le_refl _,by simp⟩];simp
   .by_cases hc:i≤j∧j<i+(x::l).length
    .rw[if_pos hc,if_pos (by simp at hc|-;omega)]
     have:j-i=(j-(i+1))+1:=by omega
     rw[this];simp
    .rw[if_neg hc,if_neg (by simp at hc|-;omega),if_neg hj]
theorem mW(c:Te)(off:Nat):∀(s:Nat)(acc:List AV)(k:List AV->Bool),gather c off s false acc k=true->
  ∃l,k (l++acc)=true∧(∀k':List AV->Bool,gather c off s false acc k'=k' (l++acc))∧l.length=s∧∀i,i<s->∃v,l[i]? =some v∧c.get (off+i)=some v
 |0,acc,k,h=>⟨[],h,λ _=>rfl,rfl,λ i hi=>by omega⟩
 |s+1,acc,k,h=>by
  have e:∀k':List AV->Bool,gather c off (s+1) false acc k'=(match c.get (off+s)with|some v=>gather c off s false (v::acc) k'|none=>false):=λ _=>rfl;rw[e]at h;cases hg:c.get (off+s)with
  |none=>simp[hg]at h
  |some v=>
   simp only[hg]at h;obtain⟨l,h1,h2,h3,h4⟩:=mW c off s (v::acc) k h;refine⟨l++[v],by simpa using h1,λ k'=>by rw[e,hg];simp only[];rw[h2];simp,by simp[h3],λ i hi=>?_⟩;by_cases hi':i<s
   .obtain⟨u,hu1,hu2⟩:=h4 i hi'
    exact⟨u,by rw[List.getElem?_append_left (by omega)];exact hu1,hu2⟩
   .have:i=s:=by omega
    subst this;exact⟨v,by rw[List.getElem?_append_right (by omega),h3];simp,hg⟩
theorem fO{α:Type}(l:List α):fE l=l.length:=by
 have:∀(l:List α)(n:Nat),(List.rec (λ n=>n) (λ _ _ ih n=>fJ (Nat.succ n) ih) l n:Nat)=n+l.length:=by
  intro l;induction l with
  |nil=>intro n;rfl
  |cons x l ih=>
   intro n;show fJ (Nat.succ n) _=_;rw[dO,ih];simp;omega
 have h:=this l 0;simp at h;exact h
theorem lJ{α β:Type}:∀(l:List α)(k:List α->β),tF l k=k l
 |[],k=>rfl
 |x::l,k=>by
  show tF l (λ xs=>k (x::xs))=_;rw[lJ]
noncomputable def nQ(vs:List AV):Te:=Classical.choose (iK (β:=Bool) vs 0 .nil)
theorem rV(vs:List AV)(j:Nat):(nQ vs).get j=vs[j]? :=by
 have h:=(Classical.choose_spec (iK (β:=Bool) vs 0 .nil)).2 j;show(Classical.choose (iK (β:=Bool) vs 0 .nil)).get j=_;rw[h];by_cases hj:j<vs.length
 .rw[if_pos ⟨Nat.zero_le _,by omega⟩];simp
 .rw[if_neg (by omega),Tr.get_nil];simp;omega
theorem qW(el:Option TypeId)(vs:List AV)(sp:Bool)(id:Nat)(H:Hp)(k:Hp->Bool):vQ el vs sp id H k=k (H.put id (some (.cells el (nQ vs) vs.length sp false))):=by
 unfold vQ;rw[(Classical.choose_spec (iK (β:=Bool) vs 0 .nil)).1,iU];show k (H.put id (some (.cells el (nQ vs) (0+vs.length) sp false)))=_;rw[Nat.zero_add]
theorem iV(w:World)(o:Obj):(w.alloc o).heap[w.heap.size]? =some o:=by
 show(w.heap.push o)[w.heap.size]? =some o;simp
theorem qO(w:World)(o:Obj){κ:Nat}(h:κ<w.heap.size):(w.alloc o).heap[κ]? =w.heap[κ]? :=by
 show(w.heap.push o)[κ]? =_;rw[Array.getElem?_push,if_neg (by omega)]
theorem size_alloc(w:World)(o:Obj):(w.alloc o).heap.size=w.heap.size+1:=by
 show(w.heap.push o).size=_;simp
theorem CX{ι:Pl}{H:Hp}{w:World}{vs:List AV}{arr:Array Value}(h:dV ι vs arr.toList)(h1:∀c∈vs,c.one=true)(elem:TypeId){el:Option TypeId}(he:∀t,el=some t->elem=t):
  qo ι H (w.alloc (.cells arr elem)) (.cells el (nQ vs) vs.length false false) w.heap.size 0 arr.size:=by
 have hl:vs.length=arr.size:=by rw[h.length];simp
 refine⟨arr,elem,(0,0),iV _ _,rfl,by omega,by omega,λ i v hv=>?_,by simp,λ t h=>⟨he t h,rfl⟩⟩;rw[rV]at hv;obtain⟨x,hx,hr⟩:=h.get hv;refine⟨(List.getElem?_eq_some_iff.1 hv).1,h1 v (List.mem_of_getElem? hv),x,?_,hr⟩;simpa using hx
def Gives(P:Program)(o:Oper)(a:Act)(w:World)(x:Value)(w':World):Prop:=(execOp a.eval o).run P w= .ok (.value x) w'
def Jk(P:Program)(o:Oper)(T:Te)(v:AV):Prop:=∀ι a w,TR ι T a->∃x,Gives P o a w x w∧VR ι v x
def zX(P:Program)(o:Oper)(T:Te)(H:Hp)(v:AV):Prop:=∀ι a n w,Rel ι H n w->TR ι T a->∃x,Gives P o a w x w∧VR ι v x
def Rp(P:Program)(o:Oper)(T:Te)(id:Nat)(v:AV)(ob:Ob):Prop:=∀ι a w,TR ι T a->∃x obj C,Gives P o a w x (w.alloc obj)∧
 ∀aV H',ι.le aV->aV id=some (w.heap.size,0,C)->VR aV v x∧qo aV H' (w.alloc obj) ob w.heap.size 0 C
def QS(P:Program)(o:Oper)(T:Te)(H:Hp)(id:Nat)(k:AV->Hp->Bool):Prop:=
 ∃v,(k v H=true∧(Jk P o T v∨(lW o=true∧zX P o T H v)))∨(lW o=false∧allocs o=true∧∃ob,k v (H.put id (some ob))=true∧Rp P o T id v ob)
section
variable {P:Program} {T:Te} {H:Hp} {id:Nat} {k:AV->Hp->Bool}
variable {dst:Option Tmp} {ty:TypeId} {pos:String} {after:Array Edge} {guard:Option (Nat×Bool)}
theorem gM{o:Oper}{v:AV}(hk:k v H=true)(h:Jk P o T v):QS P o T H id k:=⟨v,.inl ⟨hk,.inl h⟩⟩
theorem ze{o:Oper}{v:AV}(hk:k v H=true)(hr:lW o=true)(h:zX P o T H v):QS P o T H id k:=⟨v,.inl ⟨hk,.inr ⟨hr,h⟩⟩⟩
theorem zq{o:Oper}{v:AV}{ob:Ob}(hk:k v (H.put id (some ob))=true)(h:Rp P o T id v ob)(hr:lW o=false:=by rfl)(ha:allocs o=true:=by rfl):QS P o T H id k:=⟨v,.inr ⟨hr,ha,ob,hk,h⟩⟩
theorem Vq{x:Operand}(h:eZ bn T x (λ v=>k v H)=true):QS P ⟨dst,.move x,ty,pos,after,guard⟩ T H id k:=by
 obtain⟨v,h1,_,r⟩:=bR h;exact gM h1 λ ι a w ht=>⟨_,rfl,r ι a ht⟩
theorem Rn{x:Operand}(h:eZ bn T x (λ v=>k v H)=true):QS P ⟨dst,.assign x,ty,pos,after,guard⟩ T H id k:=by
 obtain⟨v,h1,_,r⟩:=bR h;exact gM h1 λ ι a w ht=>⟨_,rfl,r ι a ht⟩
theorem Vr{c x y:Operand}(h:cu P bn ⟨dst,.pick c x y,ty,pos,after,guard⟩ T H id k=true):QS P ⟨dst,.pick c x y,ty,pos,after,guard⟩ T H id k:=by
 simp only[cu]at h;obtain⟨v,h1,_,r⟩:=bR h;split at h1
 .obtain⟨u,h2,_,r2⟩:=bR h1
  refine gM h2 λ ι a w ht=>?_;have hr:=r ι a ht;refine⟨_,?_,r2 ι a ht⟩;generalize hx:a.eval c=x at hr;cases hr;simp[Gives,execOp,hx,asBool]
 .obtain⟨u,h2,_,r2⟩:=bR h1
  refine gM h2 λ ι a w ht=>?_;have hr:=r ι a ht;refine⟨_,?_,r2 ι a ht⟩;generalize hx:a.eval c=x at hr;cases hr;simp[Gives,execOp,hx,asBool]
 .cases h1
end
end Go.cK
end
section
namespace Go.cK
inductive Pa where
 |z
 |l (p:Pa)
 |r (p:Pa)
noncomputable def BA(n:Nat):Nat->Pa:=
 Nat.rec (λ _=> .z) (λ _ ih k=>Nat.rec .z (λ k' _=>Nat.rec (.r (ih (Nat.div (Nat.succ k') 2))) (λ _ _=> .l (ih (Nat.div (Nat.succ k') 2))) (Nat.mod (Nat.succ k') 2)) k) n
noncomputable def pa(k:Nat):Pa:=BA (Nat.succ k) k
section
variable {α:Type}
noncomputable def uE(p:Pa):Tr α->(α->Bool)->Bool:=
 Pa.rec (λ t k=>Tr.rec false (λ v _ _ _ _=>Option.rec false k v) t) (λ _ ih t k=>Tr.rec false (λ _ l _ _ _=>ih l k) t) (λ _ ih t k=>Tr.rec false (λ _ _ r _ _=>ih r k) t) p
noncomputable def nR(x:Option α)(p:Pa):Tr α->(Tr α->Bool)->Bool:=
 Pa.rec (λ t k=>Tr.rec (k (.node x .nil .nil)) (λ _ l r _ _=>k (.node x l r)) t)
  (λ _ ih t k=>Tr.rec (ih .nil λ s=>k (.node none s .nil)) (λ v l r _ _=>ih l λ s=>k (.node v s r)) t)
  (λ _ ih t k=>Tr.rec (ih .nil λ s=>k (.node none .nil s)) (λ v l r _ _=>ih r λ s=>k (.node v l s)) t) p
theorem Gw(κ:α->Bool):∀(n k:Nat)(t:Tr α),k<n->uE (BA n k) t κ=match t.get k with|some v=>κ v|none=>false
 |0,k,t,h=>by omega
 |n+1,0,t,h=>by cases t with|nil=>rfl|node v l r=>cases v<;>rfl
 |n+1,k+1,t,h=>by
  have e:BA (n+1) (k+1)=Nat.rec (motive:=λ _=>Pa) (.r (BA n ((k+1)/2))) (λ _ _=> .l (BA n ((k+1)/2))) ((k+1)% 2):=rfl;rw[e];cases t with
  |nil=>
   rw[Tr.get_nil];rcases Nat.mod_two_eq_zero_or_one (k+1)with h2|h2<;>rw[h2]<;>rfl
  |node v l r=>
   rw[Tr.wJ,if_neg (by omega)];rcases Nat.mod_two_eq_zero_or_one (k+1)with h2|h2<;>rw[h2]
   .rw[if_pos rfl,<-Gw κ n _ r (by omega)];rfl
   .rw[if_neg (by omega),<-Gw κ n _ l (by omega)];rfl
theorem wV(κ:α->Bool)(k:Nat)(t:Tr α):uE (pa k) t κ=match t.get k with|some v=>κ v|none=>false:=Gw κ _ k t (Nat.lt_succ_self k)
theorem Gx(x:Option α)(κ:Tr α->Bool):∀(n k:Nat)(t:Tr α),k<n->nR x (BA n k) t κ=κ (vw x n t k)
 |0,k,t,h=>by omega
 |n+1,0,t,h=>by cases t<;>rfl
 |n+1,k+1,t,h=>by
  have e:BA (n+1) (k+1)=Nat.rec (motive:=λ _=>Pa) (.r (BA n ((k+1)/2))) (λ _ _=> .l (BA n ((k+1)/2))) ((k+1)% 2):=rfl;rw[e,Hq]
  have key:∀v l r,(match(⟨v,l,r⟩:Option α×Tr α×Tr α)with|(v,l,r)=>if(k+1)% 2=0 then nR x (BA n ((k+1)/2)) r (λ s=>κ (.node v l s))else nR x (BA n ((k+1)/2)) l λ s=>κ (.node v s r))=
    κ (if k+1=0 then Tr.node x l r else if(k+1)% 2=0 then .node v l (vw x n r ((k+1)/2))else .node v (vw x n l ((k+1)/2)) r):=by
   intro v l r;simp only;rw[if_neg (show¬k+1=0 by omega)];by_cases h2:(k+1)% 2=0
   .rw[if_pos h2,if_pos h2,Gx x _ n _ _ (by omega)]
   .rw[if_neg h2,if_neg h2,Gx x _ n _ _ (by omega)]
  cases t with
  |nil=>
   refine Eq.trans ?_ (key none .nil .nil);rcases Nat.mod_two_eq_zero_or_one (k+1)with h2|h2<;>simp only[h2]<;>rfl
  |node v l r=>
   refine Eq.trans ?_ (key v l r);rcases Nat.mod_two_eq_zero_or_one (k+1)with h2|h2<;>simp only[h2]<;>rfl
theorem pz(x:Option α)(κ:Tr α->Bool)(k:Nat)(t:Tr α):nR x (pa k) t κ=κ (t.put k x):=Gx x κ _ k t (Nat.lt_succ_self k)
noncomputable def JU(l:List α):Nat->(α->Bool)->Bool:=
 List.rec (λ _ _=>false) (λ x _ ih i κ=>Nat.rec (κ x) (λ i' _=>ih i' κ) i) l
theorem zl(κ:α->Bool):∀(l:List α)(i:Nat),JU l i κ=match l[i]? with|some v=>κ v|none=>false
 |[],i=>by simp[JU]
 |x::l,0=>rfl
 |x::l,i+1=>by
  rw[List.getElem?_cons_succ,<-zl κ l i];rfl
noncomputable def Tp(n:Nat):List α->(List α->Bool)->Bool:=
 Nat.rec (λ l κ=>κ l) (λ _ ih l κ=>List.rec (κ []) (λ _ l _=>ih l κ) l) n
theorem JV(κ:List α->Bool):∀(n:Nat)(l:List α),Tp n l κ=κ (l.drop n)
 |0,l=>by cases l<;>rfl
 |n+1,[]=>rfl
 |n+1,x::l=>JV κ n l
noncomputable def Tq(n:Nat):List α->(List α->Bool)->Bool:=
 Nat.rec (λ _ κ=>κ []) (λ _ ih l κ=>List.rec (κ []) (λ x l _=>ih l λ r=>κ (x::r)) l) n
theorem JW(κ:List α->Bool):∀(n:Nat)(l:List α),Tq n l κ=κ (l.take n)
 |0,l=>by cases l<;>rfl
 |n+1,[]=>rfl
 |n+1,x::l=>JW (λ r=>κ (x::r)) n l
noncomputable def vN(n:Nat)(k:Nat->Bool):Bool:=Nat.rec (k 0) (λ m _=>k (Nat.succ m)) n
end
noncomputable def yh(a:AV)(k:Nat->Nat->Bool):Bool:=match a with| .ptr b o=>k b o|_=>false
noncomputable def CU(o:Ob)(k:Tr AV->Bool):Bool:=match o with| .cells _ c _ _ _=>k c|_=>false
noncomputable def Ml(i:IntKind):Nat:=IntKind.rec 0 1 2 3 4 5 6 7 i
theorem Vu(a b:IntKind):Nat.beq (Ml a) (Ml b)=decide (a=b):=by cases a<;>cases b<;>rfl
end Go.cK
end
section
namespace Go.cK
section
variable {P:Program} {T:Te} {H:Hp} {id:Nat} {k:AV->Hp->Bool}
variable {dst:Option Tmp} {ty:TypeId} {pos:String} {after:Array Edge} {guard:Option (Nat×Bool)}
theorem jo{t:TypeId}{s:Nat}(h:fD P t=some s)(w:World):(sizeOf t).run P w= .ok s w:=by
 unfold fD at h;cases hi:P.info? t with
 |none=>simp[hi]at h
 |some i=>simp[hi]at h;simp[sizeOf,typeInfo,hi,h]
theorem za{t:TypeId}{b:Bool}(h:iE P t=some b)(w:World):(isAgg t).run P w= .ok b w:=by
 unfold iE at h;cases hu:P.underlying t with
 |none=>simp[hu]at h
 |some d=>
  simp[hu]at h;subst h;cases d<;>simp[isAgg,run_underlying hu]
theorem wM{t:TypeId}{z:AV}(h:ni P t=some z):∃x,(∀w,(zeroValue t).run P w= .ok x w)∧∀ι,VR ι z x:=by
 unfold ni at h;cases hi:P.info? t with
 |none=>simp[hi]at h
 |some i=>
  simp[hi]at h;cases hz:i.zero with
  |none=>simp[hz]at h
  |some x=>
   simp[hz]at h;exact⟨x,λ w=>by simp[zeroValue,typeInfo,hi,hz],λ ι=>Na ι h⟩
theorem O4{t:TypeId}{s:Nat}(h:tC P t=some s)(w:World):∃i,(typeInfo t).run P w= .ok i w∧i.bytes=s:=by
 unfold tC at h;cases hi:P.info? t with
 |none=>simp[hi]at h
 |some i=>simp[hi]at h;exact⟨i,by simp[typeInfo,hi],h⟩
theorem addr_add(κ o j:Nat):(⟨κ,o,none⟩:Addr).add j=⟨κ,o+j,none⟩:=by
 unfold Addr.add;split
 .rename_i h;subst h;rfl
 .rfl
theorem cell_of{w:World}{κ o:Nat}{arr:Array Value}{elem:TypeId}{fr:Nat×Nat}{x:Value}(h:w.heap[κ]? =some (.cells arr elem fr))(hx:arr[o]? =some x):
 w.cell? ⟨κ,o,none⟩=some x:=by simp[World.cell?,h,hx]
theorem LB{w:World}{a:Addr}{x:Value}(h:w.cell? a=some x):(load a).run P w= .ok x w:=by simp[h]
theorem Dw{t:TypeId}{a:AV}{kk:AV->Bool}(h:o9 P bn t a H kk=true):
  ∃v,kk v=true∧∀ι n w x,Rel ι H n w->VR ι a x->∃y,(Instr.loadAt t x).run P w= .ok y w∧VR ι v y:=by
 unfold o9 at h;split at h
 .rename_i b off
  split at h
  .rename_i el c nn sp fz hb
   split at h
   .rename_i hagg
    split at h
    .rename_i s hs
     obtain⟨l,h1,h2,h3,h4⟩:=mW _ _ _ _ _ h;rw[List.append_nil]at h1;refine⟨_,h1,λ ι n w x hr hx=>?_⟩;cases hx with
     |ptr off z=>
      rename_i κ δ C;obtain⟨arr,elem,fr,g1,g2,g3,g4,g5,g6,g7⟩:=hr.ob b _ _ _ _ hb z;have key:∀i,i<s->∃v y,l[i]? =some v∧v.one=true∧arr[δ+off+i]? =some y∧VR ι v y:=λ i hi=>by
       obtain⟨v,hv1,hv2⟩:=h4 i hi;obtain⟨_,ho,y,hy1,hy2⟩:=g5 _ _ hv2;exact⟨v,y,hv1,ho,by rw[Nat.add_assoc];exact hy1,hy2⟩
      refine⟨.agg ((List.range s).map λ i=>(arr[δ+off+i]?).getD undef).toArray,?_,.agg (dV.zh (by simp[h3]) λ i v y hv hy=>?_) λ v hv=>?_⟩
      .simp only[Instr.loadAt,Instr.sureAddr,Sem.run_bind,Sem.run_pure,Result.andThen_ok,loadVar,za hagg,if_true,jo hs]
       rw[run_loadCells w _ s (λ i=>(arr[δ+off+i]?).getD undef) λ j hj=>?_]
       .rfl
       .obtain⟨v,y,_,_,hy,_⟩:=key j hj
        rw[addr_add];rw[cell_of g1 hy,hy];rfl
      .have hi:i<s:=by rw[<-h3];exact(List.getElem?_eq_some_iff.1 hv).1
       obtain⟨v',y',hv',_,hy',hr'⟩:=key i hi;rw[hv']at hv;cases hv;simp[hi]at hy;subst hy;rw[hy'];exact hr'
      .obtain⟨i,hi,rfl⟩:=List.mem_iff_getElem.1 hv
       obtain⟨v',y',hv',ho,_⟩:=key i (by rw[<-h3];exact hi);rw[List.getElem?_eq_getElem hi]at hv';cases hv';exact ho
    .cases h
   .rename_i hagg
    split at h
    .rename_i v hv
     refine⟨_,h,λ ι n w x hr hx=>?_⟩;cases hx with
     |ptr off z=>
      rename_i κ δ C;obtain⟨arr,elem,fr,g1,g2,g3,g4,g5,g6,g7⟩:=hr.ob b _ _ _ _ hb z;obtain⟨_,ho,y,hy1,hy2⟩:=g5 _ _ hv;refine⟨y,?_,hy2⟩;simp only[Instr.loadAt,Instr.sureAddr,Sem.run_bind,Sem.run_pure,Result.andThen_ok,loadVar,za hagg,Bool.false_eq_true,if_false];exact LB (cell_of g1 hy1)
    .cases h
   .cases h
  .cases h
 .cases h
theorem Vs{t:TypeId}{a:Operand}(h:cu P bn ⟨dst,.load t a,ty,pos,after,guard⟩ T H id k=true):QS P ⟨dst,.load t a,ty,pos,after,guard⟩ T H id k:=by
 simp only[cu]at h;obtain⟨p,h1,_,r⟩:=bR h;obtain⟨v,h2,r2⟩:=Dw h1;refine ze h2 rfl λ ι ac n w hr ht=>?_;obtain⟨y,hy,hv⟩:=r2 ι n w _ hr (r ι ac ht);exact⟨y,by simp[Gives,execOp,hy],hv⟩
theorem M6{x:Operand}(h:cu P bn ⟨dst,.nilCheck x,ty,pos,after,guard⟩ T H id k=true):QS P ⟨dst,.nilCheck x,ty,pos,after,guard⟩ T H id k:=by
 simp only[cu]at h;obtain⟨p,h1,_,r⟩:=bR h;split at h1;all_goals first
  |(refine gM h1 λ ι a w ht=>?_
    have hr:=r ι a ht;refine⟨_,?_,hr⟩;generalize hx:a.eval x=y at hr;cases hr<;>simp[Gives,execOp,hx])
  |cases h1
theorem Ud{t:TypeId}(h:cu P bn ⟨dst,.alloc t,ty,pos,after,guard⟩ T H id k=true):QS P ⟨dst,.alloc t,ty,pos,after,guard⟩ T H id k:=by
 simp only[cu,Gt]at h;split at h
 .rename_i z hz
  cases hn:z.fB with
  |false=>simp[hn]at h
  |true=>
   simp only[hn,cond_true,qW]at h;obtain⟨x,hx,hv⟩:=wM hz;refine zq h λ ι a w _=>⟨.pointer (some ⟨w.heap.size,0,none⟩),.cells x.cells t,x.cells.size,?_,λ aV H' hl hi=>⟨.ptr 0 hi,?_⟩⟩
   .simp[Gives,execOp,Instr.alloc,hx,newVar,newRow]
   .have hc:=(hv aV).cells
    exact CX hc ((hv aV).o7 hn) t λ _ h=>Option.some.inj h
 .cases h
theorem X3{t:TypeId}{x:Operand}(h:cu P bn ⟨dst,.box t x,ty,pos,after,guard⟩ T H id k=true):QS P ⟨dst,.box t x,ty,pos,after,guard⟩ T H id k:=by
 simp only[cu]at h;obtain⟨z,h1,_,r⟩:=bR h;simp only[Jj]at h1;cases hn:z.fB with
 |false=>simp[hn]at h1
 |true=>
  simp only[hn,cond_true,qW]at h1;refine zq h1 λ ι a w ht=>⟨.pointer (some ⟨w.heap.size,0,none⟩),.cells (a.eval x).cells t,(a.eval x).cells.size,?_,λ aV H' hl hi=>⟨.ptr 0 hi,?_⟩⟩
  .simp[Gives,execOp,Instr.box,newVar,newRow]
  .have hc:=((r ι a ht).mono hl)
   exact CX hc.cells (hc.o7 hn) t λ _ h=>(by cases h)
end
end Go.cK
end
section
namespace Go.cK
structure N8(α:Type)where
 mk::
 a0:α
 a1:α
 a2:α
 a3:α
 a4:α
 a5:α
 a6:α
 a7:α
structure FA(α:Type)where
 run:N8 α->(α->Bool)->Bool
structure FU(α:Type)where
 run:N8 α->α->(N8 α->Bool)->Bool
structure FM(α:Type)where
 run:N8 α->(α->(α->Bool)->Bool)->(N8 α->Bool)->Bool
section
variable {α:Type}
def N8.at(e:N8 α):Nat->α
 |0=>e.a0|1=>e.a1|2=>e.a2|3=>e.a3|4=>e.a4|5=>e.a5|6=>e.a6|_=>e.a7
def N8.set(e:N8 α)(i:Nat)(x:α):N8 α:=
 match i with
 |0=>⟨x,e.a1,e.a2,e.a3,e.a4,e.a5,e.a6,e.a7⟩
 |1=>⟨e.a0,x,e.a2,e.a3,e.a4,e.a5,e.a6,e.a7⟩
 |2=>⟨e.a0,e.a1,x,e.a3,e.a4,e.a5,e.a6,e.a7⟩
 |3=>⟨e.a0,e.a1,e.a2,x,e.a4,e.a5,e.a6,e.a7⟩
 |4=>⟨e.a0,e.a1,e.a2,e.a3,x,e.a5,e.a6,e.a7⟩
 |5=>⟨e.a0,e.a1,e.a2,e.a3,e.a4,x,e.a6,e.a7⟩
 |6=>⟨e.a0,e.a1,e.a2,e.a3,e.a4,e.a5,x,e.a7⟩
 |_=>⟨e.a0,e.a1,e.a2,e.a3,e.a4,e.a5,e.a6,x⟩
noncomputable def acc(i:Nat):FA α:=
 match i with
 |0=>⟨λ e k=>N8.rec (λ a0 _ _ _ _ _ _ _=>k a0) e⟩
 |1=>⟨λ e k=>N8.rec (λ _ a1 _ _ _ _ _ _=>k a1) e⟩
 |2=>⟨λ e k=>N8.rec (λ _ _ a2 _ _ _ _ _=>k a2) e⟩
 |3=>⟨λ e k=>N8.rec (λ _ _ _ a3 _ _ _ _=>k a3) e⟩
 |4=>⟨λ e k=>N8.rec (λ _ _ _ _ a4 _ _ _=>k a4) e⟩
 |5=>⟨λ e k=>N8.rec (λ _ _ _ _ _ a5 _ _=>k a5) e⟩
 |6=>⟨λ e k=>N8.rec (λ _ _ _ _ _ _ a6 _=>k a6) e⟩
 |_=>⟨λ e k=>N8.rec (λ _ _ _ _ _ _ _ a7=>k a7) e⟩
noncomputable def upd(i:Nat):FU α:=
 match i with
 |0=>⟨λ e x k=>N8.rec (λ _ a1 a2 a3 a4 a5 a6 a7=>k ⟨x,a1,a2,a3,a4,a5,a6,a7⟩) e⟩
 |1=>⟨λ e x k=>N8.rec (λ a0 _ a2 a3 a4 a5 a6 a7=>k ⟨a0,x,a2,a3,a4,a5,a6,a7⟩) e⟩
 |2=>⟨λ e x k=>N8.rec (λ a0 a1 _ a3 a4 a5 a6 a7=>k ⟨a0,a1,x,a3,a4,a5,a6,a7⟩) e⟩
 |3=>⟨λ e x k=>N8.rec (λ a0 a1 a2 _ a4 a5 a6 a7=>k ⟨a0,a1,a2,x,a4,a5,a6,a7⟩) e⟩
 |4=>⟨λ e x k=>N8.rec (λ a0 a1 a2 a3 _ a5 a6 a7=>k ⟨a0,a1,a2,a3,x,a5,a6,a7⟩) e⟩
 |5=>⟨λ e x k=>N8.rec (λ a0 a1 a2 a3 a4 _ a6 a7=>k ⟨a0,a1,a2,a3,a4,x,a6,a7⟩) e⟩
 |6=>⟨λ e x k=>N8.rec (λ a0 a1 a2 a3 a4 a5 _ a7=>k ⟨a0,a1,a2,a3,a4,a5,x,a7⟩) e⟩
 |_=>⟨λ e x k=>N8.rec (λ a0 a1 a2 a3 a4 a5 a6 _=>k ⟨a0,a1,a2,a3,a4,a5,a6,x⟩) e⟩
noncomputable def YH(i:Nat):FM α:=
 match i with
 |0=>⟨λ e f k=>N8.rec (λ a0 a1 a2 a3 a4 a5 a6 a7=>f a0 λ x=>k ⟨x,a1,a2,a3,a4,a5,a6,a7⟩) e⟩
 |1=>⟨λ e f k=>N8.rec (λ a0 a1 a2 a3 a4 a5 a6 a7=>f a1 λ x=>k ⟨a0,x,a2,a3,a4,a5,a6,a7⟩) e⟩
 |2=>⟨λ e f k=>N8.rec (λ a0 a1 a2 a3 a4 a5 a6 a7=>f a2 λ x=>k ⟨a0,a1,x,a3,a4,a5,a6,a7⟩) e⟩
 |3=>⟨λ e f k=>N8.rec (λ a0 a1 a2 a3 a4 a5 a6 a7=>f a3 λ x=>k ⟨a0,a1,a2,x,a4,a5,a6,a7⟩) e⟩
 |4=>⟨λ e f k=>N8.rec (λ a0 a1 a2 a3 a4 a5 a6 a7=>f a4 λ x=>k ⟨a0,a1,a2,a3,x,a5,a6,a7⟩) e⟩
 |5=>⟨λ e f k=>N8.rec (λ a0 a1 a2 a3 a4 a5 a6 a7=>f a5 λ x=>k ⟨a0,a1,a2,a3,a4,x,a6,a7⟩) e⟩
 |6=>⟨λ e f k=>N8.rec (λ a0 a1 a2 a3 a4 a5 a6 a7=>f a6 λ x=>k ⟨a0,a1,a2,a3,a4,a5,x,a7⟩) e⟩
 |_=>⟨λ e f k=>N8.rec (λ a0 a1 a2 a3 a4 a5 a6 a7=>f a7 λ x=>k ⟨a0,a1,a2,a3,a4,a5,a6,x⟩) e⟩
theorem JX{i:Nat}(h:i<8):i=0∨i=1∨i=2∨i=3∨i=4∨i=5∨i=6∨i=7:=by omega
theorem OM{i:Nat}(h:i<8)(e:N8 α)(k:α->Bool):(acc i).run e k=k (e.at i):=by
 obtain⟨a0,a1,a2,a3,a4,a5,a6,a7⟩:=e;rcases JX h with rfl|rfl|rfl|rfl|rfl|rfl|rfl|rfl<;>rfl
theorem Vv{i:Nat}(h:i<8)(e:N8 α)(x:α)(k:N8 α->Bool):(upd i).run e x k=k (e.set i x):=by
 obtain⟨a0,a1,a2,a3,a4,a5,a6,a7⟩:=e;rcases JX h with rfl|rfl|rfl|rfl|rfl|rfl|rfl|rfl<;>rfl
theorem Vw{i:Nat}(h:i<8)(e:N8 α)(f:α->(α->Bool)->Bool)(k:N8 α->Bool):(YH i).run e f k=f (e.at i) λ x=>k (e.set i x):=by
 obtain⟨a0,a1,a2,a3,a4,a5,a6,a7⟩:=e;rcases JX h with rfl|rfl|rfl|rfl|rfl|rfl|rfl|rfl<;>rfl
theorem at_set{i j:Nat}(hi:i<8)(hj:j<8)(e:N8 α)(x:α):(e.set i x).at j=if j=i then x else e.at j:=by
 obtain⟨a0,a1,a2,a3,a4,a5,a6,a7⟩:=e;rcases JX hi with rfl|rfl|rfl|rfl|rfl|rfl|rfl|rfl<;>rcases JX hj with rfl|rfl|rfl|rfl|rfl|rfl|rfl|rfl<;>rfl
end
def E:Nat->Type
 |0=>N8 AV
 |d+1=>N8 (E d)
structure FG(d:Nat)where
 run:E d->(AV->Bool)->Bool
structure FP(d:Nat)where
 run:E d->AV->(E d->Bool)->Bool
def lq:(d:Nat)->E d->Nat->AV
 |0,e,t=>N8.at e (t% 8)
 |d+1,e,t=>lq d (N8.at (α:=E d) e (t/8^(d+1)% 8)) t
noncomputable def Ac:(d:Nat)->Nat->FG d
 |0,t=>⟨λ e k=>(acc (α:=AV) (t% 8)).run e k⟩
 |d+1,t=>⟨λ e k=>(acc (α:=E d) (t/8^(d+1)% 8)).run e λ e=>(Ac d t).run e k⟩
noncomputable def yS:(d:Nat)->Nat->FP d
 |0,t=>⟨λ e v k=>(upd (α:=AV) (t% 8)).run e v k⟩
 |d+1,t=>⟨λ e v k=>(YH (α:=E d) (t/8^(d+1)% 8)).run e (λ e k=>(yS d t).run e v k) k⟩
def su:(d:Nat)->E d
 |0=>(⟨.tuple [],.tuple [],.tuple [],.tuple [],.tuple [],.tuple [],.tuple [],.tuple []⟩:N8 AV)
 |d+1=>(⟨su d,su d,su d,su d,su d,su d,su d,su d⟩:N8 (E d))
theorem tL:∀(d t:Nat)(e:E d)(k:AV->Bool),(Ac d t).run e k=k (lq d e t)
 |0,t,e,k=>OM (α:=AV) (Nat.mod_lt _ (by decide)) e k
 |d+1,t,e,k=>by
  have h:=OM (α:=E d) (Nat.mod_lt (t/8^(d+1)) (by decide:0<8)) e λ e=>(Ac d t).run e k;exact h.trans (tL d t _ k)
theorem Gy:∀(d t:Nat)(e:E d)(v:AV),t<8^(d+1)->∃e',(∀k,(yS d t).run e v k=k e')∧∀t',t'<8^(d+1)->lq d e' t'=if t'=t then v else lq d e t'
 |0,t,e,v,h=>⟨N8.set (α:=AV) e (t% 8) v,λ k=>Vv (α:=AV) (Nat.mod_lt _ (by decide)) e v k,λ t' h'=>by
  have h:=at_set (α:=AV) (Nat.mod_lt t (by decide:0<8)) (Nat.mod_lt t' (by decide:0<8)) e v;refine h.trans ?_;have e1:t% 8=t:=Nat.mod_eq_of_lt (by simpa using‹t<8^(0+1)›);have e2:t'% 8=t':=Nat.mod_eq_of_lt (by simpa using h');rw[e1,e2];unfold lq;rw[e2]⟩
 |d+1,t,e,v,h=>by
  have key:∀s,∃e1,(∀k,(yS d t).run s v k=k e1)∧∀t',t'% 8^(d+1)<8^(d+1)->lq d e1 t'=if t'% 8^(d+1)=t% 8^(d+1)then v else lq d s t':=λ s=>by
   have hm:∀(d t:Nat)(e:E d),lq d e (t% 8^(d+1))=lq d e t:=by
    intro d;induction d with
    |zero=>intro t e;unfold lq;congr 1;simp
    |succ d ih=>
     intro t e;unfold lq;rw[<-ih (t% 8^(d+1+1)),<-ih t];have e1:t% 8^(d+1+1)% 8^(d+1)=t% 8^(d+1):=by
      rw[Nat.pow_succ 8 (d+1)];exact Nat.mod_mul_right_mod _ _ _
     have e2:t% 8^(d+1+1)/8^(d+1)% 8=t/8^(d+1)% 8:=by
      rw[Nat.pow_succ 8 (d+1),Nat.mod_mul_right_div_self];exact Nat.mod_mod _ _
     rw[e1,e2]
   have hp:∀(d t:Nat),yS d (t% 8^(d+1))=yS d t:=by
    intro d;induction d with
    |zero=>intro t;unfold yS;simp
    |succ d ih=>
     intro t;unfold yS;rw[<-ih (t% 8^(d+1+1)),<-ih t];have e1:t% 8^(d+1+1)% 8^(d+1)=t% 8^(d+1):=by
      rw[Nat.pow_succ 8 (d+1)];exact Nat.mod_mul_right_mod _ _ _
     have e2:t% 8^(d+1+1)/8^(d+1)% 8=t/8^(d+1)% 8:=by
      rw[Nat.pow_succ 8 (d+1),Nat.mod_mul_right_div_self];exact Nat.mod_mod _ _
     rw[e1,e2]
   have hpos:0<8^(d+1):=Nat.pow_pos (by decide);obtain⟨e1,p,q⟩:=Gy d (t% 8^(d+1)) s v (Nat.mod_lt _ hpos);rw[hp]at p;refine⟨e1,p,λ t' ht'=>?_⟩;rw[<-hm d t' e1,q _ ht',hm]
  obtain⟨e1,p,q⟩:=key (N8.at (α:=E d) e (t/8^(d+1)% 8));refine⟨N8.set (α:=E d) e (t/8^(d+1)% 8) e1,λ k=>?_,λ t' h'=>?_⟩
  .exact(Vw (α:=E d) (Nat.mod_lt _ (by decide)) e _ k).trans (p _)
  .have hpos:0<8^(d+1):=Nat.pow_pos (by decide)
   have hd:t/8^(d+1)<8:=by rw[Nat.div_lt_iff_lt_mul hpos,Nat.mul_comm,<-Nat.pow_succ];exact h
   have hd':t'/8^(d+1)<8:=by rw[Nat.div_lt_iff_lt_mul hpos,Nat.mul_comm,<-Nat.pow_succ];exact h'
   have hs:=at_set (α:=E d) (Nat.mod_lt (t/8^(d+1)) (by decide:0<8)) (Nat.mod_lt (t'/8^(d+1)) (by decide:0<8)) e e1;show lq d (N8.at (α:=E d) (N8.set (α:=E d) e (t/8^(d+1)% 8) e1) (t'/8^(d+1)% 8)) t'=_;rw[hs,Nat.mod_eq_of_lt hd,Nat.mod_eq_of_lt hd'];by_cases hq:t'/8^(d+1)=t/8^(d+1)
   .rw[if_pos hq,q t' (Nat.mod_lt _ hpos)]
    by_cases hr:t'% 8^(d+1)=t% 8^(d+1)
    .have:t'=t:=by rw[<-Nat.div_add_mod t' (8^(d+1)),<-Nat.div_add_mod t (8^(d+1)),hq,hr]
     rw[if_pos hr,if_pos this]
    .rw[if_neg hr,if_neg λ e=>hr (by rw[e])]
     show _=lq d (N8.at (α:=E d) e (t'/8^(d+1)% 8)) t';rw[hq,]
   .rw[if_neg hq,if_neg λ e=>hq (by rw[e])]
    show _=lq d (N8.at (α:=E d) e (t'/8^(d+1)% 8)) t';rw[Nat.mod_eq_of_lt hd']
theorem Mq:∀(d t:Nat),lq d (su d) t= .tuple []
 |0,t=>by
  show N8.at (α:=AV) _ _=_;rcases JX (Nat.mod_lt t (by decide:0<8))with h|h|h|h|h|h|h|h<;>rw[h]<;>rfl
 |d+1,t=>by
  show lq d (N8.at (α:=E d) _ _) t=_;have:∀i,i<8->N8.at (α:=E d) (su (d+1)) i=su d:=λ i hi=>by
   rcases JX hi with rfl|rfl|rfl|rfl|rfl|rfl|rfl|rfl<;>rfl
  rw[this _ (Nat.mod_lt _ (by decide))];exact Mq d t
def RE(d:Nat)(e:E d)(T:Te):Prop:=∀t,T.get t=if t<8^(d+1)then some (lq d e t)else none
end Go.cK
end
namespace Go.cK
theorem pW:∀(cs:List AV)(o:Nat)(vs:List AV),(lay cs o vs).length=cs.length
 |[],_,_=>rfl
 |_::_,0,[]=>rfl
 |_::cs,0,_::vs=>by simp[lay,pW cs 0 vs]
 |_::cs,o+1,vs=>by simp[lay,pW cs o vs]
theorem CY:∀(cs:List AV)(o:Nat)(vs:List AV)(i:Nat),i<cs.length->(lay cs o vs)[i]? =if o≤i∧i<o+vs.length then vs[i-o]? else cs[i]?
 |[],_,_,i,h=>by simp at h
 |c::cs,0,[],i,h=>by simp[lay]
 |c::cs,0,v::vs,0,h=>by simp[lay]
 |c::cs,0,v::vs,i+1,h=>by
  have:=CY cs 0 vs i (by simpa using h);simp[lay,this]
 |c::cs,o+1,vs,0,h=>by simp[lay]
 |c::cs,o+1,vs,i+1,h=>by
  have:=CY cs o vs i (by simpa using h);simp[lay,this];congr 1;rw[show(o+1+vs.length)=(o+vs.length)+1 from by omega];simp
theorem zu:∀(l:List (Value×Nat))(off:Nat)(cs:Array Value),(l.foldl (λ cs (c,j)=>cs.setIfInBounds (off+j) c) cs).size=cs.size
 |[],_,_=>rfl
 |x::l,off,cs=>by simp[zu l off]
theorem AZ(off:Nat):∀(l:List Value)(s:Nat)(cs:Array Value)(i:Nat),off+s+l.length≤cs.size->
  ((l.zipIdx s).foldl (λ cs (c,j)=>cs.setIfInBounds (off+j) c) cs)[i]? =if off+s≤i∧i<off+s+l.length then l[i-(off+s)]? else cs[i]?
 |[],s,cs,i,h=>by simp;intro h1 h2;omega
 |x::l,s,cs,i,h=>by
  simp only[List.zipIdx_cons,List.foldl_cons];rw[AZ off l (s+1) _ i (by simp at h|-;omega)];by_cases hi:i=off+s
  .subst hi
   have hlt:off+s<cs.size:=by simp at h;omega
   rw[if_neg (by omega),if_pos (by simp)];simp[hlt]
  .by_cases hc:off+(s+1)≤i∧i<off+(s+1)+l.length
   .rw[if_pos hc,if_pos (by simp;omega)]
    have:i-(off+s)=(i-(off+(s+1)))+1:=by omega
    rw[this];simp
   .rw[if_neg hc,if_neg (by simp;omega),Array.getElem?_setIfInBounds_ne (by omega)]
theorem vT{place:Nat->Option (Nat×Nat)}:∀{parts:List (Nat×AV)}{cs:List AV}{k:List AV->Bool},CG bn place parts cs k=true->
  ∃cs',k cs'=true∧cs'.length=cs.length∧
   ∀(ι:Pl)(ps:List (Nat×Value))(arr:Array Value),parts.map (·.1)=ps.map (·.1)->dV ι (parts.map (·.2)) (ps.map (·.2))->dV ι cs arr.toList->(∀c∈cs,c.one=true)->
    ∃arr',Instr.fill place arr ps=some arr'∧dV ι cs' arr'.toList∧∀c∈cs',c.one=true
 |[],cs,k,h=>⟨cs,h,rfl,λ ι ps arr hi hv hc h1=>by
  cases ps with
  |nil=>exact⟨arr,rfl,hc,h1⟩
  |cons p ps=>simp at hi⟩
 |(i,v)::rest,cs,k,h=>by
  simp only[CG]at h;split at h
  .cases h
  .rename_i off size hp
   cases hcond:(Nat.beq (fE v.cellsOf) size&&Nat.ble (Nat.add off size) (fE cs)&&v.fB)with
   |false=>rw[hcond]at h;exact Bool.noConfusion h
   |true=>
    rw[hcond]at h;simp only[cond_true,lJ]at h;simp only[Bool.and_eq_true,Nat.ble_eq,fO]at hcond;obtain⟨⟨c1,c2⟩,c3⟩:=hcond;replace c1:v.cellsOf.length=size:=Nat.eq_of_beq_eq_true c1;replace c2:off+size≤cs.length:=c2;obtain⟨cs',h1,h2,h4⟩:=vT h;refine⟨cs',h1,by rw[h2,pW],λ ι ps arr hi hv hc hone=>?_⟩;cases ps with
    |nil=>simp at hi
    |cons p ps=>
     obtain⟨j,x⟩:=p;simp at hi;obtain⟨rfl,hi⟩:=hi;cases hv with
     |cons s hvs=>
      have hl:v.cellsOf.length=x.cells.size:=by rw[s.cells.length];simp
      have hla:cs.length=arr.size:=by rw[hc.length];simp
      have hsz:=zu (x.cells.toList.zipIdx 0) off arr;obtain⟨arr',h5,h6⟩:=h4 ι ps (x.cells.zipIdx.foldl (λ cs (c,j)=>cs.setIfInBounds (off+j) c) arr) hi hvs (by
       rw[<-Array.foldl_toList,Array.toList_zipIdx];refine dV.zh (by rw[pW,hla,Array.length_toList,hsz]) λ m a b ha hb=>?_;have hm:m<cs.length:=by rw[<-pW cs off v.cellsOf];exact(List.getElem?_eq_some_iff.1 ha).1
       rw[CY _ _ _ _ hm]at ha;rw[Array.getElem?_toList]at hb;rw[AZ off x.cells.toList 0 arr m (by simp;omega)]at hb;simp only[Nat.add_zero,Array.length_toList]at hb;by_cases hmc:off≤m∧m<off+v.cellsOf.length
       .rw[if_pos hmc]at ha
        rw[if_pos (by omega)]at hb;obtain⟨y,hy,hr⟩:=s.cells.get ha;rw[hb]at hy;cases hy;exact hr
       .rw[if_neg hmc]at ha
        rw[if_neg (by omega)]at hb;obtain⟨y,hy,hr⟩:=hc.get ha;rw[Array.getElem?_toList,hb]at hy;cases hy;exact hr) (λ c hc'=>by
       obtain⟨j,hj,rfl⟩:=List.mem_iff_getElem.1 hc';have hj':j<cs.length:=by rw[<-pW cs off v.cellsOf];exact hj
       have e:=CY cs off v.cellsOf j hj';rw[List.getElem?_eq_getElem hj]at e;by_cases hjc:off≤j∧j<off+v.cellsOf.length
       .rw[if_pos hjc]at e
        exact s.o7 c3 _ (List.mem_of_getElem? e.symm)
       .rw[if_neg hjc]at e
        exact hone _ (List.mem_of_getElem? e.symm))
      refine⟨arr',?_,h6⟩;simp only[Instr.fill,hp];rw[if_neg (by simp;omega)];exact h5
end Go.cK
section
namespace Go.cK
section
variable {P:Program} {T:Te} {H:Hp} {id:Nat} {k:AV->Hp->Bool}
variable {dst:Option Tmp} {ty:TypeId} {pos:String} {after:Array Edge} {guard:Option (Nat×Bool)}
theorem run_places:∀{fs:List Field}{pl:List (Nat×Nat)},placesOf P fs=some pl->∀w,(fs.mapM λ f=>Prod.mk f.offset<$>sizeOf f.type:Sem (List (Nat×Nat))).run P w= .ok pl w
 |[],pl,h,w=>by cases h;simp
 |f::fs,pl,h,w=>by
  unfold placesOf at h;split at h
  .rename_i s l h1 h2
   cases h;simp[List.mapM_cons,jo h1,run_places h2]
  .cases h
theorem parts_eval{parts:Array (Nat×Operand)}{ps:List (Nat×AV)}{ι:Pl}{a:Act}(r:ps.map (·.1)=parts.toList.map (·.1)∧dV ι (ps.map (·.2)) (parts.toList.map λ p=>a.eval p.2)):
  ps.map (·.1)=((parts.map λ(i,x)=>(i,a.eval x)).toList).map (·.1)∧dV ι (ps.map (·.2)) (((parts.map λ(i,x)=>(i,a.eval x)).toList).map (·.2)):=by
 obtain⟨r1,r2⟩:=r;refine⟨?_,?_⟩
 .rw[r1];simp
 .have:(((parts.map λ(i,x)=>(i,a.eval x)).toList).map (·.2))=parts.toList.map λ p=>a.eval p.2:=by simp
  rw[this];exact r2
theorem Nt{t:TypeId}{parts:List (Nat×AV)}{kk:AV->Bool}(h:CJ P bn t parts kk=true):
  ∃v,kk v=true∧∀(ι:Pl)(ps:Array (Nat×Value))(w:World),parts.map (·.1)=ps.toList.map (·.1)->dV ι (parts.map (·.2)) (ps.toList.map (·.2))->
   ∃y,(Instr.build t ps).run P w= .ok y w∧VR ι v y:=by
 unfold CJ at h;split at h
 .rename_i zs hz
  obtain⟨z,hz1,hz2⟩:=wM hz;split at h
  .rename_i fields hu
   split at h
   .rename_i pl hp
    simp only[Du,hu]at hp;obtain⟨cs,h1,h2,h3⟩:=vT h;refine⟨_,h1,λ ι ps w hi hv=>?_⟩;have D:=hz2 ι;cases D with
    |agg hzl hz1'=>
     rename_i arr;obtain⟨arr',h5,h6,h7⟩:=h3 ι ps.toList arr hi hv hzl hz1';refine⟨.agg arr',?_,.agg h6 h7⟩;simp[Instr.build,hz1,run_underlying hu,Array.mapM_eq_mapM_toList,run_places hp,Value.cells,h5]
   .cases h
  .rename_i n elem hu
   split at h
   .rename_i s hs
    obtain⟨cs,h1,h2,h3⟩:=vT h;refine⟨_,h1,λ ι ps w hi hv=>?_⟩;have D:=hz2 ι;cases D with
    |agg hzl hz1'=>
     rename_i arr;obtain⟨arr',h5,h6,h7⟩:=h3 ι ps.toList arr hi hv hzl hz1';refine⟨.agg arr',?_,.agg h6 h7⟩;simp only[Instr.build,Sem.run_bind,hz1,Result.andThen_ok,run_underlying hu,jo hs,Value.cells];simp[h5]
   .cases h
  .cases h
 .cases h
theorem Ue{t:TypeId}{parts:Array (Nat×Operand)}(h:cu P bn ⟨dst,.build t parts,ty,pos,after,guard⟩ T H id k=true):QS P ⟨dst,.build t parts,ty,pos,after,guard⟩ T H id k:=by
 simp only[cu]at h;obtain⟨ps,h1,_,r⟩:=BH h;obtain⟨v,h2,r2⟩:=Nt h1;refine gM h2 λ ι a w ht=>?_;obtain⟨e1,e2⟩:=parts_eval (r ι a ht);obtain⟨y,hy,hv⟩:=r2 ι (parts.map λ(i,x)=>(i,a.eval x)) w e1 e2;exact⟨y,by simp[Gives,execOp,hy],hv⟩
theorem qE(z:List AV):∀n,(oO n z).length=n*z.length
 |0=>by simp[oO]
 |n+1=>by simp[oO,qE z n,Nat.succ_mul];omega
theorem J7(z:List AV):∀(n i:Nat),i<n*z.length->(oO n z)[i]? =z[i% z.length]?
 |0,i,h=>by simp at h
 |n+1,i,h=>by
  simp only[oO];by_cases hi:i<z.length
  .rw[List.getElem?_append_left hi,Nat.mod_eq_of_lt hi]
  .rw[List.getElem?_append_right (by omega),J7 z n _ (by rw[Nat.succ_mul]at h;omega)]
   congr 1;exact(Nat.mod_eq_sub_mod (by omega)).symm
theorem Ab{z:List AV}(h:∀c∈z,c.one=true):∀n,∀c∈oO n z,c.one=true
 |0,c,hc=>by simp[oO]at hc
 |n+1,c,hc=>by
  simp only[oO,List.mem_append]at hc;rcases hc with hc|hc
  .exact h c hc
  .exact Ab h n c hc
theorem D6{ι:Pl}{z:List AV}{arr:Array Value}(h:dV ι z arr.toList)(n s:Nat)(hs:arr.size=s):
  dV ι (oO n z) ((Array.range (n*s)).map (arr[· % arr.size]!)).toList:=by
 have hl:z.length=arr.size:=by rw[h.length];simp
 refine dV.zh (by simp[qE,hl,hs]) λ i v x hv hx=>?_;have hi:i<n*z.length:=by rw[<-qE z n];exact(List.getElem?_eq_some_iff.1 hv).1
 rw[J7 z n i hi]at hv;obtain⟨y,hy,hr⟩:=h.get hv;have hi':i<n*s:=by rw[<-hs,<-hl];exact hi
 simp[hi']at hx;subst hx;have hpos:0<arr.size:=by
  rcases Nat.eq_zero_or_pos arr.size with h0|h0
  .rw[hl,h0]at hi;simp at hi
  .exact h0
 have hm:i% arr.size<arr.size:=Nat.mod_lt _ hpos;rw[hl]at hy;rw[Array.getElem?_toList]at hy;have:arr[i% arr.size]! =y:=by
  rw[Array.getElem!_eq_getD];simp[hm];exact(Array.getElem?_eq_some_iff.1 hy).2
 rw[this];exact hr
theorem ET{t:TypeId}{len:Nat}{parts:List (Nat×AV)}{kk:AV->Hp->Bool}(h:rU P bn t len parts id H kk=true):
  ∃v ob,kk v (H.put id (some ob))=true∧∀(ι:Pl)(ps:Array (Nat×Value))(w:World),parts.map (·.1)=ps.toList.map (·.1)->dV ι (parts.map (·.2)) (ps.toList.map (·.2))->
   ∃y obj C,(Instr.buildSlice t len ps).run P w= .ok y (w.alloc obj)∧∀aV H',ι.le aV->aV id=some (w.heap.size,0,C)->VR aV v y∧qo aV H' (w.alloc obj) ob w.heap.size 0 C:=by
 unfold rU at h;split at h
 .rename_i elem hu
  split at h
  .rename_i s z hs hz
   obtain⟨x,hz1,hz2⟩:=wM hz;cases hcond:(Nat.blt 0 s&&Nat.ble (Nat.mul len s) 16777216&&Nat.beq (fE z.cellsOf) s&&z.fB)with
   |false=>rw[hcond]at h;exact Bool.noConfusion h
   |true=>
    rw[hcond]at h;simp only[cond_true,lJ]at h;simp only[Bool.and_eq_true,Nat.ble_eq,fO]at hcond;obtain⟨⟨⟨c0,c1⟩,c2⟩,c3⟩:=hcond;replace c0:0<s:=Nat.le_of_ble_eq_true c0;replace c1:len*s≤16777216:=c1;replace c2:z.cellsOf.length=s:=Nat.eq_of_beq_eq_true c2;obtain⟨cs,h1,h2,h3⟩:=vT h;rw[qW]at h1;refine⟨_,_,h1,λ ι ps w hi hv=>?_⟩;have hzc:=(hz2 ι).cells;have hxs:x.cells.size=s:=by have:=hzc.length;simp at this;omega
    obtain⟨arr',h5,h6,h7⟩:=h3 ι ps.toList _ hi hv (D6 hzc len s hxs) (Ab ((hz2 ι).o7 c3) len);have hl:cs.length=arr'.size:=by rw[h6.length];simp
    have hl2:cs.length=len*s:=by rw[h2,qE,c2]
    refine⟨.slice (some ⟨w.heap.size,0,none⟩) len len,.cells arr' elem,arr'.size,?_,λ aV H' hle hid=>⟨.full hid (Nat.le_refl _) (by omega) (.inr rfl),?_⟩⟩
    .simp only[Instr.buildSlice,Sem.run_bind,run_underlying hu,Result.andThen_ok,jo hs]
     rw[if_neg (by omega)];by_cases h0:len*s=0
     .have:len=0:=by rcases Nat.mul_eq_zero.1 h0 with h|h<;>omega
      subst this;simp only[Nat.zero_mul]at h5|-
      have e0:(Array.range 0).map (λ i=>x.cells[i% x.cells.size]!)= #[]:=by simp
      rw[e0]at h5;have er:Array.range 0= #[]:=rfl;simp[er,h5,newRow]
     .simp only[h0,if_false,Sem.run_bind,hz1,Result.andThen_ok,Sem.run_pure]
      simp[h5,newRow]
    .exact CX (h6.mono hle) h7 elem λ _ h=>(by cases h)
  .cases h
 .cases h
theorem JC{t:TypeId}{len:Nat}{parts:Array (Nat×Operand)}(h:cu P bn ⟨dst,.buildSlice t len parts,ty,pos,after,guard⟩ T H id k=true):
  QS P ⟨dst,.buildSlice t len parts,ty,pos,after,guard⟩ T H id k:=by
 simp only[cu]at h;obtain⟨ps,h1,_,r⟩:=BH h;obtain⟨v,ob,h2,r2⟩:=ET h1;refine zq h2 λ ι a w ht=>?_;obtain⟨e1,e2⟩:=parts_eval (r ι a ht);obtain⟨y,obj,C,hy,hv⟩:=r2 ι (parts.map λ(i,x)=>(i,a.eval x)) w e1 e2;exact⟨y,obj,C,by simp[Gives,execOp,hy],hv⟩
end
end Go.cK
end
section
namespace Go.cK
section
variable {P:Program} {T:Te} {H:Hp} {id:Nat} {k:AV->Hp->Bool}
variable {dst:Option Tmp} {ty:TypeId} {pos:String} {after:Array Edge} {guard:Option (Nat×Bool)}
theorem wrap_i64{n:Nat}(h:n≤16777216):IntKind.i64.wrap (n:Int)=n:=IntWalk.i64_in _ (by omega)
theorem GL{t:TypeId}{l c:AV}{kk:AV->Hp->Bool}(h:uz P bn t l c id H kk=true):
  ∃v ob,kk v (H.put id (some ob))=true∧∀(ι:Pl)(lx cx:Value)(w:World),VR ι l lx->VR ι c cx->
   ∃y obj C,(Instr.makeSlice t lx cx).run P w= .ok y (w.alloc obj)∧∀aV H',ι.le aV->aV id=some (w.heap.size,0,C)->VR aV v y∧qo aV H' (w.alloc obj) ob w.heap.size 0 C:=by
 unfold uz at h;split at h
 .rename_i elem kl ln kc cn hu
  split at h
  .rename_i s z D hs hz hb
   obtain⟨x,hz1,hz2⟩:=wM hz;cases hcond:(Nat.blt 0 s&&Nat.ble ln cn&&Nat.ble (Nat.mul cn s) 16777216&&Nat.ble (Nat.mul cn D) 1073741824&&Nat.ble cn 16777216&&Nat.beq (fE z.cellsOf) s&&z.fB)with
   |false=>rw[hcond]at h;exact Bool.noConfusion h
   |true=>
    rw[hcond]at h;simp only[cond_true,lJ,qW]at h;simp only[Bool.and_eq_true,fO]at hcond;obtain⟨⟨⟨⟨⟨⟨c0,c1⟩,c2⟩,c3⟩,c4⟩,c5⟩,c6⟩:=hcond;replace c0:0<s:=Nat.le_of_ble_eq_true c0;replace c1:ln≤cn:=Nat.le_of_ble_eq_true c1;replace c3:cn*D≤1073741824:=Nat.le_of_ble_eq_true c3;replace c4:cn≤16777216:=Nat.le_of_ble_eq_true c4;replace c5:z.cellsOf.length=s:=Nat.eq_of_beq_eq_true c5;refine⟨_,_,h,λ ι lx cx w hl hc=>?_⟩;cases hl;cases hc;have hzc:=(hz2 ι).cells;have hxs:x.cells.size=s:=by have:=hzc.length;simp at this;omega
    have hrep:=D6 hzc cn s hxs;obtain⟨i,hi,hib⟩:=O4 hb w;have hsize:((Array.range (cn*s)).map (x.cells[· % x.cells.size]!)).size=cn*s:=by rw[Array.size_map,Array.size_range]
    refine⟨.slice (some ⟨w.heap.size,0,none⟩) ln cn,.cells ((Array.range (cn*s)).map (x.cells[· % x.cells.size]!)) elem,_,?_,λ aV H' hle hid=>⟨.full hid c1 (by rw[hsize];exact Nat.zero_add _) (.inr rfl),CX (hrep.mono hle) (Ab ((hz2 ι).o7 c6) cn) elem λ _ h=>(by cases h)⟩⟩;have h1:¬((D:Int)*(cn:Int)>2^48):=by
     have e:(D:Int)*cn=((cn*D:Nat):Int):=by rw[Int.mul_comm,Int.natCast_mul]
     rw[e];generalize cn*D=m at c3;omega
    simp only[Instr.makeSlice,Sem.run_bind,run_underlying hu,Result.andThen_ok,asInt,asIntOf,Sem.run_pure,hi,hib,Int.ofNat_eq_natCast,wrap_i64 c4,wrap_i64 (Nat.le_trans c1 c4)];rw[if_neg (by
     simp only[Bool.or_eq_true,decide_eq_true_eq,not_or];exact⟨⟨⟨by omega,h1⟩,by omega⟩,by omega⟩)]
    simp only[Sem.run_bind,run_askRoom,Result.andThen_ok,Int.toNat_natCast,jo hs];by_cases h0:cn*s=0
    .rw[if_pos h0]
     have hc0:cn=0:=by rcases Nat.mul_eq_zero.1 h0 with h|h<;>omega
     subst hc0;have er:Array.range 0= #[]:=rfl;simp[er,newRow]
    .rw[if_neg h0]
     simp[hz1,newRow]
  .cases h
 .cases h
theorem Ll{t:TypeId}{l c:Operand}(h:cu P bn ⟨dst,.makeSlice t l c,ty,pos,after,guard⟩ T H id k=true):
  QS P ⟨dst,.makeSlice t l c,ty,pos,after,guard⟩ T H id k:=by
 simp only[cu]at h;obtain⟨lv,h1,e1,r1⟩:=bR h;obtain⟨cv,h2,e2,r2⟩:=bR h1;obtain⟨v,ob,h3,r3⟩:=GL h2;refine zq h3 λ ι a w ht=>?_;obtain⟨y,obj,C,hy,hv⟩:=r3 ι _ _ w (r1 ι a ht) (r2 ι a ht);exact⟨y,obj,C,by simp[Gives,execOp,hy],hv⟩
theorem EU{ι:Pl}{H:Hp}{w:World}{C:Nat}:qo ι H (w.alloc (.map #[] 0)) (.map [] 0) w.heap.size 0 C:=
 ⟨#[],0,iV _ _,⟨⟨.nil,.nil⟩,by simp,by simp⟩⟩
theorem OC{t:TypeId}{r:Option Operand}(h:cu P bn ⟨dst,.makeMap t r,ty,pos,after,guard⟩ T H id k=true):
  QS P ⟨dst,.makeMap t r,ty,pos,after,guard⟩ T H id k:=by
 simp only[cu]at h;obtain⟨rv,h1,e1,r1⟩:=xW h;unfold Bq at h1;split at h1
 .rw[iU]at h1
  refine zq h1 λ ι a w ht=>⟨.map (some w.heap.size),.map #[] 0,0,?_,λ aV H' hl hi=>⟨.map hi,EU⟩⟩;rcases r1 ι a ht with⟨rfl,_⟩|⟨x,y,_,h3,_⟩
  .simp[Gives,execOp,Instr.makeMap]
  .cases h3
 .split at h1
  .rename_i kd n _ kt et hu
   rw[iU]at h1;refine zq h1 λ ι a w ht=>⟨.map (some w.heap.size),.map #[] 0,0,?_,λ aV H' hl hi=>⟨.map hi,EU⟩⟩;rcases r1 ι a ht with⟨_,h3⟩|⟨x,y,rfl,h3,h4⟩
   .cases h3
   .cases h3
    generalize hx:a.eval x=z at h4;cases h4;simp[Gives,execOp,Instr.makeMap,hx,run_underlying hu,asInt,asIntOf]
  .cases h1
 .cases h1
theorem M7{fn:Fn}{first captured:Array Operand}(h:cu P bn ⟨dst,.makeFunc fn first captured,ty,pos,after,guard⟩ T H id k=true):
  QS P ⟨dst,.makeFunc fn first captured,ty,pos,after,guard⟩ T H id k:=by
 cases fn<;>simp only[cu]at h<;>try(cases h;done)
 rename_i f;obtain⟨xs,h1,e1,r1⟩:=ru h;obtain⟨ys,h2,e2,r2⟩:=ru h1;refine gM h2 λ ι a w ht=>⟨.func (.func f) (first.map a.eval) (captured.map a.eval),?_,.func f ?_ ?_⟩
 .simp[Gives,execOp,Instr.makeFunc]
 .simpa using r1 ι a ht
 .simpa using r2 ι a ht
theorem Ez{t:TypeId}{x:Operand}(h:cu P bn ⟨dst,.makeInterface t x,ty,pos,after,guard⟩ T H id k=true):
  QS P ⟨dst,.makeInterface t x,ty,pos,after,guard⟩ T H id k:=by
 simp only[cu]at h;obtain⟨xv,h1,e1,r1⟩:=bR h;split at h1
 .cases h1
 .rename_i d hne hd
  refine gM h1 λ ι a w ht=>⟨.iface t (a.eval x),?_,.iface t (r1 ι a ht)⟩;cases d<;>first
   |(exact(hne _ rfl).elim)
   |simp[Gives,execOp,Instr.makeInterface,run_underlying hd]
 .cases h1
theorem OD{x:Operand}{i:Nat}(h:cu P bn ⟨dst,.extract x i,ty,pos,after,guard⟩ T H id k=true):
  QS P ⟨dst,.extract x i,ty,pos,after,guard⟩ T H id k:=by
 simp only[cu]at h;obtain⟨xv,h1,e1,r1⟩:=bR h;unfold Br at h1;split at h1
 .split at h1
  .rename_i vs v hv
   refine gM h1 λ ι a w ht=>?_;have hr:=r1 ι a ht;generalize hx:a.eval x=z at hr;cases hr with
   |tuple hl=>
    obtain⟨y,hy,s⟩:=hl.get hv;rw[Array.getElem?_toList]at hy;exact⟨y,by simp[Gives,execOp,Instr.extract,hx,hy],s⟩
  .cases h1
 .cases h1
theorem Lm{t:TypeId}{x:Operand}{f:Nat}(h:cu P bn ⟨dst,.fieldAddr t x f,ty,pos,after,guard⟩ T H id k=true):
  QS P ⟨dst,.fieldAddr t x f,ty,pos,after,guard⟩ T H id k:=by
 simp only[cu]at h;obtain⟨xv,h1,e1,r1⟩:=bR h;unfold yN at h1;split at h1
 .rename_i fields b off hu
  split at h1
  .rename_i fd hf
   split at h1
   .rename_i s hs
    rw[dO]at h1;refine gM h1 λ ι a w ht=>?_;have hr:=r1 ι a ht;generalize hx:a.eval x=z at hr;cases hr with
    |ptr off D=>
     rename_i κ δ C;refine⟨_,?_,.ptr _ D⟩;simp[Gives,execOp,Instr.fieldAt,run_underlying hu,hf,hx,Instr.sureAddr,fieldPlace,jo hs,addr_add,Nat.add_assoc]
   .cases h1
  .cases h1
 .cases h1
theorem Bh{t:TypeId}{cs:List AV}{off:Nat}{v:AV}{ι:Pl}{arr:Array Value}{w:World}(hl:dV ι cs arr.toList)(h1:∀c∈cs,c.one=true)
  (h:(∃s,iE P t=some true∧fD P t=some s∧v= .agg ((cs.drop off).take s)∧((cs.drop off).take s).length=s)∨(iE P t=some false∧cs[off]? =some v)):
  ∃y,(part t arr off).run P w= .ok y w∧VR ι v y:=by
 rcases h with⟨s,ha,hs,rfl,hlen⟩|⟨ha,hv⟩
 .refine⟨.agg (arr.extract off (off+s)),?_,.agg ?_ λ c hc=>h1 c (List.mem_of_mem_drop (List.mem_of_mem_take hc))⟩
  .simp[part,za ha,jo hs]
  .have:(arr.extract off (off+s)).toList=(arr.toList.drop off).take s:=by
    rw[Array.toList_extract];simp[List.extract_eq_take_drop]
   rw[this];exact(hl.drop off).take s
 .obtain⟨y,hy,z⟩:=hl.get hv
  rw[Array.getElem?_toList]at hy;exact⟨y,by simp[part,za ha,hy],z⟩
theorem Uf{t:TypeId}{x:Operand}{f:Nat}(h:cu P bn ⟨dst,.field t x f,ty,pos,after,guard⟩ T H id k=true):
  QS P ⟨dst,.field t x f,ty,pos,after,guard⟩ T H id k:=by
 simp only[cu]at h;obtain⟨xv,h1,e1,r1⟩:=bR h;unfold zi at h1;split at h1
 .rename_i fields cs hu
  split at h1
  .rename_i fd hf
   have fin:∀v,k v H=true->((∃s,iE P fd.type=some true∧fD P fd.type=some s∧v= .agg ((cs.drop fd.offset).take s)∧((cs.drop fd.offset).take s).length=s)∨(iE P fd.type=some false∧cs[fd.offset]? =some v))->
     QS P ⟨dst,.field t x f,ty,pos,after,guard⟩ T H id k:=λ v hk hv=>by
    refine gM hk λ ι a w ht=>?_;have hr:=r1 ι a ht;generalize hx:a.eval x=z at hr;cases hr with
    |agg hl ho=>
     obtain⟨y,hy,D⟩:=Bh (w:=w) hl ho hv;exact⟨y,by simp[Gives,execOp,Instr.field,run_underlying hu,hf,hx,asAgg,hy],D⟩
   split at h1
   .rename_i s ha hs
    rw[lJ]at h1;cases hb:Nat.beq (fE ((cs.drop fd.offset).take s)) s with
    |false=>rw[hb]at h1;exact Bool.noConfusion h1
    |true=>
     rw[hb]at h1;exact fin _ h1 (.inl ⟨s,ha,hs,rfl,by rw[<-fO];exact Nat.eq_of_beq_eq_true hb⟩)
   .rename_i ha
    split at h1
    .rename_i v hv
     exact fin v h1 (.inr ⟨ha,hv⟩)
    .cases h1
   .cases h1
  .cases h1
 .cases h1
end
end Go.cK
end
