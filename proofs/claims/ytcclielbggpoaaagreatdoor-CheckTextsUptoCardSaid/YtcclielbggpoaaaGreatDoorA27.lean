/- Part of the proof of CheckTexts (see the last text). -/
import Derived.Laws.Externs
import Derived.Lib.Bytealg
import Derived.Test.YtcclielbggpoaaaGreatDoorA13
import Derived.Test.YtcclielbggpoaaaGreatDoorA26
set_option linter.all false
section
namespace Go.cK
section
variable {P:Program} {R:Nat}
def CQ(a:Act):ResultVar->Sem Value
 | .tmp t=>pure (a.tmps.getD t undef)
 | .cell p t=>do loadVar t (<-asAddr (a.tmps.getD p undef))
theorem tK{T:Te}{H:Hp}:∀{l:List ResultVar}{kk:List AV->Bool},jZ P bn T H l kk=true->
  ∃vs,kk vs=true∧∀ι n a w,Rel ι H n w->TR ι T a->∃xs,(l.mapM (CQ a)).run P w= .ok xs w∧dV ι vs xs
 |[],kk,h=>⟨[],h,λ _ _ _ _ _ _=>⟨[],by simp[List.mapM_nil],.nil⟩⟩
 | .tmp t::l,kk,h=>by
   unfold jZ at h;split at h
   .rename_i v hv
    obtain⟨vs,h1,h2⟩:=tK h;refine⟨v::vs,h1,λ ι n a w hr ht=>?_⟩;obtain⟨xs,h3,h4⟩:=h2 ι n a w hr ht;refine⟨a.tmps.getD t undef::xs,?_,.cons (ht t v hv) h4⟩;rw[List.mapM_cons];simp only[Sem.run_bind,CQ,Sem.run_pure,Result.andThen_ok,h3]
   .cases h
 | .cell p t::l,kk,h=>by
   unfold jZ at h;split at h
   .rename_i pv hv
    obtain⟨v,h0,hld⟩:=Dw h;obtain⟨vs,h1,h2⟩:=tK h0;refine⟨v::vs,h1,λ ι n a w hr ht=>?_⟩;obtain⟨xs,h3,h4⟩:=h2 ι n a w hr ht;have hp:=ht p pv hv;obtain⟨y,hy,z⟩:=hld ι n w _ hr hp;refine⟨y::xs,?_,.cons z h4⟩;rw[List.mapM_cons];have s:(CQ a (.cell p t)).run P w= .ok y w:=by
     have e:a.eval (.tmp p)=a.tmps.getD p undef:=rfl;rw[e]at hy;simp only[CQ];generalize a.tmps.getD p undef=X at hy|-
     simp only[Instr.loadAt]at hy;unfold Instr.sureAddr at hy;split at hy
     .exact hy
     .simp at hy
    simp only[Sem.run_bind,s,Sem.run_pure,Result.andThen_ok,h3]
   .cases h
theorem Lx{fn:Func}{a:Act}{w:World}{xs:List Value}(h:(fn.results.toList.mapM (CQ a)).run P w= .ok xs w):
  (results fn a.tmps).run P w= .ok (match xs with|[x]=>x|xs=> .tuple xs.toArray) w:=by
 have e:results fn a.tmps=(do let vs<-fn.results.mapM (CQ a);pure (if h:vs.size=1 then vs[0]else .tuple vs)):=rfl;rw[e,Array.mapM_eq_mapM_toList];simp only[Sem.run_bind,Sem.run_map,h,Result.andThen_ok,Sem.run_pure]
 match xs with
 |[]=>rfl
 |[x]=>rfl
 |x::y::l=>simp
def yR(P:Program)(ov:FuncId->Option ((String->Bool)->List AV->Hp->Nat->(AV->Hp->Nat->Bool)->Bool)):Prop:=
 ∀f g,ov f=some g->∀args H n k,g bn args H n k=true->∀ι w argv,Rel ι H n w->dV ι args argv->
  Does P f argv.toArray w λ x w'=>∃v H' n' aV,k v H' n'=true∧VR aV v x∧Rel aV H' n' w'∧Step ι H n w aV H' n' w'
theorem Ni{call:FuncId->List AV->Hp->Nat->(AV->Hp->Nat->Bool)->Bool}(hc:rY P call)(hm:P.follows .mixedOrders=true):rY P (λ f args H n k=>wU P bn alt0 call R f args H n k):=by
 intro f args H n k h ι w argv hr hv;have h:wU P bn alt0 call R f args H n k=true:=h;unfold wU at h;split at h
 .cases h
 .rename_i fn hf
  split at h
  .cases h
  .rename_i c hb
   cases hname:(fn.name== "runtime.NumGoroutine")with
   |true=>rw[hname]at h;exact Bool.noConfusion h
   |false=>
    rw[hname]at h;simp only[cond_false]at h;right;have hne:fn.name≠ "runtime.NumGoroutine":=by simpa using hname
    refine⟨by simp[callFunc,hf,hne,hb],calls_of_wp hf hb ?_⟩;cases hcn:(Nat.ble (fE args) fn.ntmps&&Nat.ble fn.ntmps 512)with
    |false=>rw[hcn]at h;exact Bool.noConfusion h
    |true=>
    rw[hcn]at h;simp only[cond_true]at h;simp only[Bool.and_eq_true,fO]at hcn;obtain⟨hn1,hn2⟩:=hcn;replace hn1:args.length≤fn.ntmps:=Nat.le_of_ble_eq_true hn1;replace hn2:fn.ntmps≤512:=Nat.le_of_ble_eq_true hn2;obtain⟨T,e1,e2⟩:=iK (β:=Bool) (args++List.replicate (Nat.sub (8^(pq fn.ntmps+1)) (fE args)) iM) 0 .nil;rw[e1]at h;have hl:=hv.length;have hl2:(args++List.replicate (Nat.sub (8^(pq fn.ntmps+1)) (fE args)) iM).length=args.length+(8^(pq fn.ntmps+1)-args.length):=by simp[fO]
    refine EG (D:=[]) hc hm c T H n _ h ι _ w _ ⟨hr,λ t v ht=>?_,?_,rfl⟩ λ aV ae T' H' n' a' w' hk hsr hst=>?_
    .rw[e2]at ht
     have hsz:argv.toArray.size=args.length:=by simp[hl]
     by_cases hlt:t<args.length
     .rw[if_pos ⟨Nat.zero_le _,by omega⟩,Nat.sub_zero,List.getElem?_append_left hlt]at ht
      obtain⟨x,hx,s⟩:=hv.get ht;have:(argv.toArray++Array.replicate (fn.ntmps-argv.toArray.size) undef).getD t undef=x:=by
       rw[Array.getD_eq_getD_getElem?,Array.getElem?_append_left (by simp;omega)];simp at hx|-
       rw[hx];rfl
      show VR ι v ((argv.toArray++Array.replicate (fn.ntmps-argv.toArray.size) undef).getD t undef);rw[this];exact s
     .have:(argv.toArray++Array.replicate (fn.ntmps-argv.toArray.size) undef).getD t undef=undef:=by
       rw[Array.getD_eq_getD_getElem?,Array.getElem?_append_right (by omega),Array.getElem?_replicate];split<;>rfl
      show VR ι v ((argv.toArray++Array.replicate (fn.ntmps-argv.toArray.size) undef).getD t undef);rw[this];by_cases hlt2:t<args.length+(8^(pq fn.ntmps+1)-args.length)
      .rw[if_pos ⟨Nat.zero_le _,by omega⟩,Nat.sub_zero,List.getElem?_append_right (by omega),List.getElem?_replicate]at ht
       split at ht
       .cases ht;exact .tuple .nil
       .cases ht
      .rw[if_neg (by omega),Tr.get_nil]at ht
       cases ht
    .have hsz:argv.toArray.size=args.length:=by simp[hl]
     simp only[Array.size_append,Array.size_replicate];omega
    .have fin:(jZ P bn T' H' fn.results.toList λ vs=>match vs with|[v]=>k v H' n'|vs=>k (.tuple vs) H' n')=true->a'.defers=[]∧∃v,(results fn a'.tmps).run P w'= .ok v w'∧
       ∃x,Ending.returned v= .returned x∧∃v H' n' aV,k v H' n'=true∧VR aV v x∧Rel aV H' n' w'∧Step ι H n w aV H' n' w':=λ hk=>by
      obtain⟨vs,k1,k2⟩:=tK hk;obtain⟨xs,k3,k4⟩:=k2 aV n' a' w' hsr.rel hsr.tmp;refine⟨hsr.defers,_,Lx k3,_,rfl,?_⟩;cases k4 with
      |nil=>exact⟨_,_,_,aV,k1,.tuple .nil,hsr.rel,hst⟩
      |cons h1 t=>
       cases t with
       |nil=>exact⟨_,_,_,aV,k1,h1,hsr.rel,hst⟩
       |cons h2 t=>exact⟨_,_,_,aV,k1,.tuple (.cons h1 (.cons h2 t)),hsr.rel,hst⟩
     cases ae with
     |normal=>exact fin hk
     |ret=>exact fin hk
     |exit i=>cases hk
theorem vS(hm:P.follows .mixedOrders=true){ov:FuncId->Option ((String->Bool)->List AV->Hp->Nat->(AV->Hp->Nat->Bool)->Bool)}(ho:yR P ov):∀fuel,rY P (uO P bn alt0 ov R fuel)
 |0=>λ f args H n k h=>Bool.noConfusion h
 |m+1=>λ f args H n k h ι w argv hr hv=>by
  unfold uO at h;dsimp only at h;split at h
  .rename_i g hg
   exact ho f g hg args H n k h ι w argv hr hv
  .exact Ni (vS hm ho m) hm f args H n k h ι w argv hr hv
theorem Bv(hm:P.follows .mixedOrders=true){ov:FuncId->Option ((String->Bool)->List AV->Hp->Nat->(AV->Hp->Nat->Bool)->Bool)}(ho:yR P ov){f:FuncId}{fuel:Nat}{fn:Func}{c:Code}
  (hf:P.funcs[f]? =some fn)(hb:fn.body=some c)(hname:(fn.name== "runtime.NumGoroutine")=false)
  (h:uO P bn alt0 ov R fuel f [] .nil 0 (λ v _ _=>match v with| .bool true=>true|_=>false)=true)(w:World):
  Calls P f #[] w λ e w'=>e= .returned (.bool true)∧∃aV H' n',Step (λ _=>none) .nil 0 w aV H' n' w':=by
 have h0:=vS (R:=R) hm ho fuel f [] .nil 0 _ h (λ _=>none) w [] ⟨λ b _=>⟨rfl,Tr.get_nil _⟩,λ b o κ δ C hb=>(by rw[Tr.get_nil]at hb;cases hb),λ b b' x x' hb=>(by rw[Tr.get_nil]at hb;cases hb)⟩ .nil;rcases h0 with⟨x,w',e,_⟩|⟨_,h0⟩
 .have hne:fn.name≠ "runtime.NumGoroutine":=by simpa using hname
  simp[callFunc,hf,hne,hb]at e
 .refine h0.mono λ e w' he=>?_
  obtain⟨x,rfl,v,H',n',aV,k1,k2,k3,k4⟩:=he;refine⟨?_,aV,H',n',k4⟩;split at k1
  .cases k2;rfl
  .cases k1
end
#print axioms Bv
end Go.cK
end
section
namespace Go.cK
section
variable {P:Program} {H:Hp} {n:Nat} {k:AV->Hp->Nat->Bool}
structure CS(P:Program)(f:FuncId)(e:Array Value->Sem Value):Prop where
 ex:∃fn,P.funcs[f]? =some fn∧(fn.name== "runtime.NumGoroutine")=false∧fn.body.isNone=true∧Extern.findNext fn=none∧Extern.find fn=some e
theorem CS.does{f:FuncId}{e:Array Value->Sem Value}(h:CS P f e){args:Array Value}{w:World}{x:Value}{R:Value->World->Prop}(hr:(e args).run P w= .ok x w)(hR:R x w):Does P f args w R:=by
 obtain⟨fn,h1,h2,h3,h4,h5⟩:=h.ex;exact .inl ⟨x,w,by rw[run_callFunc_extern h1 h2 h3 h4 h5,hr];rfl,hR⟩
def Bw{β:Type}(fl:String->β)(args:List AV)(H:Hp)(n:Nat)(k:AV->Hp->Nat->β):β:=
 match args with
 |[x]=>k x H n
 |_=>fl "NoEscape"
noncomputable def JQ(c:Nat)(l:List Nat):Nat->Option Nat:=
 List.rec (λ _=>none) (λ x _ ih i=>cond (Nat.beq x c) (some i) (ih (Nat.succ i))) l
noncomputable def Aa{β:Type}(fl:String->β)(args:List AV)(H:Hp)(n:Nat)(k:AV->Hp->Nat->β):β:=
 match args with
 |[.str s,.int .u8 (.ofNat c)]=>cond (Nat.blt c 256) (match JQ c s 0 with
  |some i=>fJ i λ i=>k (.int .i64 (.ofNat i)) H n
  |none=>k (.int .i64 (.negSucc 0)) H n) (fl "")
 |_=>fl "IndexByte"
theorem LA{f:FuncId}(hx:CS P f Extern.AbiNoEscape.same){args:List AV}(h:Bw bn args H n k=true){ι:Pl}{w:World}{argv:List Value}(hr:Rel ι H n w)(hv:dV ι args argv):
  Does P f argv.toArray w λ x w'=>∃v H' n' aV,k v H' n'=true∧VR aV v x∧Rel aV H' n' w'∧Step ι H n w aV H' n' w':=by
 unfold Bw at h;split at h
 .cases hv with
  |cons h1 t=>
   cases t;exact hx.does rfl ⟨_,_,_,ι,h,h1,hr,Step.refl _ _ _ _⟩
 .cases h
theorem Ib(c:Nat):∀(l:List Nat)(i:Nat),JQ c l i=((List.range l.length).find? λ j=>l[j]! ==c).map (· +i)
 |[],i=>rfl
 |x::l,i=>by
  have e:JQ c (x::l) i=cond (Nat.beq x c) (some i) (JQ c l (i+1)):=rfl;rw[e,List.length_cons,List.range_succ_eq_map,List.find?_cons];cases hb:Nat.beq x c with
  |true=>
   have:=Nat.eq_of_beq_eq_true hb;subst this;simp
  |false=>
   have hne:¬x=c:=Nat.ne_of_beq_eq_false hb;have hf:(x==c)=false:=by simpa using hne
   have e2:((λ j:Nat=>(x::l)[j]! ==c)∘Nat.succ)=λ j=>l[j]! ==c:=by funext j;simp
   rw[Ib c l (i+1),List.find?_map,e2];simp only[cond_false,List.getElem!_cons_zero,hf];cases(List.range l.length).find? (λ j=>l[j]! ==c)with
   |none=>rfl
   |some j=>simp;omega
theorem I6(s:ByteArray)(c:Nat)(hc:c<256):firstIdx s c.toUInt8=match JQ c (s.data.toList.map UInt8.toNat) 0 with|some i=>(i:Int)|none=> -1:=by
 unfold firstIdx;rw[Ib];have hs:(s.data.toList.map UInt8.toNat).length=s.size:=by simp
 rw[hs];have he:∀j∈List.range s.size,(s[j]! ==c.toUInt8)=((s.data.toList.map UInt8.toNat)[j]! ==c):=λ j hj=>by
  have hj:j<s.size:=by simpa using hj
  have h1:s[j]! =s[j]'hj:=by simp[hj]
  have h2:(s.data.toList.map UInt8.toNat)[j]! =(s[j]'hj).toNat:=by
   have:j<(s.data.toList.map UInt8.toNat).length:=by rw[hs];exact hj
   rw[getElem!_pos _ j this];simp;rfl
  rw[h1,h2,Bool.eq_iff_iff];simp only[beq_iff_eq];constructor
  .intro h;rw[h];simp;omega
  .intro h;apply UInt8.toNat_inj.1;rw[h];simp;omega
 have:(List.range s.size).find? (λ j=>s[j]! ==c.toUInt8)=(List.range s.size).find? (λ j=>(s.data.toList.map UInt8.toNat)[j]! ==c):=by
  generalize List.range s.size=l at he;induction l with
  |nil=>rfl
  |cons a l ih=>
   rw[List.find?_cons,List.find?_cons,he a (List.mem_cons_self ..),ih λ j hj=>he j (List.mem_cons_of_mem _ hj)]
 rw[this];cases(List.range s.size).find? (λ j=>(s.data.toList.map UInt8.toNat)[j]! ==c)<;>simp
theorem JR{f:FuncId}(hx:CS P f Extern.BytealgIndexByte.indexByte){args:List AV}(h:Aa bn args H n k=true){ι:Pl}{w:World}{argv:List Value}(hr:Rel ι H n w)(hv:dV ι args argv):
  Does P f argv.toArray w λ x w'=>∃v H' n' aV,k v H' n'=true∧VR aV v x∧Rel aV H' n' w'∧Step ι H n w aV H' n' w':=by
 unfold Aa at h;split at h
 .rename_i s c
  cases hc:Nat.blt c 256 with
  |false=>rw[hc]at h;exact Bool.noConfusion h
  |true=>
   rw[hc]at h;have hc:c<256:=by simpa[Nat.blt_eq]using hc
   simp only[cond_true]at h;cases hv with
   |cons h1 t=>
    cases t with
    |cons h2 t=>
     cases t;cases h1 with
     |str S=>
      cases h2;refine hx.does (run_indexByte_string S (.ofNat c) w) ?_;have e:firstIdx S (Int.ofNat c).toNat.toUInt8=_:=I6 S c hc;rw[e];split at h
      .rename_i i hi
       rw[dO]at h;exact⟨_,_,_,ι,h,(by exact .int _ _),hr,Step.refl _ _ _ _⟩
      .rename_i hi
       exact⟨_,_,_,ι,h,(by exact .int _ _),hr,Step.refl _ _ _ _⟩
 .cases h
end
end Go.cK
end
section
namespace Go.cK
noncomputable def TD(a b:Option AV):Bool:=match a,b with|none,none=>true|some a,some b=>lg 12 a b|_,_=>false
theorem VI{a b:Option AV}(h:TD a b=true):a=b:=by
 unfold TD at h;split at h
 .rfl
 .rw[nk h]
 .cases h
noncomputable def Nr(t:Te):Te->Bool:=
 Tr.rec (λ s=>Tr.rec true (λ _ _ _ _ _=>false) s) (λ v _ _ il ir s=>Tr.rec false (λ u l r _ _=>TD v u&&(il l&&ir r)) s) t
theorem GK:∀{t s:Te},Nr t s=true->t=s
 | .nil,.nil,_=>rfl
 | .nil,.node ..,h=>Bool.noConfusion h
 | .node ..,.nil,h=>Bool.noConfusion h
 | .node v l r,.node u l' r',h=>by
   have h:(TD v u&&(Nr l l'&&Nr r r'))=true:=h;simp only[Bool.and_eq_true]at h;rw[VI h.1,GK h.2.1,GK h.2.2]
noncomputable def Ns:List (AV×AV)->List (AV×AV)->Bool
 |[],[]=>true
 |a::s,b::bs=>lg 12 a.1 b.1&&(lg 12 a.2 b.2&&Ns s bs)
 |_,_=>false
theorem MC:∀{a b:List (AV×AV)},Ns a b=true->a=b
 |[],[],_=>rfl
 |[],_::_,h=>by cases h
 |_::_,[],h=>by cases h
 |(a1,a2)::s,(b1,b2)::bs,h=>by
  simp only[Ns,Bool.and_eq_true]at h;rw[nk h.1,nk h.2.1,MC h.2.2]
noncomputable def RA(a b:Option TypeId):Bool:=match a,b with|none,none=>true|some a,some b=>Nat.beq a b|_,_=>false
theorem Uk{a b:Option TypeId}(h:RA a b=true):a=b:=by
 unfold RA at h;split at h
 .rfl
 .rw[Nat.eq_of_beq_eq_true h]
 .cases h
noncomputable def J6(a b:Ob):Bool:=
 match a,b with
 | .cells e c n s f,.cells e' c' n' s' f'=>RA e e'&&(Nat.beq n n'&&((s==s')&&((f==f')&&Nr c c')))
 | .map es v,.map es' v'=>Nat.beq v v'&&Ns es es'
 |_,_=>false
theorem Ul{a b:Ob}(h:J6 a b=true):a=b:=by
 unfold J6 at h;split at h
 .simp only[Bool.and_eq_true,beq_iff_eq]at h
  obtain⟨h1,h2,h3,h4,h5⟩:=h;rw[Uk h1,Nat.eq_of_beq_eq_true h2,h3,h4,GK h5]
 .simp only[Bool.and_eq_true]at h
  rw[Nat.eq_of_beq_eq_true h.1,MC h.2]
 .cases h
noncomputable def zo(H:Hp)(l:List (Nat×Ob)):Bool:=List.rec true (λ x _ ih=>uE (pa x.1) H λ o=>Bool.rec false ih (J6 o x.2)) l
theorem uG{H:Hp}:∀{l:List (Nat×Ob)},zo H l=true->∀x∈l,H.get x.1=some x.2
 |[],_,x,hx=>by cases hx
 |y::l,h,x,hx=>by
  have h:(uE (pa y.1) H λ o=>Bool.rec false (zo H l) (J6 o y.2))=true:=h;rw[wV]at h;split at h
  .rename_i o ho
   cases he:J6 o y.2 with
   |false=>rw[he]at h;exact Bool.noConfusion h
   |true=>
    rw[he]at h;rcases List.mem_cons.1 hx with rfl|hx
    .rw[ho,Ul he]
    .exact uG h x hx
  .cases h
noncomputable def BF(l:List (Nat×Ob)):Hp->(Hp->Bool)->Bool:=List.rec (λ H k=>k H) (λ x _ ih H k=>nR (some x.2) (pa x.1) H λ H=>ih H k) l
def lk(b:Nat):List (Nat×Ob)->Option Ob
 |[]=>none
 |x::l=>match lk b l with|some o=>some o|none=>if b=x.1 then some x.2 else none
theorem nu{b:Nat}{o:Ob}:∀{l:List (Nat×Ob)},lk b l=some o->(b,o)∈l
 |[],h=>by cases h
 |x::l,h=>by
  unfold lk at h;split at h
  .rename_i o' h'
   cases h;exact List.mem_cons_of_mem _ (nu h')
  .split at h
   .rename_i e;cases h;subst e;exact List.mem_cons_self ..
   .cases h
theorem CV{b:Nat}:∀{l:List (Nat×Ob)},lk b l=none->∀x∈l,x.1≠b
 |[],_,x,hx=>by cases hx
 |y::l,h,x,hx=>by
  unfold lk at h;split at h
  .cases h
  .rename_i h'
   split at h
   .cases h
   .rename_i e
    rcases List.mem_cons.1 hx with rfl|hx
    .exact λ e'=>e e'.symm
    .exact CV h' x hx
theorem uH:∀(l:List (Nat×Ob))(H:Hp),∃H',(∀k,BF l H k=k H')∧∀b,H'.get b=match lk b l with|some o=>some o|none=>H.get b
 |[],H=>⟨H,λ _=>rfl,λ _=>rfl⟩
 |x::l,H=>by
  obtain⟨H',p,q⟩:=uH l (H.put x.1 (some x.2));refine⟨H',λ k=>?_,λ b=>?_⟩
  .show nR (some x.2) (pa x.1) H (λ H=>BF l H k)=_
   rw[pz];exact p k
  .rw[q b]
   have e:lk b (x::l)=match lk b l with|some o=>some o|none=>if b=x.1 then some x.2 else none:=rfl
   rw[e];cases lk b l with
   |some o=>rfl
   |none=>
    simp only;rw[Tr.get_put];by_cases hb:b=x.1
    .rw[if_pos hb,if_pos hb]
    .rw[if_neg hb,if_neg hb]
structure Known where
 f:FuncId
 args:List AV
 n0:Nat
 pre:List (Nat×Ob)
 old:List (Nat×Ob)
 new:List (Nat×Ob)
 v:AV
 n1:Nat
def isCells(o:Ob):Bool:=match o with| .cells .. =>true|_=>false
def ES(o:Ob):Bool:=match o with| .cells .. =>false| .map .. =>false|_=>true
def Ae:List (Nat×Ob)->List (Nat×Ob)->Bool
 |[],[]=>true
 |x::l,y::m=>Nat.beq x.1 y.1&&(isCells x.2&&(isCells y.2&&Ae l m))
 |_,_=>false
def CW(n0:Nat):List (Nat×Ob)->Bool
 |[]=>true
 |x::l=>Nat.ble n0 x.1&&(!ES x.2&&CW n0 l)
noncomputable def Known.fin(E:Known)(v:AV)(H:Hp)(n:Nat):Bool:=
 Bool.rec false (Bool.rec false (Bool.rec false (zo H E.new) (zo H E.old)) (Nat.ble n E.n1)) (lg 12 v E.v)
noncomputable def Known.runs(E:Known)(P:Program)(R:Nat)(ov:FuncId->Option ((String->Bool)->List AV->Hp->Nat->(AV->Hp->Nat->Bool)->Bool))(fuel:Nat):Bool:=
 Bool.rec false (Bool.rec false (BF E.pre .nil λ H=>EP P R ov fuel E.f E.args H E.n0 E.fin) (CW E.n0 E.new)) (Ae E.pre E.old)
noncomputable def Known.use(E:Known)(args:List AV)(H:Hp)(n:Nat)(k:AV->Hp->Nat->Bool)(other:Bool):Bool:=
 Bool.rec other (Bool.rec other (Bool.rec other (BF E.old H λ H=>BF E.new H λ H=>k E.v H E.n1) (zo H E.pre)) (Nat.ble n E.n0)) (vR (lg 12) args E.args)
theorem AY:∀{l m:List (Nat×Ob)},Ae l m=true->(∀b,(∃x∈l,x.1=b)↔∃y∈m,y.1=b)∧(∀x∈l,isCells x.2=true)∧∀y∈m,isCells y.2=true
 |[],[],_=>⟨λ b=>by simp,λ _ h=>(by cases h),λ _ h=>by cases h⟩
 |[],_::_,h=>by cases h
 |_::_,[],h=>by cases h
 |x::l,y::m,h=>by
  simp only[Ae,Bool.and_eq_true]at h;obtain⟨h1,h2,h3,h4⟩:=h;obtain⟨k1,k2,k3⟩:=AY h4;have h1:=Nat.eq_of_beq_eq_true h1;refine⟨λ b=>?_,λ z hz=>?_,λ z hz=>?_⟩
  .simp only[List.mem_cons,exists_eq_or_imp,h1,k1 b]
  .rcases List.mem_cons.1 hz with rfl|hz
   .exact h2
   .exact k2 z hz
  .rcases List.mem_cons.1 hz with rfl|hz
   .exact h3
   .exact k3 z hz
theorem BG{n0:Nat}:∀{l:List (Nat×Ob)},CW n0 l=true->∀x∈l,n0≤x.1∧ES x.2=false
 |[],_,_,h=>by cases h
 |y::l,h,x,hx=>by
  simp only[CW,Bool.and_eq_true,Bool.not_eq_true']at h;rcases List.mem_cons.1 hx with rfl|hx
  .exact⟨Nat.le_of_ble_eq_true h.1,h.2.1⟩
  .exact BG h.2.2 x hx
theorem kg{a b:Bool}(h:(Bool.rec false a b:Bool)=true):b=true∧a=true:=by
 cases b with
 |false=>exact Bool.noConfusion h
 |true=>exact⟨rfl,h⟩
section
variable {P:Program} {R:Nat}
theorem qo.flat{ι aV:Pl}{H H':Hp}{w w':World}{o:Ob}{κ δ C:Nat}(hi:ES o=false)(h:qo ι H w o κ δ C)(hl:ι.le aV)(hw:w'.heap[κ]? =w.heap[κ]?):qo aV H' w' o κ δ C:=by
 cases o with
 |cells el c n sp fz=>
  obtain⟨arr,elem,fr,h1,h2,h3,h4,h5,h6,h7⟩:=h;exact⟨arr,elem,fr,hw.trans h1,h2,h3,h4,λ i v hv=>let⟨a,b,x,hx,hv⟩:=h5 i v hv;⟨a,b,x,hx,hv.mono hl⟩,h6,h7⟩
 |map es ver=>
  obtain⟨arr,clock,h1,⟨⟨ha,hb⟩,h3,h4⟩⟩:=h;exact⟨arr,clock,hw.trans h1,⟨⟨ha.mono hl,hb.mono hl⟩,h3,h4⟩⟩
 |_=>cases hi
theorem Known.VJ{E:Known}{ov:FuncId->Option ((String->Bool)->List AV->Hp->Nat->(AV->Hp->Nat->Bool)->Bool)}{fuel:Nat}(hm:P.follows .mixedOrders=true)(ho:yR P ov)(hE:E.runs P R ov fuel=true)
  {args:List AV}{H:Hp}{n:Nat}{k:AV->Hp->Nat->Bool}(h:E.use args H n k false=true){ι:Pl}{w:World}{argv:List Value}(hr:Rel ι H n w)(hv:dV ι args argv):
  Does P E.f argv.toArray w λ x w'=>∃v H' n' aV,k v H' n'=true∧VR aV v x∧Rel aV H' n' w'∧Step ι H n w aV H' n' w':=by
 unfold Known.use at h;obtain⟨ha,h⟩:=kg h;obtain⟨hn,h⟩:=kg h;obtain⟨hp,h⟩:=kg h;have ha:=tH (λ _ _=>nk) ha;rw[ha]at hv;have hn:n≤E.n0:=Nat.le_of_ble_eq_true hn;have hp:=uG hp;unfold Known.runs at hE;obtain⟨hk1,hE⟩:=kg hE;obtain⟨hk2,hE⟩:=kg hE;obtain⟨s1,s2,s3⟩:=AY hk1;have hnew:=BG hk2;obtain⟨H0,p0,q0⟩:=uH E.pre .nil;rw[p0,D9]at hE;obtain⟨Ha,L,qa⟩:=uH E.old H;obtain⟨I,pf,qf⟩:=uH E.new Ha;rw[L,pf]at h;have sub:∀b o,H0.get b=some o->(∃x∈E.pre,x.1=b)∧H.get b=some o∧isCells o=true:=λ b o hb=>by
  rw[q0]at hb;split at hb
  .rename_i o' hl
   cases hb;exact⟨⟨_,nu hl,rfl⟩,hp _ (nu hl),s2 _ (nu hl)⟩
  .rw[Tr.get_nil]at hb;cases hb
 have has:∀x∈E.pre,(H0.get x.1).isSome=true:=λ x hx=>by
  rw[q0];split
  .rfl
  .rename_i hl;exact absurd rfl (CV hl x hx)
 have hr0:Rel ι H0 E.n0 w:=by
  refine⟨λ b hb=>⟨(hr.fresh b (by omega)).1,?_⟩,λ b o κ δ C hb hi=>?_,λ b b' x x' h1 h2 h3 h4 h5=>?_⟩
  .cases hg:H0.get b with
   |none=>rfl
   |some o=>
    have:=(sub b o hg).2.1;rw[(hr.fresh b (by omega)).2]at this;cases this
  .obtain⟨-,h2,h3⟩:=sub b o hb
   exact(hr.ob b o κ δ C h2 hi).flat (by cases o<;>first|rfl|cases h3) (Pl.le_refl _) rfl
  .obtain⟨o,ho⟩:=Option.isSome_iff_exists.1 h1
   obtain⟨o',ho'⟩:=Option.isSome_iff_exists.1 h2;exact hr.inj b b' x x' (by rw[(sub b o ho).2.1];rfl) (by rw[(sub b' o' ho').2.1];rfl) h3 h4 h5
 have fin:∀(aV:Pl)(x:Value)(w':World)(v:AV)(H':Hp)(n':Nat),E.fin v H' n'=true->VR aV v x->Rel aV H' n' w'->Step ι H0 E.n0 w aV H' n' w'->
   ∃v H' n' aV,k v H' n'=true∧VR aV v x∧Rel aV H' n' w'∧Step ι H n w aV H' n' w':=by
  intro aV x w' v H' n' hf hv' hr' hs;unfold Known.fin at hf;obtain⟨f1,hf⟩:=kg hf;obtain⟨f2,hf⟩:=kg hf;obtain⟨f3,f4⟩:=kg hf;have f1:=nk f1;subst f1;have f2:n'≤E.n1:=Nat.le_of_ble_eq_true f2;have f3:=uG f3;have f4:=uG f4;have hn1:E.n0≤E.n1:=Nat.le_trans hs.num f2;have hfg:∀b o,I.get b=some o->(H'.get b=some o∧ES o=false∧((∃x∈E.pre,x.1=b)∨E.n0≤b))∨(H.get b=some o∧¬(∃x∈E.pre,x.1=b)∧¬∃x∈E.new,x.1=b):=λ b o hb=>by
   rw[qf]at hb;split at hb
   .rename_i o' hl
    cases hb;exact .inl ⟨f4 _ (nu hl),(hnew _ (nu hl)).2,.inr (hnew _ (nu hl)).1⟩
   .rename_i hl
    rw[qa]at hb;split at hb
    .rename_i o' hl'
     cases hb;refine .inl ⟨f3 _ (nu hl'),?_,.inl ((s1 b).2 ⟨_,nu hl',rfl⟩)⟩;have:=s3 _ (nu hl');simp only at this;cases o<;>first|rfl|cases this
    .rename_i hl'
     exact .inr ⟨hb,λ h=>(s1 b).1 h|>.elim λ x hx=>CV hl' x hx.1 hx.2,λ⟨x,hx,e⟩=>CV hl x hx e⟩
  have old:∀b o x,H.get b=some o->aV b=some x->ι b=some x:=λ b o x hb hi=>by
   have hbn:b<n:=by
    rcases Nat.lt_or_ge b n with h|h
    .exact h
    .rw[(hr.fresh b h).2]at hb;cases hb
   cases hib:ι b with
   |none=>
    have:=(hs.gN b (by omega) hib).1;rw[this]at hi;cases hi
   |some y=>
    have:=hs.le b y hib;rw[this]at hi;cases hi;rfl
  have apart:∀b o κ δ C,H.get b=some o->¬(∃x∈E.pre,x.1=b)->ι b=some (κ,δ,C)->κ<w.heap.size∧∀b0 x0,(H0.get b0).isSome=true->ι b0=some x0->x0.1≠κ:=λ b o κ δ C hb hnp hi=>by
   refine⟨?_,λ b0 x0 h0 hi0 e=>?_⟩
   .have z:=hr.ob b o κ δ C hb hi
    have:∃obj,w.heap[κ]? =some obj:=by
     cases o with
     |cells el c n sp fz=>obtain⟨arr,elem,fr,h1,_⟩:=z;exact⟨_,h1⟩
     |map es ver=>obtain⟨arr,clock,h1,_⟩:=z;exact⟨_,h1⟩
     |uw s pos=>obtain⟨_,t,h1,_⟩:=z;exact⟨_,h1⟩
     |uM=>obtain⟨_,a,b,c,h1⟩:=z;exact⟨_,h1⟩
     |qN m ver left cur=>obtain⟨_,D,F,O,since,seen,stepped,_,h1,_⟩:=z;exact⟨_,h1⟩
    obtain⟨obj,J⟩:=this;exact(Array.getElem?_eq_some_iff.1 J).1
   .obtain⟨o0,ho0⟩:=Option.isSome_iff_exists.1 h0
    obtain⟨k1,k2,-⟩:=sub b0 o0 ho0;have:=hr.inj b0 b x0 (κ,δ,C) (by rw[k2];rfl) (by rw[hb];rfl) hi0 hi e;exact hnp (this▸k1)
  refine⟨E.v,I,E.n1,aV,h,hv',⟨λ b hb=>⟨(hr'.fresh b (by omega)).1,?_⟩,λ b o κ δ C hb hi=>?_,λ b b' x x' h1 h2 h3 h4 h5=>?_⟩,hs.le,by omega,λ b hb hi=>⟨(hs.gN b (by omega) hi).1,?_⟩,hs.size,λ κ T hap=>?_,λ b x hb hi hx=>?_,hs.tape,hs.os,hs.output⟩
  .cases hg:I.get b with
   |none=>rfl
   |some o=>
    rcases hfg b o hg with⟨h1,-⟩|⟨h1,-⟩
    .rw[(hr'.fresh b (by omega)).2]at h1;cases h1
    .rw[(hr.fresh b (by omega)).2]at h1;cases h1
  .rcases hfg b o hb with⟨h1,h2,-⟩|⟨h1,h2,h2'⟩
   .exact(hr'.ob b o κ δ C h1 hi).flat h2 (Pl.le_refl _) rfl
   .have hi0:=old b o _ h1 hi
    obtain⟨a1,a2⟩:=apart b o κ δ C h1 h2 hi0;refine(hr.ob b o κ δ C h1 hi0).congr hs.le (hs.frame κ a1 a2) λ m D F O es ver hm hg=>?_;rcases hfg m _ hg with⟨g1,g2,g3⟩|⟨g1,g2,-⟩
    .exfalso
     rcases g3 with⟨x,hx,e⟩|g3
     .have:=f3
      obtain⟨y,hy,e2⟩:=(s1 m).1 ⟨x,hx,e⟩;have h3:=f3 y hy;rw[e2,g1]at h3;have h4:=s3 y hy;rw[<-Option.some.inj h3]at h4;cases h4
     .rw[(hr.fresh m (by omega)).1]at hm;cases hm
    .left
     obtain⟨a1,a2⟩:=apart m _ D F O g1 g2 hm;exact⟨g1,hs.frame D a1 a2⟩
  .obtain⟨o,ho⟩:=Option.isSome_iff_exists.1 h1
   obtain⟨o',ho'⟩:=Option.isSome_iff_exists.1 h2;have mixed:∀b o b' o' x x',H'.get b=some o->H.get b'=some o'->¬(∃x∈E.pre,x.1=b')->aV b=some x->aV b'=some x'->x.1=x'.1->False:=by
    intro b o b' o' x x' g1 g2 g3 i1 i2 e;obtain⟨κ,δ,C⟩:=x';have i3:=old b' o' _ g2 i2;obtain⟨a1,a2⟩:=apart b' o' κ δ C g2 g3 i3;obtain⟨b0,x0,c1,c2,c3⟩:=hs.owned b x (by rw[g1];rfl) i1 (by rw[e];exact a1);exact a2 b0 x0 c1 c2 (c3.trans e)
   rcases hfg b o ho with⟨g1,-⟩|⟨g1,g2,-⟩<;>rcases hfg b' o' ho' with⟨g1',-⟩|⟨g1',g2',-⟩
   .exact hr'.inj b b' x x' (by rw[g1];rfl) (by rw[g1'];rfl) h3 h4 h5
   .exact(mixed b o b' o' x x' g1 g1' g2' h3 h4 h5).elim
   .exact(mixed b' o' b o x' x g1' g1 g2 h4 h3 h5.symm).elim
   .exact hr.inj b b' x x' (by rw[g1];rfl) (by rw[g1'];rfl) (old b o _ g1 h3) (old b' o' _ g1' h4) h5
  ·
    have hu:=(hs.gN b (by omega) hi).2;have hnn:¬∃x∈E.new,x.1=b:=λ⟨x,hx,e⟩=>by have:=(hnew x hx).1;omega
    rw[qf];cases hl:lk b E.new with
    |some o=>exact absurd ⟨_,nu hl,rfl⟩ hnn
    |none=>
     simp only;rw[qa];cases hl':lk b E.old with
     |none=>rfl
     |some o=>
      have h1:=f3 _ (nu hl');simp only at h1|-
      rw[<-h1,hu];obtain⟨x,hx,e⟩:=(s1 b).2 ⟨_,nu hl',rfl⟩;obtain⟨o0,ho0⟩:=Option.isSome_iff_exists.1 (has x hx);rw[e]at ho0;rw[ho0,(sub b o0 ho0).2.1]
  .exact hs.frame κ T λ b x hb hi=>by
    obtain⟨o,ho⟩:=Option.isSome_iff_exists.1 hb;exact hap b x (by rw[(sub b o ho).2.1];rfl) hi
  .obtain⟨o,ho⟩:=Option.isSome_iff_exists.1 hb
   rcases hfg b o ho with⟨g1,-⟩|⟨g1,g2,-⟩
   .obtain⟨b0,x0,c1,c2,c3⟩:=hs.owned b x (by rw[g1];rfl) hi hx
    obtain⟨o0,ho0⟩:=Option.isSome_iff_exists.1 c1;exact⟨b0,x0,by rw[(sub b0 o0 ho0).2.1];rfl,c2,c3⟩
   .exact⟨b,x,by rw[g1];rfl,old b o _ g1 hi,rfl⟩
 rcases vS (R:=R) hm ho fuel E.f E.args H0 E.n0 E.fin hE ι w argv hr0 hv with⟨x,w',e,v,H',n',aV,c1,c2,c3,c4⟩|⟨e,hc⟩
 .exact .inl ⟨x,w',e,fin aV x w' v H' n' c1 c2 c3 c4⟩
 .refine .inr ⟨e,hc.mono λ e w' he=>?_⟩
  obtain⟨x,rfl,v,H',n',aV,c1,c2,c3,c4⟩:=he;exact⟨x,rfl,fin aV x w' v H' n' c1 c2 c3 c4⟩
end
end Go.cK
end
namespace Go.cK
abbrev Ky:=(String->Bool)->List AV->Hp->Nat->(AV->Hp->Nat->Bool)->Bool
noncomputable def Ze(l:List AV):Nat->Te->Te:=List.rec (λ _ t=>t) (λ v _ ih i t=>ih (Nat.succ i) (t.put i (some v))) l
noncomputable def oc(el:Option TypeId)(l:List AV)(n:Nat)(sp fz:Bool):Ob:= .cells el (Ze l 0 .nil) n sp fz
noncomputable def i(n:Nat):AV:= .int .i64 (.ofNat n)
noncomputable def tt:AV:= .bool true
noncomputable def ff:AV:= .bool false
noncomputable def KN(l:List Known)(args:List AV)(H:Hp)(n:Nat)(k:AV->Hp->Nat->Bool):Bool:=List.rec false (λ E _ ih=>E.use args H n k ih) l
theorem Known.WZ{E:Known}{args:List AV}{H:Hp}{n:Nat}{k:AV->Hp->Nat->Bool}{other:Bool}(h:E.use args H n k other=true):E.use args H n k false=true∨other=true:=by
 unfold Known.use at h|-
 generalize vR (lg 12) args E.args=a at h|-
 generalize Nat.ble n E.n0=b at h|-
 generalize zo H E.pre=c at h|-
 cases a
 .exact .inr h
 .cases b
  .exact .inr h
  .cases c
   .exact .inr h
   .exact .inl h
theorem DN{args:List AV}{H:Hp}{n:Nat}{k:AV->Hp->Nat->Bool}:∀{l:List Known},KN l args H n k=true->∃E∈l,E.use args H n k false=true
 |[],h=>by cases h
 |E::l,h=>by
  have h:E.use args H n k (KN l args H n k)=true:=h;rcases Known.WZ h with h|h
  .exact⟨E,List.mem_cons_self ..,h⟩
  .obtain⟨E',h1,h2⟩:=DN h
   exact⟨E',List.mem_cons_of_mem _ h1,h2⟩
noncomputable def DI(f0:FuncId)(l:List Known)(base:FuncId->Option Ky):FuncId->Option Ky:=λ f=>Bool.rec (base f) (some λ _ args H n k=>KN l args H n k) (Nat.beq f f0)
theorem uQ{P:Program}{R fuel:Nat}{ov base:FuncId->Option Ky}{f0:FuncId}{l:List Known}(hm:P.follows .mixedOrders=true)(ho:yR P ov)(hl:∀E∈l,E.f=f0∧E.runs P R ov fuel=true)(hb:yR P base):yR P (DI f0 l base):=by
 intro f g hg args H n k h ι w argv hr hv;unfold DI at hg;cases hf:Nat.beq f f0 with
 |false=>rw[hf]at hg;exact hb f g hg args H n k h ι w argv hr hv
 |true=>
  rw[hf]at hg;obtain rfl:=Option.some.inj hg;obtain⟨E,hE,hu⟩:=DN h;obtain⟨h1,h2⟩:=hl E hE;have:=Nat.eq_of_beq_eq_true hf;subst this;rw[<-h1];exact Known.VJ hm ho h2 hu hr hv
end Go.cK
namespace Go.cK
open Go.RowKit Go.Proofs Go.Proofs.Ct.Q Go.Proofs.bO Go.Proofs.aA.ak Go.Proofs.aA.aC Go.Proofs.aA.aG
theorem Iq{ι:Pl}{H:Hp}{w:World}{o:Ob}{κ δ C:Nat}(z:qo ι H w o κ δ C):∃obj,w.heap[κ]? =some obj:=by
 cases o with
 |cells el c n sp fz=>obtain⟨arr,elem,fr,h1,_⟩:=z;exact⟨_,h1⟩
 |map es ver=>obtain⟨arr,clock,h1,_⟩:=z;exact⟨_,h1⟩
 |uw s pos=>obtain⟨_,t,h1,_⟩:=z;exact⟨_,h1⟩
 |uM=>obtain⟨_,a,b,c,h1⟩:=z;exact⟨_,h1⟩
 |qN m ver left cur=>obtain⟨_,κm,δm,Cm,since,seen,stepped,_,h1,_⟩:=z;exact⟨_,h1⟩
theorem Rel.below{ι:Pl}{H:Hp}{n:Nat}{w w':World}(hr:Rel ι H n w)(hb:Below w.heap.size w w'):Rel ι H n w'∧Step ι H n w ι H n w':=by
 have hk:∀b o κ δ C,H.get b=some o->ι b=some (κ,δ,C)->w'.heap[κ]? =w.heap[κ]? :=λ b o κ δ C h1 h2=>by
  obtain⟨obj,h⟩:=Iq (hr.ob b o κ δ C h1 h2);exact hb.block κ (Array.getElem?_eq_some_iff.1 h).1
 refine⟨⟨hr.fresh,λ b o κ δ C h1 h2=>?_,hr.inj⟩,Pl.le_refl _,Nat.le_refl _,λ _ _ h=>⟨h,rfl⟩,hb.size,λ κ s _=>hb.block κ s,λ b x h k _=>⟨b,x,h,k,rfl⟩,hb.tape,hb.os,hb.output⟩;exact(hr.ob b o κ δ C h1 h2).congr (Pl.le_refl _) (hk b o κ δ C h1 h2) λ m z D E es ver h3 h4=> .inl ⟨h4,hk m _ z D E h4 h3⟩
theorem Does.calls{P:Program}{f:FuncId}{fn:Func}(hf:P.funcs[f]? =some fn)(hne:(fn.name== "runtime.NumGoroutine")=false)(hb:fn.body.isSome=true){args:Array Value}{w:World}{R:Value->World->Prop}
  (h:Calls P f args w λ e w'=>∃x,e= .returned x∧R x w'):Does P f args w R:=by
 obtain⟨c,hc⟩:=Option.isSome_iff_exists.1 hb;have hne:fn.name≠ "runtime.NumGoroutine":=by simpa using hne
 exact .inr ⟨by simp[callFunc,hf,hne,hc],h⟩
noncomputable def xM:List AV->Option Nat
 |[]=>some 0
 |v::l=>match v with
  | .int .u32 (.ofNat x)=>cond (Nat.blt x 1000000000) (match xM l with|some m=>some (Nat.add x (Nat.mul 1000000000 m))|none=>none) none
  |_=>none
noncomputable def K6:List AV->Bool
 |[]=>true
 |v::l=>match l with
  |[]=>match v with| .int .u32 (.ofNat x)=>Nat.blt 0 x|_=>false
  |_::_=>K6 l
noncomputable def Gb(fuel:Nat):Nat->List Nat->(List Nat->Bool)->Bool:=
 Nat.rec (λ _ _ _=>false) (λ _ ih n acc k=>cond (Nat.blt n 10) (fJ (Nat.add 48 n) λ d=>k (d::acc)) (fJ (Nat.add 48 (Nat.mod n 10)) λ d=>fJ (Nat.div n 10) λ q=>ih q (d::acc) k)) fuel
theorem y9:∀(fuel n:Nat)(acc:List Nat)(k:List Nat->Bool),Gb fuel n acc k=true->k ((Lib.decDigits n).map UInt8.toNat++acc)=true
 |0,n,acc,k,h=>Bool.noConfusion h
 |f+1,n,acc,k,h=>by
  have h:cond (Nat.blt n 10) (fJ (Nat.add 48 n) λ d=>k (d::acc)) (fJ (Nat.add 48 (Nat.mod n 10)) λ d=>fJ (Nat.div n 10) λ q=>Gb f q (d::acc) k)=true:=h;have e8:∀m,m<10->(UInt8.ofNat (48+m)).toNat=48+m:=λ m hm=>by rw[UInt8.toNat_ofNat'];omega
  cases hb:Nat.blt n 10 with
  |true=>
   rw[hb]at h;have hn:n<10:=by simpa[Nat.blt_eq]using hb
   simp only[cond_true,dO]at h;rw[Lib.decDigits_one hn,List.map_cons,e8 n hn];exact h
  |false=>
   rw[hb]at h;have hn:¬n<10:=λ h'=>by rw[<-Nat.blt_eq,hb]at h';cases h'
   simp only[cond_false,dO]at h;have:=y9 f _ _ k h;rw[Lib.decDigits,dif_neg hn,List.map_append,List.map_cons,e8 _ (Nat.mod_lt _ (by omega)),List.append_assoc];exact this
noncomputable def GU(_fl:String->Bool)(args:List AV)(H:Hp)(n:Nat)(k:AV->Hp->Nat->Bool):Bool:=
 match args with
 |[.agg [.bool _,.bF]]=>k (.str [48]) H n
 |[.agg [.bool m,.slice b off len 1 _]]=>match H.get b with
  |some (.cells _ c _ _ _)=>gather c off (Nat.mul len 1) false [] λ l=>match xM l with
   |some v=>cond (Nat.blt len 100000&&K6 l) (cond m (cond (Nat.blt 0 v) (Gb 1000000 v [] λ s=>k (.str (45::s)) H n) false) (Gb 1000000 v [] λ s=>k (.str s) H n)) false
   |none=>false
  |_=>false
 |_=>false
theorem Me{x:Nat}{l:List AV}{v:Nat}(h:xM (.int .u32 (.ofNat x)::l)=some v):x<1000000000∧∃m,xM l=some m∧v=x+1000000000*m:=by
 have h:(cond (Nat.blt x 1000000000) (match xM l with|some m=>some (Nat.add x (Nat.mul 1000000000 m))|none=>none) none)=some v:=h;cases hb:Nat.blt x 1000000000 with
 |false=>rw[hb]at h;cases h
 |true=>
  rw[hb]at h;have hx:x<1000000000:=by simpa[Nat.blt_eq]using hb
  simp only[cond_true]at h;split at h
  .rename_i m hm
   exact⟨hx,m,hm,(Option.some.inj h).symm⟩
  .cases h
theorem Cq:∀(l:List AV)(v:Nat),xM l=some v->K6 l=true->l=(limbs B9 v).map (AV.int .u32)∧(l≠[]->v≠0)
 |[],v,h,_=>by
  have:v=0:=(Option.some.inj h).symm;subst this;exact⟨by rw[bZ];rfl,λ e=>absurd rfl e⟩
 |y::l,v,h,ht=>by
  have hy:∃x,y= .int .u32 (.ofNat x):=by
   unfold xM at h;split at h
   .exact⟨_,rfl⟩
   .cases h
  obtain⟨x,rfl⟩:=hy;obtain⟨hx,m,hm,rfl⟩:=Me h;have hb:2≤B9:=by decide
  have key:K6 l=true∧(l=[]->0<x):=by
   cases l with
   |nil=>exact⟨rfl,λ _=>by have:Nat.blt 0 x=true:=ht;simpa[Nat.blt_eq]using this⟩
   |cons z l=>exact⟨ht,λ e=>by cases e⟩
  obtain⟨h1,h2⟩:=Cq l m hm key.1;have hv:x+1000000000*m≠0:=by
   by_cases hl:l=[]
   .have:=key.2 hl;omega
   .have:=h2 hl;omega
  refine⟨?_,λ _=>hv⟩;rw[iL hb hv,List.map_cons];have e1:(x+1000000000*m)% B9=x:=by show(x+1000000000*m)% 1000000000=x;omega
  have e2:(x+1000000000*m)/B9=m:=by show(x+1000000000*m)/1000000000=m;omega
  rw[e1,e2,<-h1];rfl
theorem O8{H:Hp}{n:Nat}{k:AV->Hp->Nat->Bool}{args:List AV}(h:GU bn args H n k=true){ι:Pl}{w:World}{argv:List Value}(hr:Rel ι H n w)(hv:dV ι args argv):
  Does Tryz.prog 141 argv.toArray w λ x w'=>∃v H' n' aV,k v H' n'=true∧VR aV v x∧Rel aV H' n' w'∧Step ι H n w aV H' n' w':=by
 have fin:∀(vs:Array Value)(m:Bool)(A:Option Addr)(c:Nat)(l:List Int)(s:ByteArray),vs= #[.bool m,.slice A l.length c]->Kd.C (Kd.int .u32) w A l.length l->l.length≤c->dz.f m l=some s->
   k (.str (s.data.toList.map UInt8.toNat)) H n=true->Does Tryz.prog 141 #[.agg vs] w λ x w'=>∃v H' n' aV,k v H' n'=true∧VR aV v x∧Rel aV H' n' w'∧Step ι H n w aV H' n' w':=by
  intro vs m A c l s e hC hc hs hk;subst e;refine Does.calls Tryz.func141 (by kernel_rfl) (by kernel_rfl) ((dz.calls m A c l s w hC hc hs).mono ?_);rintro e w' ⟨rfl,hb⟩;obtain⟨h1,h2⟩:=hr.below hb;exact⟨_,rfl,_,_,_,ι,hk,.str s,h1,h2⟩
 have two:∀{v:AV}(x:AV),dV ι [.agg [x,v]] argv->∃x' y',argv=[.agg #[x',y']]∧VR ι x x'∧VR ι v y':=by
  intro v x hv;cases hv with
  |cons h1 t=>
   cases t;cases h1 with
   | @agg _ vs ha hone=>
     obtain⟨l⟩:=vs;cases ha with
     |cons h1 t=>
      cases t with
      |cons h2 t=>
       cases t;exact⟨_,_,rfl,h1,h2⟩
 unfold GU at h;split at h
 .obtain⟨x',y',rfl,h1,h2⟩:=two _ hv
  cases h1;cases h2;rename_i m;exact fin _ m none 0 [] ⟨#[48]⟩ rfl ⟨rfl,by decide,λ h=>by cases h⟩ (Nat.le_refl _) (by unfold dz.f;rw[dif_pos (show inr 1000000000 ([]:List Int)∧([]:List Int).length<1000000000 from⟨λ x hx=>(nomatch hx),by decide⟩)];rfl) h
 .rename_i m b off len cap
  obtain⟨x',y',rfl,h1,h2⟩:=two _ hv;cases h1;split at h
  .rename_i el c cn sp fz hb
   obtain⟨l,g1,-,g3,g4⟩:=mW c off (Nat.mul len 1) [] _ h;rw[List.append_nil]at g1;split at g1
   .rename_i v hwv
    cases hc1:(Nat.blt len 100000&&K6 l)with
    |false=>rw[hc1]at g1;cases g1
    |true=>
     rw[hc1]at g1;simp only[cond_true]at g1;simp only[Bool.and_eq_true]at hc1;have hlen:len<100000:=by simpa[Nat.blt_eq]using hc1.1
     obtain⟨e1,e2⟩:=Cq l v hwv hc1.2;have hl:l.length=len:=by rw[g3];exact Nat.mul_one len
     have hll:(limbs B9 v).length=len:=by rw[<-hl,e1,List.length_map]
     have hs:m=true->v≠0->dz.f true (limbs B9 v)=some (oV true v):=λ _ hv0=>vo true v (λ _=>hv0) (by rw[hll];omega);have hs2:dz.f false (limbs B9 v)=some (oV false v):=vo false v (λ h=>by cases h) (by rw[hll];omega);have row:∃A cc,y'= .slice A (limbs B9 v).length cc∧(limbs B9 v).length≤cc∧Kd.C (Kd.int .u32) w A (limbs B9 v).length (limbs B9 v):=by
      have key:∀(κ δ C cc:Nat)(a:Addr),ι b=some (κ,δ,C)->len≤cc->(cc=0∨a=⟨κ,δ+off,none⟩)->Kd.C (Kd.int .u32) w (some a) (limbs B9 v).length (limbs B9 v):=by
       intro κ δ C cc a hi hlc ha;obtain⟨arr,elem,fr,q1,q2,q3,q4,q5,q6,q7⟩:=hr.ob b _ κ δ C hb hi;refine Kd.Al (d:=0) ⟨rfl,by rw[hll];omega,λ hpos=>⟨a,rfl,λ j hj=>?_⟩⟩;rw[hll]at hj;have ha':a=⟨κ,δ+off,none⟩:=by
        rcases ha with h0|h0
        .omega
        .exact h0
       obtain⟨u,hu1,hu2⟩:=g4 j (by show j<len*1;omega);obtain⟨-,-,x,hx,D⟩:=q5 _ _ hu2;rw[e1,List.getElem?_map]at hu1;obtain⟨z,hz,rfl⟩:=Option.map_eq_some_iff.1 hu1;cases D;rw[ha',List.getD_eq_getElem?_getD,hz]
       have:(Addr.add ⟨κ,δ+off,none⟩ j)=⟨κ,δ+off+j,none⟩:=by unfold Addr.add;by_cases hj0:j=0
                                                             .subst hj0;rw[if_pos rfl];rfl
                                                             .rw[if_neg hj0]
       rw[this];unfold World.cell?;simp only[q1,Option.isSome_none,Bool.false_eq_true,if_false];rw[show δ+off+j=δ+(off+j) by omega];exact hx
      cases h2 with
      |full hi hlc hcc ha=>exact⟨_,_,by rw[hll],by rw[hll];exact hlc,key _ _ _ _ _ hi hlc ha⟩
      |exact hi hlc hcc ha=>exact⟨_,_,by rw[hll],by rw[hll];exact hlc,key _ _ _ _ _ hi hlc ha⟩
     obtain⟨A,cc,rfl,hcc,hC⟩:=row;cases m with
     |false=>
      simp only[cond_false]at g1;have g2:=y9 _ _ _ _ g1;rw[List.append_nil]at g2;exact fin _ false A cc (limbs B9 v) (oV false v) rfl hC hcc hs2 g2
     |true=>
      simp only[cond_true]at g1;cases hz:Nat.blt 0 v with
      |false=>rw[hz]at g1;cases g1
      |true=>
       rw[hz]at g1;simp only[cond_true]at g1
       have hv0:v≠0:=by have:0<v:=by simpa[Nat.blt_eq]using hz
                        omega
       have g2:=y9 _ _ _ _ g1;rw[List.append_nil]at g2;refine fin _ true A cc (limbs B9 v) (oV true v) rfl hC hcc (hs rfl hv0) ?_;have:(oV true v).data.toList.map UInt8.toNat=45::(Lib.decDigits v).map UInt8.toNat:=by
        unfold oV;rw[if_pos rfl];simp[dec]
       rw[this];exact g2
   .cases g1
  .cases h
 .cases h
end Go.cK
section
namespace Go.Proofs.Ct.Q
open Go.Shelf Go.RowKit Go.Proofs.aA.ak Go.Proofs.aA.aC Go.Proofs.aA.aG Go.Proofs.bO
attribute [local go_sem] Oper.semAt_some
set_option maxRecDepth 100000 in
set_option maxHeartbeats 2000000 in
theorem RY(n:Nat)(l κ δ:Nat)(W:World)(hB:W.cell? ⟨κ,δ,none⟩=some (.slice none 0 0)):
  CallsIn Fence.wide n Tryz.prog 307 #[.func (.yield l) #[] #[],.pointer (some ⟨κ,δ,none⟩)] W λ e W'=>(∃v,e= .returned v)∧W'=W:=by
 refine callsIn_of_wp Tryz.func307 rfl trivial ?_ rfl;simp only[Tryz.ntmps307,List.size_toArray,List.length_cons,List.length_nil,Nat.reduceAdd,Nat.reduceSub,Array.replicate_succ,Array.replicate_zero,List.push_toArray,List.append_toArray,List.nil_append,List.cons_append];gi_wp2;gi_loopw [3] (λ i wr=>i= .int .i64 (-1)∧wr=W) (λ _ _=>0)
 case atStart=>exact⟨rfl,rfl⟩
 case round=>
  obtain⟨rfl,rfl⟩:=hrel;gi_wp2;go_end0;exact⟨⟨_,rfl⟩,rfl⟩
theorem Uv{g:Operand}{ps:Array Tmp}{ass bd:Code}{κ δ:Nat}{a:Act}{w:World}{Q:Exit->Act->World->Prop}(hg:a.eval g= .func (.func 307) #[] #[.pointer (some ⟨κ,δ,none⟩)])
  (hc:w.cell? ⟨κ,δ,none⟩=some (.slice none 0 0))
  (hdone:∀D W,w.heap.size≤D->Below w.heap.size w W->W.heap[D]? =some (.deferred (some []))->Q .normal {a with defers:={target:= .collected D,args:= #[]}::a.defers} W):
  (Code.rangeFunc g ps ass bd).wp Tryz.prog Q a w:=by
 refine(wpIn_wide (n:=3)).1 ?_;refine wpIn_rangeFunc_ownF (α:=Empty) (F:=Fence.wide) rfl (by decide) hg trivial (enters_of Tryz.func307 (by kernel_rfl) rfl) (encs:=λ x=>nomatch x) (Kp:=λ _ _=>True) (S:=λ _=>True) (Sp:=λ _=>False) (N:=0) (w0:=w)
  (λ l J Jx W hb hJ hJx hY h0=>?_) (λ _ _=>trivial) (λ _ _ _ _ _ _ _ _=>trivial) (Below.refl _ _) (λ x=>nomatch x) (λ _ W=>Below w.heap.size w W) (λ _ _ _=>False) (λ s X Y row hs hg hr=>zF hs row hs.size hg λ k hk=>(hr k hk).1)
  (λ c s X Y row hs hg hr=>hs) (Below.refl _ _) (λ x=>nomatch x) (λ l x=>nomatch x) (λ l pre x=>nomatch x) (λ D xs W hD _ hI hd=>hdone D W hD hI hd) (λ D c pre W hD h=>h.elim)
 refine(RY 2 l κ δ W (Bb hb hc)).mono ?_;rintro e W' ⟨hv,rfl⟩;exact⟨hv,.inl ⟨[],trivial,h0⟩⟩
end Go.Proofs.Ct.Q
namespace Go.cK
open Go.RowKit Go.Proofs Go.Proofs.Ct.Q
noncomputable def NM:Code->Code| .seq x _=>x|_=> .skip
noncomputable def Kl:Code->Code| .seq _ y=>y|_=> .skip
noncomputable def C9:Code:=Tryz.f123.body.getD .skip
noncomputable def RZ:Code:=NM C9
noncomputable def R3:Code:=NM (NM (Kl C9))
noncomputable def NP:Code:=Kl (Kl C9)
noncomputable def Uw:Code->Code×Code| .block _ (.rangeFunc _ _ x y)=>(x,y)|_=>(.skip,.skip)
noncomputable def V7:Code×Code:=Uw (Kl (NM (Kl C9)))
theorem R4:Tryz.f123.body=some (.seq RZ (.seq (.seq R3 (.block 0 (.rangeFunc (.tmp 14) #[15,16] V7.1 V7.2))) NP)):=by kernel_rfl
noncomputable def V8:FuncId->List AV->Hp->Nat->(AV->Hp->Nat->Bool)->Bool:=uO Tryz.prog bn alt0 (λ _=>none) 100 10
noncomputable def xB(c:Code)(T:Te)(H:Hp)(n:Nat)(k:Te->Hp->Nat->Bool):Bool:=uN Tryz.prog bn alt0 V8 51 100 c T H n λ ae T H n=>match ae with| .normal=>k T H n|_=>false
noncomputable def Jt(T:Te)(H:Hp)(k:Bool):Bool:=
 match T.get 14 with
 |some (.func f [] [.ptr b off])=>cond (Nat.beq f 307) (match H.get b with
  |some (.cells _ c _ _ _)=>(match c.get off with
   |some .bF=>k
   |_=>false)
  |_=>false) false
 |_=>false
noncomputable def Km(_fl:String->Bool)(args:List AV)(H:Hp)(n:Nat)(k:AV->Hp->Nat->Bool):Bool:=
 cond (Nat.ble (fE args) 51)
  (o8 (args++List.replicate (Nat.sub 51 (fE args)) iM) 0 .nil λ T _=>xB RZ T H n λ T H n=>xB R3 T H n λ T H n=>Jt T H (xB NP T H n λ _ H n=>k (.tuple []) H n)) false
theorem xC{D:List Deferred}{c:Code}{T:Te}{H:Hp}{n:Nat}{k:Te->Hp->Nat->Bool}(h:xB c T H n k=true){ι:Pl}{a:Act}{w:World}{Q:Exit->Act->World->Prop}(hs:SR D ι T H n 51 a w)
  (hQ:∀aV T' H' n' a' w',k T' H' n'=true->SR D aV T' H' n' 51 a' w'->Step ι H n w aV H' n' w'->Q .normal a' w'):c.wp Tryz.prog Q a w:=by
 have hm:Tryz.prog.follows .mixedOrders=true:=by kernel_rfl
 refine EG (vS (R:=100) hm (λ f g hg=>by cases hg) 10) hm c T H n _ h ι a w Q hs λ aV ae T' H' n' a' w' hk hs' hst=>?_;cases ae with
 |normal=>exact hQ aV T' H' n' a' w' hk hs' hst
 |exit i=>cases hk
 |ret=>cases hk
theorem NQ{T:Te}{H:Hp}{k:Bool}(h:Jt T H k=true):k=true∧∃b off el c cn sp fz,T.get 14=some (.func 307 [] [.ptr b off])∧H.get b=some (.cells el c cn sp fz)∧c.get off=some .bF:=by
 unfold Jt at h;split at h
 .rename_i f b off ht
  cases hf:Nat.beq f 307 with
  |false=>rw[hf]at h;cases h
  |true=>
   rw[hf]at h;have:=Nat.eq_of_beq_eq_true hf;subst this;simp only[cond_true]at h;split at h
   .rename_i el c cn sp fz hb
    split at h
    .rename_i hc
     exact⟨h,b,off,el,c,cn,sp,fz,ht,hb,hc⟩
    .cases h
   .cases h
 .cases h
theorem R5{args:List AV}{argv:List Value}{ι:Pl}{H:Hp}{n N:Nat}{w:World}{k:Te->Bool}(hr:Rel ι H n w)(hv:dV ι args argv)(hn:args.length≤N)
  (h:o8 (args++List.replicate (Nat.sub N (fE args)) iM) 0 .nil (λ T _=>k T)=true):∃T,k T=true∧SR [] ι T H n N {tmps:=argv.toArray++Array.replicate (N-argv.toArray.size) undef,defers:=[]} w:=by
 obtain⟨T,e1,e2⟩:=iK (β:=Bool) (args++List.replicate (Nat.sub N (fE args)) iM) 0 .nil;rw[e1]at h;have hl:=hv.length;refine⟨T,h,hr,λ t v ht=>?_,by simp;omega,rfl⟩;rw[e2]at ht;have hl2:(args++List.replicate (Nat.sub N (fE args)) iM).length=args.length+(N-args.length):=by simp[fO]
 have hsz:argv.toArray.size=args.length:=by simp[hl]
 by_cases hlt:t<args.length
 .rw[if_pos ⟨Nat.zero_le _,by omega⟩,Nat.sub_zero,List.getElem?_append_left hlt]at ht
  obtain⟨x,hx,s⟩:=hv.get ht;have:(argv.toArray++Array.replicate (N-argv.toArray.size) undef).getD t undef=x:=by
   rw[Array.getD_eq_getD_getElem?,Array.getElem?_append_left (by simp;omega)];simp at hx|-
   rw[hx];rfl
  show VR ι v ((argv.toArray++Array.replicate (N-argv.toArray.size) undef).getD t undef);rw[this];exact s
 .have:(argv.toArray++Array.replicate (N-argv.toArray.size) undef).getD t undef=undef:=by
   rw[Array.getD_eq_getD_getElem?,Array.getElem?_append_right (by omega),Array.getElem?_replicate];split<;>rfl
  show VR ι v ((argv.toArray++Array.replicate (N-argv.toArray.size) undef).getD t undef);rw[this];by_cases hlt2:t<args.length+(N-args.length)
  .rw[if_pos ⟨Nat.zero_le _,by omega⟩,Nat.sub_zero,List.getElem?_append_right (by omega),List.getElem?_replicate]at ht
   split at ht
   .cases ht;exact .tuple .nil
   .cases ht
  .rw[if_neg (by omega),Tr.get_nil]at ht
   cases ht
theorem Rel.putObj{ι:Pl}{H:Hp}{n:Nat}{w:World}{D:Nat}(o:Obj)(hr:Rel ι H n w)(hD:∀b o κ δ C,H.get b=some o->ι b=some (κ,δ,C)->κ≠D):Rel ι H n (w.putObj D o):=by
 refine⟨hr.fresh,λ b o' κ δ C h1 h2=>?_,hr.inj⟩;exact(hr.ob b o' κ δ C h1 h2).congr (Pl.le_refl _) (World.putObj_heap_other (hD b o' κ δ C h1 h2)) λ m s z E es ver h3 h4=> .inl ⟨h4,World.putObj_heap_other (hD m _ s z E h4 h3)⟩
set_option maxRecDepth 100000 in
theorem RD{H:Hp}{n:Nat}{k:AV->Hp->Nat->Bool}{args:List AV}(h:Km bn args H n k=true){ι:Pl}{w:World}{argv:List Value}(hr:Rel ι H n w)(hv:dV ι args argv):
  Does Tryz.prog 123 argv.toArray w λ x w'=>∃v H' n' aV,k v H' n'=true∧VR aV v x∧Rel aV H' n' w'∧Step ι H n w aV H' n' w':=by
 unfold Km at h;cases hn:Nat.ble (fE args) 51 with
 |false=>rw[hn]at h;cases h
 |true=>
  rw[hn]at h;have hn:args.length≤51:=by have:=Nat.le_of_ble_eq_true hn;rwa[fO]at this
  obtain⟨T,h,hs⟩:=R5 (k:=λ T=>xB RZ T H n λ T H n=>xB R3 T H n λ T H n=>Jt T H (xB NP T H n λ _ H n=>k (.tuple []) H n)) hr hv hn h;refine Does.calls Tryz.func123 (by kernel_rfl) (by kernel_rfl) (callsIn_wide (n:=3).1 (callsIn_of_wp_marks Tryz.func123 R4 trivial (wpIn_wide.2 ?_) rfl));refine wp_seq (xC h hs λ ι1 T1 H1 n1 a1 w1 h1 s1 t1=>?_);refine wp_seq (wp_seq (xC h1 s1 λ E T2 H2 n2 a2 w2 h2 s2 t2=>?_));obtain⟨h3,b,off,el,c,cn,sp,fz,e1,e2,e3⟩:=NQ h2;have hg:=s2.tmp _ _ e1;obtain⟨κ,δ,C,hib,hgv⟩:∃κ δ C,E b=some (κ,δ,C)∧a2.eval (.tmp 14)= .func (.func 307) #[] #[.pointer (some ⟨κ,δ+off,none⟩)]:=by
   generalize a2.eval (.tmp 14)=X at hg;cases hg with
   | @func _ _ _ first captured hx hy=>
     obtain⟨f⟩:=first
     obtain⟨g⟩:=captured;cases hx;cases hy with
     |cons h1 t=>
      cases t;cases h1 with
      |ptr _ hi=>exact⟨_,_,_,hi,rfl⟩
  obtain⟨arr,elem,fr,q1,q2,q3,q4,q5,q6,q7⟩:=s2.rel.ob b _ κ δ C e2 hib;obtain⟨-,-,x,hx,J⟩:=q5 _ _ e3;cases J;have hcell:w2.cell? ⟨κ,δ+off,none⟩=some (.slice none 0 0):=by
   unfold World.cell?;simp only[q1,Option.isSome_none,Bool.false_eq_true,if_false];exact hx
  refine wp_block (Uv hgv hcell λ D W hD hb hd=>?_);obtain⟨r3,t3⟩:=s2.rel.below hb;have hnD:∀b o κ δ C,H2.get b=some o->E b=some (κ,δ,C)->κ≠D:=λ b o κ δ C h1 h2 e=>by
   obtain⟨obj,h⟩:=Iq (s2.rel.ob b o κ δ C h1 h2);have:=(Array.getElem?_eq_some_iff.1 h).1;omega
  show NP.wp Tryz.prog _ _ _;refine xC (D:=[{target:= .collected D,args:= #[]}]) h3 ⟨r3,λ t v ht=>s2.tmp t v ht,s2.size,by show _::a2.defers=_;rw[s2.defers]⟩ λ F T4 H4 n4 a4 w4 h4 s4 t4=>?_;have I:∀b o κ δ C,H4.get b=some o->F b=some (κ,δ,C)->κ≠D:=λ b o κ δ C h1 h2 e=>by
   have hDW:D<W.heap.size:=(Array.getElem?_eq_some_iff.1 hd).1;obtain⟨b0,x0,c1,c2,c3⟩:=t4.owned b (κ,δ,C) (by rw[h1];rfl) h2 (by show κ<_;omega);obtain⟨o0,ho0⟩:=Option.isSome_iff_exists.1 c1;obtain⟨s,z,C0⟩:=x0;exact hnD b0 o0 s z C0 ho0 c2 (by rw[<-e];exact c3)
  have hd4:w4.heap[D]? =some (.deferred (some [])):=(t4.frame D (Array.getElem?_eq_some_iff.1 hd).1 λ b x h1 h2 e=>by
   obtain⟨o,ho⟩:=Option.isSome_iff_exists.1 h1;obtain⟨s,z,C0⟩:=x;exact hnD b o s z C0 ho h2 e).trans hd
  have hst:=t1.trans (t2.trans (t3.trans t4));show LeavesInM Fence.wide 3 Tryz.prog Tryz.f123 a4.tmps _ a4.defers .returning w4;rw[s4.defers];refine⟨by simp,.inl ⟨_,_,rfl,run_takeDeferred hd4,?_⟩⟩;refine⟨_,results_none rfl _ _ _,_,rfl,_,_,_,F,h4,.tuple .nil,s4.rel.putObj _ I,hst.le,hst.num,hst.gN,by rw[show(w4.putObj D (.deferred none)).heap.size=w4.heap.size by simp[World.putObj]];exact hst.size,λ κ L hap=>?_,hst.owned,hst.tape,hst.os,hst.output⟩;have hwD:w.heap.size≤D:=Nat.le_trans (t1.trans t2).size hD;rw[World.putObj_heap_other (by omega)];exact hst.frame κ L hap
end Go.cK
end
