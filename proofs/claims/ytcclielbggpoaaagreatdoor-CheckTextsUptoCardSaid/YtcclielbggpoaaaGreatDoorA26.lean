/- Part of the proof of CheckTexts (see the last text). -/
import Derived.Test.YtcclielbggpoaaaGreatDoorA25
set_option linter.all false
section
namespace Go.cK
abbrev Cl:=FuncId->List AV->Hp->Nat->(AV->Hp->Nat->Bool)->Bool
structure FN(d:Nat)where
 run:Cl->E d->Hp->Nat->(AV->Hp->Nat->Bool)->Bool
structure FW(d:Nat)where
 run:E d->Bool->Bool->Bool
structure FO(d:Nat)where
 run:Cl->E d->Hp->Nat->(E d->Hp->Nat->Bool)->Bool
structure WF where
 i:Nat
 VE:Hp->Bool
structure FS(d:Nat)where
 run:Cl->Nat->E d->Hp->Nat->List WF->(E d->Hp->Nat->Bool)->Bool
structure FC(d:Nat)where
 run:Cl->E d->Hp->Nat->(AX->E d->Hp->Nat->Bool)->Bool
structure FR(d:Nat)where
 run:E d->Hp->(List AV->Bool)->Bool
structure FF where
 run:Cl->List AV->Hp->Nat->(AV->Hp->Nat->Bool)->Bool
noncomputable def Ru(a b:List AV)(k:List AV->Bool):Bool:=
 List.rec (motive:=λ _=>(List AV->Bool)->Bool) (λ k=>k b) (λ x _ ih k=>ih λ r=>k (x::r)) a k
theorem Ms(b:List AV):∀(a:List AV)(k:List AV->Bool),Ru a b k=k (a++b)
 |[],_=>rfl
 |x::a,k=>Ms b a λ r=>k (x::r)
noncomputable def Tx(call:Cl)(f:AV)(args:List AV)(H:Hp)(n:Nat)(k:AV->Hp->Nat->Bool):Bool:=
 match f with
 | .func f first captured=>Ru args captured λ l=>Ru first l λ l=>call f l H n k
 |_=>false
section
variable {d:Nat} {e:E d} {T:Te} {H:Hp} {n:Nat} {P:Program} {call:Cl}
noncomputable def slowN(P:Program)(d:Nat)(o:Oper):FN d:=⟨λ call e H n k=>(uF d (zm o)).run e λ T=>ji P bn alt0 call o T H n k⟩
theorem Rv(h:RE d e T)(o:Oper)(k:AV->Hp->Nat->Bool):(slowN P d o).run call e H n k=ji P bn alt0 call o T H n k:=by
 obtain⟨T',p,q⟩:=D7 h (λ _=>true) (zm o);unfold slowN;simp only;rw[p];exact Ht λ t ht=>q t (EI ht)
noncomputable def cN(P:Program)(d:Nat)(o:Oper):FN d:=
 match o.op with
 | .store t a x=>match fD P t with
   |some s=>lit s λ s=>⟨λ _ e H n k=>(cX d a).run e λ a=>(cX d x).run e λ v=>Vy s a v H λ H=>k iM H n⟩
   |none=>slowN P d o
 | .call c=>match c.callee with
   | .value f=>⟨λ call e H n k=>(cX d f).run e λ f=>(Mr d c.args.toList).run e λ args=>Tx call f args H n k⟩
   | .builtin .append=>match c.argTypes[0]?,c.argTypes[1]?,c.args.toList with
     |some t,some u,[s,x]=>match P.underlying u with
      |some (.int _)=>⟨λ _ e H n k=>(cX d s).run e λ s=>(cX d x).run e λ x=>vN (Nat.succ n) λ n'=>sj P bn t s x n H λ v H=>k v H n'⟩
      |some _=>⟨λ _ e H n k=>(cX d s).run e λ s=>(cX d x).run e λ x=>vN (Nat.succ n) λ n'=>zU P bn t s x n H λ v H=>k v H n'⟩
      |none=>⟨λ _ _ _ _ _=>false⟩
     |_,_,_=>⟨λ _ _ _ _ _=>false⟩
   |_=>slowN P d o
 | .mapUpdate t m key x=>⟨λ _ e H n k=>(cX d m).run e λ m=>(cX d key).run e λ key=>(cX d x).run e λ v=>oG P bn t m key v H λ H=>k iM H n⟩
 | .insert t m key x=>⟨λ _ e H n k=>(cX d m).run e λ m=>(cX d key).run e λ key=>(cX d x).run e λ v=>oG P bn t m key v H λ H=>k iM H n⟩
 | .range t x=>⟨λ _ e H n k=>(cX d x).run e λ x=>vN (Nat.succ n) λ n'=>CK P bn t x n H λ v H=>k v H n'⟩
 | .next it str=>⟨λ _ e H n k=>(cX d it).run e λ it=>ED bn alt0 it str H λ v H=>k v H n⟩
 | .convert _ t x=>⟨λ _ e H n k=>(cX d x).run e λ x=>vN (Nat.succ n) λ n'=>CO P bn t x n H λ v H=>k v H n'⟩
 |_=>slowN P d o
theorem Tz(h:RE d e T)(o:Oper)(k:AV->Hp->Nat->Bool):(cN P d o).run call e H n k=ji P bn alt0 call o T H n k:=by
 have slow:=Rv (P:=P) (H:=H) (n:=n) (call:=call) h o k;obtain⟨dst,op,ty,pos,after,guard⟩:=o;cases op with
 |store t a x=>
  simp only[cN];cases hs:fD P t with
  |none=>exact slow
  |some s=>
   simp only[ji,fF h,uP];congr 1;funext a;congr 1;funext v;exact Vz hs a v _
 |call c=>
  obtain⟨callee,args,tys⟩:=c;cases callee with
  |value f=>
   simp only[cN,ji,fF h,J2 h];congr 1;funext f;congr 1;funext args;unfold Tx;cases f<;>try rfl
   simp only[Ms]
  |builtin b=>
   cases b<;>try exact slow
   simp only[cN,ji];split
   .rename_i t u s x h1 h2 h3
    simp only[h1,h2,h3];cases P.underlying u with
    |none=>rfl
    |some y=>cases y<;>simp only[fF h,oq,dO]
   .rename_i hn
    split
    .rename_i t u s x h1 h2 h3;exact(hn t u s x h1 h2 h3).elim
    .rfl
  |_=>exact slow
 |mapUpdate t m key x=>simp only[cN,ji,fF h]
 |insert t m key x=>simp only[cN,ji,fF h]
 |range t x=>simp only[cN,ji,fF h,oq,dO]
 |next it str=>simp only[cN,ji,fF h]
 |convert s t x=>simp only[cN,ji,fF h,oq,dO]
 |_=>exact slow
noncomputable def cD(d N:Nat)(dst:Option Tmp):FP d:=
 match dst with
 |none=>⟨λ e _ k=>k e⟩
 |some t=>cond (Nat.blt t N) (yS d t) ⟨λ _ _ _=>false⟩
theorem RE.put{d t:Nat}{e e':E d}{T:Te}{v:AV}(h:RE d e T)(ht:t<8^(d+1))(he:∀t',t'<8^(d+1)->lq d e' t'=if t'=t then v else lq d e t'):RE d e' (T.put t (some v)):=λ u=>by
 rw[Tr.get_put,h u];by_cases hu:u<8^(d+1)
 .rw[if_pos hu,if_pos hu,he u hu]
  by_cases e:u=t
  .rw[if_pos e,if_pos e]
  .rw[if_neg e,if_neg e]
 .rw[if_neg hu,if_neg hu,if_neg λ e=>hu (by rw[e];exact ht)]
theorem yt{N:Nat}(hN:N≤8^(d+1))(h:RE d e T)(dst:Option Tmp)(v:AV){k:E d->Bool}{k':Te->Bool}(hk:∀e' T',RE d e' T'->k e'=k' T'):(cD d N dst).run e v k=lV bn N dst v T k':=by
 cases dst with
 |none=>exact hk e T h
 |some t=>
  unfold cD lV;cases hc:Nat.blt t N with
  |false=>simp only[hc];rfl
  |true=>
   have ht:t<8^(d+1):=Nat.lt_of_lt_of_le (by simpa[Nat.blt_eq]using hc) hN;obtain⟨e',p,q⟩:=Gy d t e v ht;simp only[hc,cond_true,iU];rw[p];exact hk _ _ (h.put ht q)
noncomputable def TA(v:AV)(t f g:Bool):Bool:=match v with| .bool b=>Bool.rec f t b|_=>g
noncomputable def cW(d:Nat)(ops:Array Oper)(o:Oper):FW d:=
 match o.guard with
 |none=>⟨λ _ t _=>t⟩
 |some (j,w)=>match(ops[j]?).bind (·.dst)with
  |none=>⟨λ _ _ f=>f⟩
  |some x=>cond (Nat.blt x (8^(d+1))) (cond w ⟨λ e t f=>(Ac d x).run e λ v=>TA v t f f⟩ ⟨λ e t f=>(Ac d x).run e λ v=>TA v f t f⟩) ⟨λ _ _ _=>false⟩
theorem TB(h:RE d e T)(ops:Array Oper)(o:Oper)(k:Bool->Bool):(cW d ops o).run e (k true) (k false)=want bn ops T o k:=by
 unfold cW want;cases o.guard with
 |none=>rfl
 |some g=>
  obtain⟨j,w⟩:=g;simp only;cases(ops[j]?).bind (·.dst)with
  |none=>rfl
  |some x=>
   simp only[h x];cases hc:Nat.blt x (8^(d+1))with
   |false=>
    rw[if_neg (by intro h;rw[<-Nat.blt_eq]at h;rw[h]at hc;cases hc)];rfl
   |true=>
    rw[if_pos (by simpa[Nat.blt_eq]using hc)];cases w<;>simp only[cond_true,cond_false,tL]<;>cases lq d e x<;>try rfl
    all_goals(rename_i b;cases b<;>rfl)
noncomputable def Jm(P:Program)(d N:Nat)(o:Oper)(rest:FO d):FO d:=
 cond (noisy o||JJ P o)
  ⟨λ call e H n k=>(cN P d o).run call e H n λ v H n=>(cD d N o.dst).run e v λ e=>rest.run call e H n k⟩
  (cond (allocs o)
    ⟨λ call e H n k=>(cQ P d o).run e H n λ v H=>(cD d N o.dst).run e v λ e=>vN (Nat.succ n) λ n=>rest.run call e H n k⟩
    ⟨λ call e H n k=>(cQ P d o).run e H n λ v H=>(cD d N o.dst).run e v λ e=>rest.run call e H n k⟩)
noncomputable def VF(d N:Nat)(ops:Array Oper)(o:Oper)(body rest:FO d):FO d:=
 match o.guard with
 |none=>body
 |some _=>⟨λ call e H n k=>(cW d ops o).run e (body.run call e H n k) ((cD d N o.dst).run e iM λ e=>rest.run call e H n k)⟩
noncomputable def GA(P:Program)(d N:Nat)(ops:Array Oper)(l:List Oper):FO d:=
 List.rec ⟨λ _ e H n k=>k e H n⟩ (λ o _ ih=>VF d N ops o (Jm P d N o ih) ih) l
theorem Mt{N:Nat}(hN:N≤8^(d+1))(ops:Array Oper){k:E d->Hp->Nat->Bool}{k':Te->Hp->Nat->Bool}(hk:∀e T H n,RE d e T->k e H n=k' T H n):
  ∀(l:List Oper)(e:E d)(T:Te)(H:Hp)(n:Nat),RE d e T->(GA P d N ops l).run call e H n k=rZ P bn alt0 call N ops l T H n k'
 |[],e,T,H,n,h=>hk e T H n h
 |o::l,e,T,H,n,h=>by
  have ih:=λ e T H n h=>Mt hN ops hk l e T H n h;show(VF d N ops o (Jm P d N o (GA P d N ops l)) (GA P d N ops l)).run call e H n k=JL P bn alt0 call N ops o T H n λ T H n=>rZ P bn alt0 call N ops l T H n k'
  have hb:(Jm P d N o (GA P d N ops l)).run call e H n k=cond (noisy o||JJ P o) (ji P bn alt0 call o T H n λ v H n=>lV bn N o.dst v T λ T=>rZ P bn alt0 call N ops l T H n k')
    (cu P bn o T H n λ v H=>lV bn N o.dst v T λ T=>cond (allocs o) (fJ (Nat.succ n) λ n=>rZ P bn alt0 call N ops l T H n k') (rZ P bn alt0 call N ops l T H n k')):=by
   unfold Jm;cases(noisy o||JJ P o)with
   |true=>
    simp only[cond_true];rw[Tz h];congr 1;funext v H n;exact yt hN h _ _ λ e' T' h'=>ih e' T' H n h'
   |false=>
    simp only[cond_false];cases allocs o with
    |true=>
     simp only[cond_true];rw[EM h];congr 1;funext v H;exact yt hN h _ _ λ e' T' h'=>by rw[oq,dO];exact ih e' T' H _ h'
    |false=>
     simp only[cond_false];rw[EM h];congr 1;funext v H;exact yt hN h _ _ λ e' T' h'=>ih e' T' H n h'
  have hd:((cD d N o.dst).run e iM λ e=>(GA P d N ops l).run call e H n k)=lV bn N o.dst iM T λ T=>rZ P bn alt0 call N ops l T H n k':=
   yt hN h _ _ λ e' T' h'=>ih e' T' H n h'
  unfold JL;rw[<-TB h];simp only[cond_true,cond_false];rw[<-hb,<-hd];unfold VF;cases hg:o.guard with
  |none=>
   simp only[cW,hg]
  |some g=>rfl
noncomputable def Jo(bits:Nat)(W:List WF)(k:List WF->Bool):Bool:=
 List.rec (motive:=λ _=>(List WF->Bool)->Bool) (λ k=>k []) (λ x _ ih k=>Nat.rec (ih λ r=>k (x::r)) (λ _ _=>ih k) (Nat.land 1 (Nat.shiftRight bits x.i))) W k
noncomputable def Rw(H:Hp)(W:List WF):Bool:=List.rec true (λ x _ ih=>Bool.rec false ih (x.VE H)) W
inductive RW (P:Program):List WF->List je->Prop
 |nil:RW P [] []
 |cons {x y l m}:x.i=y.i->(∀H,x.VE H=cu P bn y.o y.T H 0 λ v _=>lg 6 v y.v)->RW P l m->RW P (x::l) (y::m)
theorem J5(b i:Nat)(x y:Bool):(Nat.rec x (λ _ _=>y) (Nat.land 1 (Nat.shiftRight b i)):Bool)=if Nat.testBit b i then y else x:=by
 have e:Nat.land 1 (Nat.shiftRight b i)=(b>>>i)% 2:=by
  show 1&&&(b>>>i)=_;rw[Nat.and_comm,Nat.and_one_is_mod]
 rw[e];have h:Nat.testBit b i=decide ((b>>>i)% 2=1):=by
  rw[Nat.testBit_eq_decide_div_mod_eq,Nat.shiftRight_eq_div_pow]
 rw[h];rcases Nat.mod_two_eq_zero_or_one (b>>>i)with h2|h2<;>rw[h2]<;>rfl
theorem D8{bits:Nat}{k:List WF->Bool}{k':List je->Bool}:∀{W:List WF}{W':List je},RW P W W'->(∀V V',RW P V V'->k V=k' V')->Jo bits W k=k' (keepW bits W')
 |_,_,.nil,hk=>hk _ _ .nil
 |_,_,.cons (x:=x) (y:=y) (l:=l) (m:=m) h1 h2 h3,hk=>by
  show(Nat.rec (Jo bits l λ r=>k (x::r)) (λ _ _=>Jo bits l k) (Nat.land 1 (Nat.shiftRight bits x.i)):Bool)=_;rw[J5,h1];unfold keepW;cases Nat.testBit bits y.i with
  |true=>exact D8 h3 hk
  |false=>exact D8 (k':=λ r=>k' (y::r)) h3 λ V V' hV=>hk _ _ (.cons h1 h2 hV)
theorem Mv{H:Hp}:∀{W:List WF}{W':List je},RW P W W'->Rw H W=mH P H W'
 |_,_,.nil=>rfl
 |_,_,.cons (x:=x) (y:=y) (l:=l) (m:=m) h1 h2 h3=>by
  show(Bool.rec false (Rw H l) (x.VE H):Bool)=(cu P (λ _=>false) y.o y.T H 0 (λ v _=>lg 6 v y.v)&&mH P H m);rw[h2,Mv h3];show(Bool.rec false (mH P H m) (cu P bn y.o y.T H 0 λ v _=>lg 6 v y.v):Bool)=(cu P bn y.o y.T H 0 (λ v _=>lg 6 v y.v)&&mH P H m);cases cu P bn y.o y.T H 0 λ v _=>lg 6 v y.v<;>rfl
noncomputable def Nn(o:Oper)(n:Nat)(k:Nat->Bool):Bool:=cond (allocs o) (vN n k) (k n)
theorem Mw(o:Oper)(n:Nat)(k:Nat->Bool):Nn o n k=k n:=by
 unfold Nn;cases allocs o
 .rfl
 .exact oq n k
noncomputable def EN(P:Program)(d N:Nat)(pre:List Nat)(i:Nat)(o:Oper)(rest:FS d):FS d:=
 cond (noisy o)
  ⟨λ call base e H n W k=>Jo (pre.getD i 0) W λ W=>(cN P d o).run call e H n λ v H n=>Bool.rec false ((cD d N o.dst).run e v λ e=>rest.run call base e H n W k) (Rw H W)⟩
  (cond (lW o)
    ⟨λ call base e H n W k=>Nn o (Nat.add base i) λ id=>(cQ P d o).run e H id λ v H=>(cD d N o.dst).run e v λ e'=>rest.run call base e' H n (⟨i,λ H=>(cQ P d o).run e H 0 λ u _=>lg 6 u v⟩::W) k⟩
    ⟨λ call base e H n W k=>Nn o (Nat.add base i) λ id=>(cQ P d o).run e H id λ v H=>(cD d N o.dst).run e v λ e'=>rest.run call base e' H n W k⟩)
noncomputable def Rx(d N:Nat)(ops:Array Oper)(o:Oper)(body rest:FS d):FS d:=
 match o.guard with
 |none=>body
 |some _=>⟨λ call base e H n W k=>(cW d ops o).run e (body.run call base e H n W k) ((cD d N o.dst).run e iM λ e=>rest.run call base e H n W k)⟩
noncomputable def zn(P:Program)(d N:Nat)(ops:Array Oper)(pre:List Nat)(l:List Nat):FS d:=
 List.rec ⟨λ _ _ e H n _ k=>k e H n⟩ (λ i _ ih=>match ops[i]? with
  |none=>⟨λ _ _ _ _ _ _ _=>false⟩
  |some o=>Rx d N ops o (EN P d N pre i o ih) ih) l
theorem Ie{N:Nat}(hN:N≤8^(d+1))(ops:Array Oper)(pre:List Nat)(base:Nat){k:E d->Hp->Nat->Bool}{k':Te->Hp->Nat->Bool}(hk:∀e T H n,RE d e T->k e H n=k' T H n):
  ∀(l:List Nat)(e:E d)(T:Te)(H:Hp)(n:Nat)(W:List WF)(W':List je),RE d e T->RW P W W'->(zn P d N ops pre l).run call base e H n W k=iy P bn alt0 call N ops pre base l T H n W' k'
 |[],e,T,H,n,W,W',h,hw=>by
  unfold iy;exact hk e T H n h
 |i::l,e,T,H,n,W,W',h,hw=>by
  have ih:=λ e T H n W W' h hw=>Ie hN ops pre base hk l e T H n W W' h hw;unfold iy;show(match ops[i]? with|none=>(⟨λ _ _ _ _ _ _ _=>false⟩:FS d)|some o=>Rx d N ops o (EN P d N pre i o (zn P d N ops pre l)) (zn P d N ops pre l)).run call base e H n W k=_;cases ops[i]? with
  |none=>rfl
  |some o=>
   simp only
   have hb:(EN P d N pre i o (zn P d N ops pre l)).run call base e H n W k=(cond (noisy o)
     (ji P bn alt0 call o T H n λ v H n=>cond (mH P H (keepW (pre.getD i 0) W')) (lV bn N o.dst v T λ T'=>iy P bn alt0 call N ops pre base l T' H n (keepW (pre.getD i 0) W') k') (bn ""))
     (cu P bn o T H (base+i) λ v H=>lV bn N o.dst v T λ T'=>iy P bn alt0 call N ops pre base l T' H n (cond (lW o) (⟨i,o,T,v⟩::W') W') k')):=by
    unfold EN;cases noisy o with
    |true=>
     simp only[cond_true];refine D8 (k':=λ V=>ji P bn alt0 call o T H n λ v H n=>cond (mH P H V) (lV bn N o.dst v T λ T'=>iy P bn alt0 call N ops pre base l T' H n V k') (bn "")) hw λ V V' hV=>?_;rw[Tz h];congr 1;funext v H n;rw[Mv hV];cases mH P H V' with
     |false=>rfl
     |true=>exact yt hN h _ _ λ e' T' h'=>ih e' T' H n _ _ h' hV
    |false=>
     simp only[cond_false];cases lW o with
     |true=>
      simp only[cond_true,Mw];rw[EM h];congr 1;funext v H;exact yt hN h _ _ λ e' T' h'=>ih e' T' H n _ _ h' (.cons rfl (λ H=>EM h o _) hw)
     |false=>
      simp only[cond_false,Mw];rw[EM h];congr 1;funext v H;exact yt hN h _ _ λ e' T' h'=>ih e' T' H n _ _ h' hw
   have hd:((cD d N o.dst).run e iM λ e=>(zn P d N ops pre l).run call base e H n W k)=lV bn N o.dst iM T λ T=>iy P bn alt0 call N ops pre base l T H n W' k':=
    yt hN h _ _ λ e' T' h'=>ih e' T' H n _ _ h' hw
   rw[<-TB h];simp only[cond_true,cond_false];rw[<-hb,<-hd];unfold Rx;cases hg:o.guard with
   |none=>simp only[cW,hg]
   |some g=>rfl
noncomputable def GD(P:Program)(d N:Nat)(ops:Array Oper)(draw:Bool):FO d:=
 cond draw (cond (tJ ops) ⟨λ call e H n k=>vN (Nat.add n ops.size) λ n'=>(zn P d N ops (rz ops) (z_ ops.toList (rz ops))).run call n e H n' [] k⟩ ⟨λ _ _ _ _ _=>false⟩) (GA P d N ops ops.toList)
theorem Np{N:Nat}(hN:N≤8^(d+1))(ops:Array Oper)(draw:Bool)(h:RE d e T){k:E d->Hp->Nat->Bool}{k':Te->Hp->Nat->Bool}(hk:∀e T H n,RE d e T->k e H n=k' T H n):
  (GD P d N ops draw).run call e H n k=wS P bn alt0 call N ops draw T H n k':=by
 unfold GD wS;cases draw with
 |false=>exact Mt hN ops hk _ e T H n h
 |true=>
  simp only[cond_true];cases tJ ops with
  |false=>rfl
  |true=>
   simp only[cond_true,oq,dO];exact Ie hN ops _ _ hk _ e T H _ _ _ h .nil
noncomputable def rounds(body:E d->Hp->Nat->(AX->E d->Hp->Nat->Bool)->Bool)(m:Nat):E d->Hp->Nat->(AX->E d->Hp->Nat->Bool)->Bool:=
 Nat.rec (λ _ _ _ _=>false) (λ _ ih e H n k=>body e H n λ ae e H n=>AX.rec (ih e H n k) (λ id=>k (.exit id) e H n) (k .ret e H n) ae) m
noncomputable def EO(P:Program)(d N R:Nat)(c:Code):FC d:=
 Code.rec
  ⟨λ _ e H n k=>k .normal e H n⟩
  (λ _ ops dr=>⟨λ call e H n k=>(GD P d N ops dr).run call e H n λ e H n=>k .normal e H n⟩)
  (λ _ _ ia ib=>⟨λ call e H n k=>ia.run call e H n λ ae e H n=>AX.rec (ib.run call e H n k) (λ id=>k (.exit id) e H n) (k .ret e H n) ae⟩)
  (λ c _ _ ia ib=>⟨λ call e H n k=>(cX d c).run e λ v=>TA v (ia.run call e H n k) (ib.run call e H n k) false⟩)
  (λ id _ ic=>⟨λ call e H n k=>ic.run call e H n λ ae e H n=>AX.rec (k .normal e H n) (λ i=>Bool.rec (k (.exit i) e H n) (k .normal e H n) (Nat.beq i id)) (k .ret e H n) ae⟩)
  (λ _ ic=>⟨λ call e H n k=>rounds (ic.run call) R e H n k⟩)
  (λ _ _ _ _ _ _=>⟨λ _ _ _ _ _=>false⟩)
  (λ id=>⟨λ _ e H n k=>k (.exit id) e H n⟩)
  (λ _ _=>⟨λ _ _ _ _ _=>false⟩)
  (λ _=>⟨λ _ e H n k=>k .normal e H n⟩)
  (λ _=>⟨λ _ _ _ _ _=>false⟩)
  ⟨λ _ e H n k=>k .ret e H n⟩
  (λ _=>⟨λ _ _ _ _ _=>false⟩)
  c
theorem Ig{b:E d->Hp->Nat->(AX->E d->Hp->Nat->Bool)->Bool}{b':Te->Hp->Nat->(AX->Te->Hp->Nat->Bool)->Bool}
  (hb:∀e T H n k k',RE d e T->(∀ae e T H n,RE d e T->k ae e H n=k' ae T H n)->b e H n k=b' T H n k'){k:AX->E d->Hp->Nat->Bool}{k':AX->Te->Hp->Nat->Bool}(hk:∀ae e T H n,RE d e T->k ae e H n=k' ae T H n):
  ∀(m:Nat)(e:E d)(T:Te)(H:Hp)(n:Nat),RE d e T->rounds b m e H n k=wT bn b' m T H n k'
 |0,e,T,H,n,h=>rfl
 |m+1,e,T,H,n,h=>by
  show b e H n (λ ae e H n=>AX.rec (rounds b m e H n k) (λ id=>k (.exit id) e H n) (k .ret e H n) ae)=b' T H n λ ae T H n=>match ae with| .normal=>wT bn b' m T H n k'|e=>k' e T H n
  refine hb _ _ _ _ _ _ h λ ae e T H n h=>?_;cases ae with
  |normal=>exact Ig hb hk m e T H n h
  |exit i=>exact hk _ _ _ _ _ h
  |ret=>exact hk _ _ _ _ _ h
theorem Ry{N R:Nat}(hN:N≤8^(d+1)):∀(c:Code)(e:E d)(T:Te)(H:Hp)(n:Nat)(k:AX->E d->Hp->Nat->Bool)(k':AX->Te->Hp->Nat->Bool),RE d e T->(∀ae e T H n,RE d e T->k ae e H n=k' ae T H n)->
  (EO P d N R c).run call e H n k=uN P bn alt0 call N R c T H n k':=by
 intro c;induction c with
 |skip=>intro e T H n k k' h hk;exact hk _ _ _ _ _ h
 |region id ops dr=>
  intro e T H n k k' h hk;exact Np hN ops dr h λ e T H n h=>hk _ _ _ _ _ h
 |seq a b ha hb=>
  intro e T H n k k' h hk;refine ha e T H n _ _ h λ ae e T H n h=>?_;cases ae with
  |normal=>exact hb e T H n _ _ h hk
  |exit i=>exact hk _ _ _ _ _ h
  |ret=>exact hk _ _ _ _ _ h
 |cond c a b ha hb=>
  intro e T H n k k' h hk;show(cX d c).run e (λ v=>TA v ((EO P d N R a).run call e H n k) ((EO P d N R b).run call e H n k) false)=eZ bn T c λ v=>match v with| .bool true=>uN P bn alt0 call N R a T H n k'| .bool false=>uN P bn alt0 call N R b T H n k'|_=>bn "cond"
  rw[fF h];congr 1;funext v;cases v<;>try rfl
  rename_i b;cases b
  .exact hb e T H n _ _ h hk
  .exact ha e T H n _ _ h hk
 |block id c hc=>
  intro e T H n k k' h hk;refine hc e T H n _ _ h λ ae e T H n h=>?_;cases ae with
  |normal=>exact hk _ _ _ _ _ h
  |exit i=>
   show(Bool.rec (k (.exit i) e H n) (k .normal e H n) (Nat.beq i id):Bool)=cond (Nat.beq i id) (k' .normal T H n) (k' (.exit i) T H n);cases Nat.beq i id
   .exact hk _ _ _ _ _ h
   .exact hk _ _ _ _ _ h
  |ret=>exact hk _ _ _ _ _ h
 |loop c hc=>
  intro e T H n k k' h hk;exact Ig (λ e T H n k k' h hk=>hc e T H n k k' h hk) hk R e T H n h
 |exit id=>intro e T H n k k' h hk;exact hk _ _ _ _ _ h
 |label id=>intro e T H n k k' h hk;exact hk _ _ _ _ _ h
 |ret=>intro e T H n k k' h hk;exact hk _ _ _ _ _ h
 |_=>intro e T H n k k' h hk;rfl
noncomputable def VG(P:Program)(t:TypeId):AV->Hp->(AV->Bool)->Bool:=
 match iE P t with
 |some false=>λ a H k=>ld1 a H k
 |some true=>match fD P t with
  |some s=>lit s λ s=>λ a H k=>Tv s a H k
  |none=>λ a H k=>o9 P bn t a H k
 |none=>λ a H k=>o9 P bn t a H k
theorem VH(t:TypeId)(a:AV)(H:Hp)(k:AV->Bool):VG P t a H k=o9 P bn t a H k:=by
 unfold VG;cases ht:iE P t with
 |none=>rfl
 |some b=>
  cases b with
  |false=>exact OO ht a k
  |true=>
   simp only;cases hs:fD P t with
   |none=>rfl
   |some s=>simp only[uP];exact OQ ht hs a k
noncomputable def yT(P:Program)(d:Nat):List ResultVar->FR d
 |[]=>⟨λ _ _ k=>k []⟩
 | .tmp t::l=>cond (Nat.blt t (8^(d+1))) ⟨λ e H k=>(Ac d t).run e λ v=>(yT P d l).run e H λ vs=>k (v::vs)⟩ ⟨λ _ _ _=>false⟩
 | .cell a t::l=>cond (Nat.blt a (8^(d+1))) ⟨λ e H k=>(Ac d a).run e λ p=>VG P t p H λ v=>(yT P d l).run e H λ vs=>k (v::vs)⟩ ⟨λ _ _ _=>false⟩
theorem GH(h:RE d e T):∀(l:List ResultVar)(k:List AV->Bool),(yT P d l).run e H k=jZ P bn T H l k
 |[],k=>rfl
 | .tmp t::l,k=>by
   unfold yT jZ;rw[h t];cases hc:Nat.blt t (8^(d+1))with
   |false=>
    rw[if_neg (by intro h;rw[<-Nat.blt_eq]at h;rw[h]at hc;cases hc)];rfl
   |true=>
    rw[if_pos (by simpa[Nat.blt_eq]using hc)];simp only[cond_true,tL];exact GH h l _
 | .cell a t::l,k=>by
   unfold yT jZ;rw[h a];cases hc:Nat.blt a (8^(d+1))with
   |false=>
    rw[if_neg (by intro h;rw[<-Nat.blt_eq]at h;rw[h]at hc;cases hc)];rfl
   |true=>
    rw[if_pos (by simpa[Nat.blt_eq]using hc)];simp only[cond_true,tL,VH];congr 1;funext v;exact GH h l _
noncomputable def Nq(d:Nat)(l:List AV):Nat->E d->(E d->Bool)->Bool:=
 List.rec (λ _ e k=>k e) (λ x _ ih i e k=>(yS d i).run e x λ e=>vN (Nat.succ i) λ i=>ih i e k) l
noncomputable def GI(vs:List AV)(k:AV->Bool):Bool:=
 List.rec (k (.tuple [])) (λ v l _=>List.rec (k v) (λ _ _ _=>k (.tuple vs)) l) vs
theorem Ui(vs:List AV)(k:AV->Bool):GI vs k=match vs with|[v]=>k v|vs=>k (.tuple vs):=by
 cases vs with
 |nil=>rfl
 |cons v l=>cases l<;>rfl
theorem Mx(k:E d->Bool):∀(l:List AV)(i:Nat)(e:E d),i+l.length≤8^(d+1)->∃e',Nq d l i e k=k e'∧∀t,t<8^(d+1)->lq d e' t=if i≤t∧t<i+l.length then(l[t-i]?).getD (.tuple [])else lq d e t
 |[],i,e,hl=>⟨e,rfl,λ t ht=>by rw[if_neg (by simp)]⟩
 |x::l,i,e,hl=>by
  simp only[List.length_cons]at hl;obtain⟨e1,p,q⟩:=Gy d i e x (by omega);obtain⟨e2,p2,q2⟩:=Mx k l (i+1) e1 (by omega);refine⟨e2,?_,λ t ht=>?_⟩
  .show(yS d i).run e x (λ e=>vN (Nat.succ i) λ i=>Nq d l i e k)=_
   rw[p,oq];exact p2
  .rw[q2 t ht,q t ht]
   simp only[List.length_cons];by_cases h1:t=i
   .subst h1
    rw[if_neg (by omega),if_pos rfl,if_pos (by omega)];simp
   .by_cases h2:i+1≤t∧t<i+1+l.length
    .rw[if_pos h2,if_pos (by omega)]
     obtain⟨m,hm⟩:∃m,t-i=m+1:=⟨t-i-1,by omega⟩;have:t-(i+1)=m:=by omega
     rw[hm,this,List.getElem?_cons_succ]
    .rw[if_neg h2,if_neg h1,if_neg (by omega)]
noncomputable def fits(l:List AV):Nat->Bool:=List.rec (λ _=>true) (λ _ _ ih n=>Nat.rec false (λ m _=>ih m) n) l
theorem MB:∀(l:List AV)(n:Nat),fits l n=Nat.ble (fE l) n
 |[],n=>by rw[fO];cases n<;>rfl
 |x::l,0=>by rw[fO];rfl
 |x::l,n+1=>by
  have h:=MB l n;rw[fO]at h|-
  exact h
noncomputable def Zy(P:Program)(R d:Nat)(ntmps:Nat)(c:Code)(res:List ResultVar):FF:=
 ⟨λ call args H n k=>Bool.rec false (Nq d args 0 (su d) λ e=>(EO P d ntmps R c).run call e H n λ ae e H n=>
  AX.rec ((yT P d res).run e H λ vs=>GI vs λ v=>k v H n) (λ _=>false) ((yT P d res).run e H λ vs=>GI vs λ v=>k v H n) ae) (fits args ntmps)⟩
noncomputable def Rz(P:Program)(R:Nat)(f:FuncId):FF:=
 match P.funcs[f]? with
 |none=>⟨λ _ _ _ _ _=>false⟩
 |some fn=>match fn.body with
  |none=>⟨λ _ _ _ _ _=>false⟩
  |some c=>cond (fn.name== "runtime.NumGoroutine") ⟨λ _ _ _ _ _=>false⟩ (cond (Nat.ble fn.ntmps 512) (Zy P R (pq fn.ntmps) fn.ntmps c fn.results.toList) ⟨λ _ _ _ _ _=>false⟩)
theorem Uj{R:Nat}(f:FuncId)(args:List AV)(k:AV->Hp->Nat->Bool):(Rz P R f).run call args H n k=wU P bn alt0 call R f args H n k:=by
 unfold Rz wU;cases P.funcs[f]? with
 |none=>rfl
 |some fn=>
  simp only;cases fn.body with
  |none=>rfl
  |some c=>
   simp only;cases(fn.name== "runtime.NumGoroutine")with
   |true=>rfl
   |false=>
    simp only[cond_false];cases h5:Nat.ble fn.ntmps 512 with
    |false=>rw[Bool.and_false];rfl
    |true=>
     rw[Bool.and_true];have h5':=Vt (Nat.le_of_ble_eq_true h5);show(Bool.rec false (Nq (pq fn.ntmps) args 0 (su _) λ e=>_) (fits args fn.ntmps):Bool)=_;rw[MB];cases hl:Nat.ble (fE args) fn.ntmps with
     |false=>rfl
     |true=>
      have hl':=Nat.le_of_ble_eq_true hl;rw[fO]at hl';simp only[cond_true];obtain⟨T,t1,t2⟩:=iK (β:=Bool) (args++List.replicate (Nat.sub (8^(pq fn.ntmps+1)) (fE args)) iM) 0 .nil;rw[t1];obtain⟨e',p,q⟩:=Mx (d:=pq fn.ntmps) (λ e=>(EO P (pq fn.ntmps) fn.ntmps R c).run call e H n λ ae e H n=>
       AX.rec ((yT P (pq fn.ntmps) fn.results.toList).run e H λ vs=>GI vs λ v=>k v H n) (λ _=>false) ((yT P (pq fn.ntmps) fn.results.toList).run e H λ vs=>GI vs λ v=>k v H n) ae) args 0 (su _) (by omega)
      refine p.trans ?_;have hlen:(args++List.replicate (Nat.sub (8^(pq fn.ntmps+1)) (fE args)) iM).length=8^(pq fn.ntmps+1):=by
       simp only[List.length_append,List.length_replicate,fO];have:Nat.sub (8^(pq fn.ntmps+1)) args.length=8^(pq fn.ntmps+1)-args.length:=rfl;omega
      have s:RE (pq fn.ntmps) e' T:=λ t=>by
       rw[t2,hlen];by_cases ht:t<8^(pq fn.ntmps+1)
       .rw[if_pos ⟨Nat.zero_le _,by omega⟩,if_pos ht,q t ht,Nat.sub_zero,Mq]
        by_cases ha:t<args.length
        .rw[List.getElem?_append_left ha,if_pos ⟨Nat.zero_le _,by omega⟩,List.getElem?_eq_getElem ha];rfl
        .rw[List.getElem?_append_right (by omega),if_neg (by omega),List.getElem?_replicate,if_pos (by
          rw[fO];have:Nat.sub (8^(pq fn.ntmps+1)) args.length=8^(pq fn.ntmps+1)-args.length:=rfl;omega)];rfl
       .rw[if_neg (by omega),if_neg ht,Tr.get_nil]
      refine Ry h5' c _ _ _ _ _ _ s λ ae e T H n h=>?_;have fin:((yT P (pq fn.ntmps) fn.results.toList).run e H λ vs=>GI vs λ v=>k v H n)=jZ P bn T H fn.results.toList λ vs=>match vs with|[v]=>k v H n|vs=>k (.tuple vs) H n:=by
       rw[GH h];congr 1;funext vs;exact Ui vs _
      cases ae with
      |normal=>exact fin
      |ret=>exact fin
      |exit i=>rfl
noncomputable def cF(P:Program)(R:Nat)(ov:FuncId->Option ((String->Bool)->List AV->Hp->Nat->(AV->Hp->Nat->Bool)->Bool))(f:FuncId):FF:=
 match ov f with
 |some g=>⟨λ _ args H n k=>g bn args H n k⟩
 |none=>Rz P R f
noncomputable def EP(P:Program)(R:Nat)(ov:FuncId->Option ((String->Bool)->List AV->Hp->Nat->(AV->Hp->Nat->Bool)->Bool))(fuel:Nat):Cl:=
 Nat.rec (λ _ _ _ _ _=>false) (λ _ ih f args H n k=>(cF P R ov f).run ih args H n k) fuel
noncomputable def GJ(P:Program)(ov:FuncId->Option ((String->Bool)->List AV->Hp->Nat->(AV->Hp->Nat->Bool)->Bool))(R:Nat)(X:Cl)(f:FuncId)(args:List AV)(H:Hp)(n:Nat)(k:AV->Hp->Nat->Bool):Bool:=
 match ov f with
 |some g=>g bn args H n k
 |none=>wU P bn alt0 X R f args H n k
theorem D9{R:Nat}{ov:FuncId->Option ((String->Bool)->List AV->Hp->Nat->(AV->Hp->Nat->Bool)->Bool)}:∀fuel,EP P R ov fuel=uO P bn alt0 ov R fuel
 |0=>rfl
 |m+1=>by
  funext f args H n k;have e1:EP P R ov (m+1) f args H n k=(cF P R ov f).run (EP P R ov m) args H n k:=rfl;rw[e1,D9 m];unfold cF;generalize hX:uO P bn alt0 ov R m=X;have e2:uO P bn alt0 ov R (m+1) f args H n k=GJ P ov R X f args H n k:=by
   subst hX;unfold GJ
   conv=>lhs;unfold uO;dsimp only
   cases ov f<;>rfl
  rw[e2];unfold GJ;cases ov f with
  |some g=>rfl
  |none=>exact Uj f args k
end
end Go.cK
end
section
namespace Go.cK
def fZ(L:Array Bool)(i:Nat):Prop:=L.getD i false=true
def Waits(P:Program)(ops:Array Oper)(base:Nat)(o:Oper)(j:Nat)(Tj:Te)(v:AV)(H:Hp)(W:List je):Prop:=
 (want bn ops Tj o (λ b=> !b)=true∧v=iM)∨
 (want bn ops Tj o (λ b=>b)=true∧
   (Jk P o Tj v∨(lW o=true∧zX P o Tj H v∧∃x∈W,x.i=j∧x.o=o∧x.v=v∧∀t,Operand.tmp t∈o.op.operands->x.T.get t=Tj.get t)∨
    ∃ob,H.get (base+j)=some ob∧Rp P o Tj (base+j) v ob))
structure Inv(D:List Deferred)(P:Program)(ops:Array Oper)(pre:List Nat)(base N:Nat)(kH:Pl)(H0:Hp)(w0:World)(L:Array Bool)(C rest:List Nat)(T:Te)(H:Hp)(n:Nat)(W:List je)
  (Tj:Nat->Te)(vj:Nat->AV)(ι:Pl)(a:Act)(w:World):Prop where
 split:Split ops pre C rest
 sub:∀i,fZ L i->i∈C
 rng:∀i∈C,i<ops.size
 zY:∀i o,fZ L i->ops[i]? =some o->∀e∈o.after,binds e=true->fZ L e.on
 uD:∀i o,i∈C->ops[i]? =some o->∀e∈o.after,binds e=true->e.on∈C
 quiet:∀j o,j∈C->¬fZ L j->ops[j]? =some o->noisy o=false
 rel:Rel ι H n w
 room:base+ops.size≤n
 gN:∀j,j<ops.size->¬fZ L j->ι (base+j)=none
 EF:∀j,j<ops.size->j∉C->H.get (base+j)=none
 tmp:∀t v,T.get t=some v->(∀j∈C,¬fZ L j->yg ops j≠some t)->VR ι v (a.eval (.tmp t))
 dst:∀j∈C,¬fZ L j->∀d,yg ops j=some d->T.get d=some (vj j)∧d<N
 looked:∀j o,j∈C->¬fZ L j->ops[j]? =some o->∀t v,(Tj j).get t=some v->t∈looks ops o∧((∀p∈C,¬fZ L p->bit pre p j->yg ops p≠some t)->VR ι v (a.eval (.tmp t)))
 before:∀j o,j∈C->¬fZ L j->ops[j]? =some o->∀p∈C,¬fZ L p->bit pre p j->∀d,yg ops p=some d->d∈looks ops o->(Tj j).get d=some (vj p)
 waits:∀j o,j∈C->¬fZ L j->ops[j]? =some o->Waits P ops base o j (Tj j) (vj j) H W
 size:N≤a.tmps.size
 defers:a.defers=D
 step:Step kH H0 base w0 ι H n w
theorem D5{ops:Array Oper}{i:Nat}{o:Oper}(h:ops[i]? =some o):yg ops i=o.dst:=by simp[yg,h]
theorem zZ{ops:Array Oper}{o:Oper}{T:Te}:∀t,Operand.tmp t∈o.op.operands->(only T (looks ops o)).get t=T.get t:=λ t ht=>by
 rw[wQ,if_pos (I4 ht)]
theorem Ia{β:Type}{fl:String->β}{ops:Array Oper}{o:Oper}{T:Te}{k:Bool->β}:want fl ops (only T (looks ops o)) o k=want fl ops T o k:=
 M8 λ _ _ _ hg hd=>by rw[wQ,if_pos (Lp hg hd)]
theorem zX.grow{P:Program}{o:Oper}{T:Te}{H:Hp}{v:AV}{id:Nat}{ob:Ob}(h:zX P o T H v)(hH:H.get id=none):zX P o T (H.put id (some ob)) v:=
 λ ι a n w hr ht=>h ι a n w (hr.shrink hH) ht
section
variable {D:List Deferred} {P:Program} {call:FuncId->List AV->Hp->Nat->(AV->Hp->Nat->Bool)->Bool} {N base n:Nat} {ops:Array Oper} {pre:List Nat} {k:Te->Hp->Nat->Bool} {kH:Pl} {H0:Hp} {w0:World}
 {L:Array Bool} {ι:Pl} {a:Act} {w:World}
theorem Inv.OJ(hp:r9 ops.toList pre=true)(ht:r_ ops pre=true){C l:List Nat}{q:Nat}{T:Te}{H:Hp}{W:List je}{Tj:Nat->Te}{vj:Nat->AV}{o:Oper}
  (I:Inv D P ops pre base N kH H0 w0 L C (q::l) T H n W Tj vj ι a w)(ho:ops[q]? =some o)(hn:noisy o=false){v:AV}{T':Te}{H':Hp}{W':List je}
  (hT:∀t,T'.get t=if o.dst=some t then some v else T.get t)(hN:∀d,o.dst=some d->d<N)
  (hH:H'=H∨(H.get (base+q)=none∧∃ob,H'=H.put (base+q) (some ob)))(hW:∀x∈W,x∈W')
  (U:Waits P ops base o q (only T (looks ops o)) v H' W'):
  Inv D P ops pre base N kH H0 w0 L (C++[q]) l T' H' n W' (λ j=>if j=q then only T (looks ops o)else Tj j) (λ j=>if j=q then v else vj j) ι a w:=by
 obtain⟨o',ho',E,hed,-,hsp⟩:=I.split.cons;rw[ho]at ho';cases ho';have hq:q<ops.size:=(Array.getElem?_eq_some_iff.1 ho).1;have X:¬fZ L q:=λ h=>E (I.sub q h);have hdst:=D5 ho;have Y:=I.gN q hq X;have mem:∀{j},j∈C++[q]->j≠q->j∈C:=λ hj hne=>(List.mem_append.1 hj).elim id λ h=>absurd (List.mem_singleton.1 h) hne;have z:∀p∈C,¬bit pre q p:=λ p s hb=>by
  have hpo:ops[p]? =some ops[p]! :=by
   have:=I.rng p s;simp[this]
  exact E (o_ hp (S:=(· ∈C)) (λ j o hj ho=>I.uD j o hj ho) p _ hpo (I.uD p _ s hpo) q hb)
 have notSelf:¬bit pre q q:=λ hb=>E (o_ hp (S:=(· ∈C)) (λ j o hj ho=>I.uD j o hj ho) q _ ho hed q hb);have J:∀t,o.dst≠some t->T'.get t=T.get t:=λ t h=>by rw[hT,if_neg h]
 have O:∀b,b≠base+q->H'.get b=H.get b:=λ b hb=>by
  rcases hH with rfl|⟨_,ob,rfl⟩
  .rfl
  .rw[Tr.get_put,if_neg hb]
 have hlt:base+q<n:=by have:=I.room;omega
 refine⟨hsp,λ i hi=>List.mem_append_left _ (I.sub i hi),λ i hi=>?_,I.zY,λ i o' hi ho' e he hb=>?_,λ j o' hj hL ho'=>?_,?_,I.room,I.gN,λ j hj Z=>?_,λ t u hu hno=>?_,λ j hj hL d hd=>?_,λ j o' hj hL ho' t u hu=>?_,
  λ j o' hj hL ho' p s F hb d hd hdl=>?_,λ j o' hj hL ho'=>?_,I.size,I.defers,?_⟩
 .by_cases e:i=q
  .subst e;exact hq
  .exact I.rng i (mem hi e)
 .by_cases e':i=q
  .subst e';rw[ho]at ho';cases ho';exact List.mem_append_left _ (hed e he hb)
  .exact List.mem_append_left _ (I.uD i o' (mem hi e') ho' e he hb)
 .by_cases e:j=q
  .subst e;rw[ho]at ho';cases ho';exact hn
  .exact I.quiet j o' (mem hj e) hL ho'
 .rcases hH with rfl|⟨h0,ob,rfl⟩
  .exact I.rel
  .exact I.rel.grow Y hlt h0
 .have hne:j≠q:=λ e=>Z (by simp[e])
  rw[O _ (by omega)];exact I.EF j hj λ h=>Z (List.mem_append_left _ h)
 .have hne:o.dst≠some t:=by rw[<-hdst];exact hno q (by simp) X
  rw[J t hne]at hu;exact I.tmp t u hu λ j hj=>hno j (List.mem_append_left _ hj)
 .by_cases e:j=q
  .subst e
   rw[hdst]at hd;exact⟨by rw[hT,if_pos hd,if_pos rfl],hN d hd⟩
  .obtain⟨h1,h2⟩:=I.dst j (mem hj e) hL d hd
   have:=(oH ht hd e ho).1;exact⟨by rw[J d this,if_neg e];exact h1,h2⟩
 .by_cases e:j=q
  .subst e
   rw[ho]at ho';cases ho';rw[if_pos rfl,wQ]at hu;by_cases htl:t∈looks ops o
   .rw[if_pos htl]at hu
    refine⟨htl,λ hno=>I.tmp t u hu λ p s F hd=>?_⟩;have hpq:p≠j:=λ e=>E (e▸s);rcases(oH ht hd hpq ho).2 htl with hb|hb
    .exact hno p (List.mem_append_left _ s) F hb hd
    .exact z p s hb
   .rw[if_neg htl]at hu;cases hu
  .rw[if_neg e]at hu
   obtain⟨h1,h2⟩:=I.looked j o' (mem hj e) hL ho' t u hu;exact⟨h1,λ hno=>h2 λ p s=>hno p (List.mem_append_left _ s)⟩
 .by_cases e:j=q
  .subst e
   rw[ho]at ho';cases ho';have hpq:p≠j:=λ e=>notSelf (e▸hb);rw[if_pos rfl,if_neg hpq,wQ,if_pos hdl];exact(I.dst p (mem s hpq) F d hd).1
  .have hpq:p≠q:=λ e'=>z j (mem hj e) (e'▸hb)
   rw[if_neg e,if_neg hpq];exact I.before j o' (mem hj e) hL ho' p (mem s hpq) F hb d hd hdl
 .by_cases e:j=q
  .subst e
   rw[ho]at ho';cases ho';simp only[if_true];exact U
  .simp only[if_neg e]
   rcases I.waits j o' (mem hj e) hL ho' with h|⟨h1,h2⟩
   .exact .inl h
   .refine .inr ⟨h1,?_⟩
    rcases h2 with h2|⟨hrm,h2,x,hx,h3⟩|⟨ob,h2,h3⟩
    .exact .inl h2
    .refine .inr (.inl ⟨hrm,?_,x,hW x hx,h3⟩)
     rcases hH with rfl|⟨h0,ob,rfl⟩
     .exact h2
     .exact h2.grow h0
    .exact .inr (.inr ⟨ob,by rw[O _ (by omega)];exact h2,h3⟩)
 .rcases hH with rfl|⟨h0,ob,rfl⟩
  .exact I.step
  .exact I.step.grow Y (by omega)
theorem Inv.advance(hp:r9 ops.toList pre=true)(ht:r_ ops pre=true):∀(rest C:List Nat)(T:Te)(H:Hp)(W:List je)(Tj:Nat->Te)(vj:Nat->AV),
  Inv D P ops pre base N kH H0 w0 L C rest T H n W Tj vj ι a w->iy P bn alt0 call N ops pre base rest T H n W k=true->
  ∃C' rest' T' H' W' s z,Inv D P ops pre base N kH H0 w0 L C' rest' T' H' n W' s z ι a w∧iy P bn alt0 call N ops pre base rest' T' H' n W' k=true∧
   (∀i∈C,i∈C')∧(rest'=[]∨∃i l o,rest'=i::l∧ops[i]? =some o∧noisy o=true)
 |[],C,T,H,W,Tj,vj,I,h=>⟨C,[],T,H,W,Tj,vj,I,h,λ _ h=>h,.inl rfl⟩
 |q::l,C,T,H,W,Tj,vj,I,h=>by
  have h0:=h;unfold iy at h;split at h
  .cases h
  .rename_i o ho
   cases hn:noisy o with
   |true=>exact⟨C,q::l,T,H,W,Tj,vj,I,h0,λ _ h=>h,.inr ⟨q,l,o,rfl,ho,hn⟩⟩
   |false=>
    obtain⟨o',ho',F,hed,-,hsp⟩:=I.split.cons;have hq:q<ops.size:=(Array.getElem?_eq_some_iff.1 ho).1;obtain⟨wb,h1,hall,_⟩:=oF h
    have fin:∀{T' H' W' v},(∀t,T'.get t=if o.dst=some t then some v else T.get t)->(∀d,o.dst=some d->d<N)->
      (H'=H∨(H.get (base+q)=none∧∃ob,H'=H.put (base+q) (some ob)))->(∀x∈W,x∈W')->Waits P ops base o q (only T (looks ops o)) v H' W'->iy P bn alt0 call N ops pre base l T' H' n W' k=true->
      ∃C' rest' T' H' W' s z,Inv D P ops pre base N kH H0 w0 L C' rest' T' H' n W' s z ι a w∧iy P bn alt0 call N ops pre base rest' T' H' n W' k=true∧
       (∀i∈C,i∈C')∧(rest'=[]∨∃i l o,rest'=i::l∧ops[i]? =some o∧noisy o=true):=λ hT hN hH hW E hev=>by
     obtain⟨C',r',T2,H2,W2,J,O,I2,e2,s2,f2⟩:=Inv.advance hp ht l _ _ _ _ _ _ (I.OJ hp ht ho hn hT hN hH hW E) hev;exact⟨C',r',T2,H2,W2,J,O,I2,e2,λ i hi=>s2 i (List.mem_append_left _ hi),f2⟩
    have hwo:∀k':Bool->Bool,want bn ops (only T (looks ops o)) o k'=k' wb:=λ k'=>Ia.trans (hall k');cases wb with
    |false=>
     simp only[cond_false]at h1;obtain⟨T',e1,e2,e3⟩:=nN h1;exact fin e2 e3 (.inl rfl) (λ _ h=>h) (.inl ⟨by rw[hwo];rfl,rfl⟩) e1
    |true=>
     simp only[cond_true,hn,cond_false]at h1;rw[Bo (T':=only T (looks ops o)) λ t ht=>(zZ t ht).symm]at h1;have hw2:want bn ops (only T (looks ops o)) o (λ b=>b)=true:=by rw[hwo]
     obtain⟨v,⟨q1,q2⟩|⟨q0,-,ob,q1,q2⟩⟩:=Bn h1
     .obtain⟨T',e1,e2,e3⟩:=nN q1
      refine fin e2 e3 (.inl rfl) (λ x hx=>?_) (.inr ⟨hw2,?_⟩) e1
      .cases lW o
       .exact hx
       .exact List.mem_cons_of_mem _ hx
      .rcases q2 with q2|⟨q2,q3⟩
       .exact .inl q2
       .refine .inr (.inl ⟨q2,q3,⟨q,o,T,v⟩,?_,rfl,rfl,rfl,λ t ht=>(zZ t ht).symm⟩)
        rw[q2];exact List.mem_cons_self ..
     .obtain⟨T',e1,e2,e3⟩:=nN q1
      rw[q0]at e1;exact fin e2 e3 (.inr ⟨I.EF q hq F,ob,rfl⟩) (λ _ h=>h) (.inr ⟨hw2,.inr (.inr ⟨ob,by rw[Tr.get_put,if_pos rfl],q2⟩)⟩) e1
end
end Go.cK
end
section
namespace Go.cK
theorem Dv{P:Program}{H:Hp}:∀{W:List je},mH P H W=true->∀x∈W,cu P bn x.o x.T H 0 (λ v _=>lg 6 v x.v)=true
 |[],_,x,hx=>by cases hx
 |y::l,h,x,hx=>by
  simp only[mH,Bool.and_eq_true]at h;cases hx with
  |head=>exact h.1
  |tail _ hx=>exact Dv h.2 x hx
theorem Nc(bits:Nat)(y:je)(l:List je):keepW bits (y::l)=cond (bits.testBit y.i) (keepW bits l) (y::keepW bits l):=rfl
theorem OL{bits:Nat}{x:je}(hb:bits.testBit x.i=false):∀{W:List je},x∈W->x∈keepW bits W:=by
 intro W;induction W with
 |nil=>intro hx;cases hx
 |cons y l ih=>
  intro hx;rw[Nc];rcases List.mem_cons.1 hx with rfl|hx
  .rw[hb];exact List.mem_cons_self ..
  .cases bits.testBit y.i with
   |true=>exact ih hx
   |false=>exact List.mem_cons_of_mem _ (ih hx)
theorem Gv{L:Array Bool}{i j:Nat}(hi:i<L.size):fZ (L.setIfInBounds i true) j↔j=i∨fZ L j:=by
 unfold fZ;by_cases e:j=i
 .subst e;simp[hi]
 .rw[getD_set_ne false (Ne.symm e)];simp[e]
theorem yP{L:Array Bool}{i:Nat}(hi:i<L.size):L.getD i true=false↔¬fZ L i:=by
 unfold fZ;simp[hi]
section
variable {D:List Deferred} {P:Program} {call:FuncId->List AV->Hp->Nat->(AV->Hp->Nat->Bool)->Bool} {N base:Nat} {ops:Array Oper} {pre:List Nat} {k:Te->Hp->Nat->Bool} {kH:Pl} {H0:Hp} {w0:World}
theorem Inv.carry(hp:r9 ops.toList pre=true)(ht:r_ ops pre=true){L:Array Bool}{C rest:List Nat}{T:Te}{H:Hp}{n:Nat}{W:List je}{Tj:Nat->Te}{vj:Nat->AV}{ι:Pl}{a:Act}{w:World}
  (hL:L.size=ops.size)(I:Inv D P ops pre base N kH H0 w0 L C rest T H n W Tj vj ι a w){i:Nat}{o:Oper}(ho:ops[i]? =some o)(F:i∈C)(J:¬fZ L i)(hed:∀e∈o.after,binds e=true->fZ L e.on):
  ∃aV x w',(Region.wanted o (yielded ops a.tmps)=true∧Gives P o a w x w'∨Region.wanted o (yielded ops a.tmps)=false∧x=undef∧w'=w)∧
   Inv D P ops pre base N kH H0 w0 (L.setIfInBounds i true) C rest T H n W Tj vj aV (a.put o.dst x) w':=by
 have hi:i<ops.size:=I.rng i F;have hdst:=D5 ho;have hset:∀{j},fZ (L.setIfInBounds i true) j↔j=i∨fZ L j:=Gv (by rw[hL];exact hi);have hb:∀p,bit pre p i->fZ L p:=o_ hp (S:=fZ L) (λ j o hj ho=>I.zY j o hj ho) i o ho hed;have E:∀j,¬fZ L j->¬bit pre j i:=λ j hj hbj=>hj (hb j hbj);have htr:TR ι (Tj i) a:=λ t v hv=>(I.looked i o F J ho t v hv).2 λ p _ O hbp=>absurd hbp (E p O);have Z:∀{L2:Array Bool},(∀{j},fZ L2 j↔j=i∨fZ L j)->∀j o',fZ L2 j->ops[j]? =some o'->∀e∈o'.after,binds e=true->fZ L2 e.on:=λ h2 j o' hj ho' e he hbd=>by
  rcases h2.1 hj with rfl|hj
  .rw[ho]at ho';cases ho';exact h2.2 (.inr (hed e he hbd))
  .exact h2.2 (.inr (I.zY j o' hj ho' e he hbd))
 have fin:∀aV x w',ι.le aV->VR aV (vj i) x->Rel aV H n w'->(∀j,j<ops.size->j≠i->¬fZ L j->aV (base+j)=none)->Step kH H0 base w0 aV H n w'->
   Inv D P ops pre base N kH H0 w0 (L.setIfInBounds i true) C rest T H n W Tj vj aV (a.put o.dst x) w':=λ aV x w' hle hv0 hr hun hst=>by
  have z:∀{j},¬fZ (L.setIfInBounds i true) j->¬fZ L j:=λ h h'=>h (hset.2 (.inr h'));have aa:∀{j},¬fZ (L.setIfInBounds i true) j->j≠i:=λ h e=>h (hset.2 (.inl e));have U:∀t,o.dst≠some t->(a.put o.dst x).eval (.tmp t)=a.eval (.tmp t):=λ t hne=>by
   cases hd:o.dst with
   |none=>rfl
   |some d=>exact eval_put_ne λ e=>hne (by rw[hd,e])
  have X:∀t,o.dst=some t->(a.put o.dst x).eval (.tmp t)=x:=λ t he=>by
   rw[he];exact vG (Nat.lt_of_lt_of_le (I.dst i F J t (by rw[hdst];exact he)).2 I.size)
  refine⟨I.split,λ j hj=>?_,I.rng,Z hset,I.uD,λ j o' hj s=>I.quiet j o' hj (z s),hr,I.room,λ j hj s=>hun j hj (aa s) (z s),I.EF,λ t v hv hno=>?_,λ j hj s=>I.dst j hj (z s),
   λ j o' hj s ho' t v hv=>?_,λ j o' hj s ho' p Y O=>I.before j o' hj (z s) ho' p Y (z O),λ j o' hj s=>I.waits j o' hj (z s),by rw[qX];exact I.size,by rw[put_defers];exact I.defers,hst⟩
  .rcases hset.1 hj with rfl|hj
   .exact F
   .exact I.sub j hj
  .by_cases e:o.dst=some t
   .have:=(I.dst i F J t (by rw[hdst];exact e)).1
    rw[hv]at this;cases this;rw[X t e];exact hv0
   .rw[U t e]
    refine(I.tmp t v hv λ j hj s hd=>?_).mono hle;by_cases ej:j=i
    .subst ej;rw[hdst]at hd;exact e hd
    .exact hno j hj (λ h=>(hset.1 h).elim ej s) hd
  .obtain⟨h1,h2⟩:=I.looked j o' hj (z s) ho' t v hv
   refine⟨h1,λ hno=>?_⟩;by_cases e:o.dst=some t
   .rcases(oH ht (i:=i) (by rw[hdst];exact e) (Ne.symm (aa s)) ho').2 h1 with hbb|hbb
    .have:=I.before j o' hj (z s) ho' i F J hbb t (by rw[hdst];exact e) h1
     rw[hv]at this;cases this;rw[X t e];exact hv0
    .exact absurd hbb (E j (z s))
   .rw[U t e]
    refine(h2 λ p Y O hbp hd=>?_).mono hle;by_cases ep:p=i
    .subst ep;rw[hdst]at hd;exact e hd
    .exact hno p Y (λ h=>(hset.1 h).elim ep O) hbp hd
 rcases I.waits i o F J ho with⟨h1,h2⟩|⟨h1,h2⟩
 .obtain⟨b,hb1,-,hb2⟩:=oF h1
  have hb3:b=false:=by simpa using hb1
  subst hb3;exact⟨ι,undef,w,.inr ⟨hb2 ι a htr,rfl,rfl⟩,fin ι undef w (Pl.le_refl _) (by rw[h2];exact .tuple .nil) I.rel (λ j hj _ s=>I.gN j hj s) I.step⟩
 .obtain⟨b,hb1,-,hb2⟩:=oF h1
  have hb3:b=true:=hb1;subst hb3;have hw:=hb2 ι a htr;rcases h2 with h2|⟨_,h2,_⟩|⟨ob,h2,h3⟩
  .obtain⟨x,g,hv⟩:=h2 ι a w htr
   exact⟨ι,x,w,.inl ⟨hw,g⟩,fin ι x w (Pl.le_refl _) hv I.rel (λ j hj _ s=>I.gN j hj s) I.step⟩
  .obtain⟨x,g,hv⟩:=h2 ι a n w I.rel htr
   exact⟨ι,x,w,.inl ⟨hw,g⟩,fin ι x w (Pl.le_refl _) hv I.rel (λ j hj _ s=>I.gN j hj s) I.step⟩
  .obtain⟨x,obj,ac,g,h4⟩:=h3 ι a w htr
   have hid:=I.gN i hi J;have hlt:base+i<n:=by have:=I.room;omega
   obtain⟨hv,ab⟩:=h4 (ι.upd (base+i) (w.heap.size,0,ac)) H (Pl.rT _ hid) (Pl.iD _ _ _);exact⟨_,x,_,.inl ⟨hw,g⟩,fin _ x _ (Pl.rT _ hid) hv (I.rel.born hid hlt h2 ab) (λ j hj hne s=>by rw[Pl.upd_ne _ _ (by omega)];exact I.gN j hj s) (I.step.born hid (by omega))⟩
end
end Go.cK
end
section
namespace Go.cK
section
variable {D:List Deferred} {P:Program} {call:FuncId->List AV->Hp->Nat->(AV->Hp->Nat->Bool)->Bool} {N base:Nat} {ops:Array Oper} {pre:List Nat} {k:Te->Hp->Nat->Bool} {kH:Pl} {H0:Hp} {w0:World}
theorem Nf{o:Oper}{x:je}{Tj:Te}{v:AV}{H':Hp}(hrm:lW o=true)(h:cu P bn x.o x.T H' 0 (λ u _=>lg 6 u x.v)=true)(ho:x.o=o)(hv:x.v=v)
  (hag:∀t,Operand.tmp t∈o.op.operands->x.T.get t=Tj.get t):Jk P o Tj v∨zX P o Tj H' v:=by
 subst ho hv;rw[Bo hag]at h;obtain⟨u,⟨h1,h2⟩|⟨h0,_⟩⟩:=Bn h
 .have:=nk h1
  subst this;exact h2.imp id And.right
 .rw[hrm]at h0;cases h0
theorem Inv.ready(hp:r9 ops.toList pre=true)(ht:r_ ops pre=true){L:Array Bool}{C l:List Nat}{i:Nat}{T:Te}{H:Hp}{n:Nat}{W:List je}{Tj:Nat->Te}{vj:Nat->AV}{ι:Pl}{a:Act}{w:World}
  (I:Inv D P ops pre base N kH H0 w0 L C (i::l) T H n W Tj vj ι a w){o:Oper}(ho:ops[i]? =some o)(hed:∀e∈o.after,binds e=true->fZ L e.on):TR ι (only T (looks ops o)) a:=λ t v hv=>by
 obtain⟨o',ho',z,hedC,-,hsp⟩:=I.split.cons;rw[ho]at ho';cases ho';rw[wQ]at hv;by_cases hl:t∈looks ops o
 .rw[if_pos hl]at hv
  refine I.tmp t v hv λ p s E hd=>?_;have hpi:p≠i:=λ e=>z (e▸s);rcases(oH ht hd hpi ho).2 hl with hb|hb
  .exact E (o_ hp (S:=fZ L) (λ j o hj ho=>I.zY j o hj ho) i o ho hed p hb)
  .have hpo:ops[p]? =some ops[p]! :=by
    have:=I.rng p s;simp[this]
   exact z (o_ hp (S:=(· ∈C)) (λ j o hj ho=>I.uD j o hj ho) p _ hpo (I.uD p _ s hpo) i hb)
 .rw[if_neg hl]at hv;cases hv
theorem Inv.loud(hp:r9 ops.toList pre=true)(ht:r_ ops pre=true){L:Array Bool}{C l:List Nat}{i:Nat}{T:Te}{H:Hp}{n:Nat}{W:List je}{Tj:Nat->Te}{vj:Nat->AV}{ι:Pl}{a:Act}{w:World}
  (hL:L.size=ops.size)(I:Inv D P ops pre base N kH H0 w0 L C (i::l) T H n W Tj vj ι a w){o:Oper}(ho:ops[i]? =some o)(hiL:¬fZ L i)(hed:∀e∈o.after,binds e=true->fZ L e.on)
  {v:AV}{x:Value}{T':Te}{H':Hp}{n':Nat}{W':List je}{aV:Pl}{w':World}(hT:∀t,T'.get t=if o.dst=some t then some v else T.get t)(hN:∀d,o.dst=some d->d<N)
  (hv:VR aV v x)(hr:Rel aV H' n' w')(hst:Step ι H n w aV H' n' w')(hW:∀x∈W,¬bit pre x.i i->x∈W')(hch:H'=H∨∀x∈W',cu P bn x.o x.T H' 0 (λ u _=>lg 6 u x.v)=true):
  Inv D P ops pre base N kH H0 w0 (L.setIfInBounds i true) (C++[i]) l T' H' n' W' Tj vj aV (a.put o.dst x) w':=by
 obtain⟨o',ho',Y,ae,-,hsp⟩:=I.split.cons;rw[ho]at ho';cases ho';have hi:i<ops.size:=(Array.getElem?_eq_some_iff.1 ho).1;have hdst:=D5 ho;have hset:∀{j},fZ (L.setIfInBounds i true) j↔j=i∨fZ L j:=Gv (by rw[hL];exact hi);have z:∀{j},¬fZ (L.setIfInBounds i true) j->¬fZ L j:=λ h h'=>h (hset.2 (.inr h'));have F:∀{j},¬fZ (L.setIfInBounds i true) j->j≠i:=λ h e=>h (hset.2 (.inl e));have mem:∀{j},j∈C++[i]->j≠i->j∈C:=λ hj hne=>(List.mem_append.1 hj).elim id λ h=>absurd (List.mem_singleton.1 h) hne;have J:∀j,¬fZ L j->¬bit pre j i:=λ j hj hb=>hj (o_ hp (S:=fZ L) (λ j o hj ho=>I.zY j o hj ho) i o ho hed j hb);have U:∀p∈C,¬bit pre i p:=λ p O hb=>by
  have hpo:ops[p]? =some ops[p]! :=by
   have:=I.rng p O;simp[this]
  exact Y (o_ hp (S:=(· ∈C)) (λ j o hj ho=>I.uD j o hj ho) p _ hpo (I.uD p _ O hpo) i hb)
 have Z:∀j,j<ops.size->¬fZ L j->aV (base+j)=none∧H'.get (base+j)=H.get (base+j):=λ j hj s=>
  hst.gN _ (by have:=I.room;omega) (I.gN j hj s)
 have aa:∀t,o.dst≠some t->(a.put o.dst x).eval (.tmp t)=a.eval (.tmp t):=λ t hne=>by
  cases hd:o.dst with
  |none=>rfl
  |some d=>exact eval_put_ne λ e=>hne (by rw[hd,e])
 refine⟨hsp,λ j hj=>?_,λ j hj=>?_,λ j o' hj ho' e he hb=>?_,λ j o' hj ho' e he hb=>?_,λ j o' hj s=>I.quiet j o' (mem hj (F s)) (z s),hr,Nat.le_trans I.room hst.num,λ j hj s=>(Z j hj (z s)).1,
  λ j hj E=>?_,λ t u hu hno=>?_,λ j hj s d hd=>?_,λ j o' hj s ho' t u hu=>?_,λ j o' hj s ho' p O X=>I.before j o' (mem hj (F s)) (z s) ho' p (mem O (F X)) (z X),λ j o' hj s ho'=>?_,
  by rw[qX];exact I.size,by rw[put_defers];exact I.defers,I.step.trans hst⟩
 .rcases hset.1 hj with rfl|hj
  .simp
  .exact List.mem_append_left _ (I.sub j hj)
 .by_cases e:j=i
  .subst e;exact hi
  .exact I.rng j (mem hj e)
 .rcases hset.1 hj with rfl|hj
  .rw[ho]at ho';cases ho';exact hset.2 (.inr (hed e he hb))
  .exact hset.2 (.inr (I.zY j o' hj ho' e he hb))
 .by_cases e':j=i
  .subst e';rw[ho]at ho';cases ho';exact List.mem_append_left _ (ae e he hb)
  .exact List.mem_append_left _ (I.uD j o' (mem hj e') ho' e he hb)
 .have ab:j∉C:=λ h=>E (List.mem_append_left _ h)
  rw[(Z j hj λ h=>ab (I.sub j h)).2];exact I.EF j hj ab
 .rw[hT]at hu
  by_cases e:o.dst=some t
  .rw[if_pos e]at hu
   cases hu;rw[e,vG (Nat.lt_of_lt_of_le (hN t e) I.size)];exact hv
  .rw[if_neg e]at hu
   rw[aa t e];exact(I.tmp t u hu λ j hj s=>hno j (List.mem_append_left _ hj) λ h=>(hset.1 h).elim (λ e=>Y (e▸hj)) s).mono hst.le
 .have E:=mem hj (F s)
  obtain⟨h1,h2⟩:=I.dst j E (z s) d hd;have:=(oH ht hd (F s) ho).1;exact⟨by rw[hT,if_neg this];exact h1,h2⟩
 .have E:=mem hj (F s)
  obtain⟨h1,h2⟩:=I.looked j o' E (z s) ho' t u hu;refine⟨h1,λ hno=>?_⟩;have hne:o.dst≠some t:=λ e=>by
   rcases(oH ht (i:=i) (by rw[hdst];exact e) (Ne.symm (F s)) ho').2 h1 with hb|hb
   .exact U j E hb
   .exact J j (z s) hb
  rw[aa t hne];exact(h2 λ p O X=>hno p (List.mem_append_left _ O) λ h=>(hset.1 h).elim (λ e=>Y (e▸O)) X).mono hst.le
 .have E:=mem hj (F s)
  rcases I.waits j o' E (z s) ho' with h|⟨h1,h2⟩
  .exact .inl h
  .refine .inr ⟨h1,?_⟩
   rcases h2 with h2|⟨hrm,h2,y,hy,y1,y2,y3,y4⟩|⟨ob,h2,h3⟩
   .exact .inl h2
   .have ac:y∈W':=hW y hy (by rw[y1];exact J j (z s))
    rcases hch with rfl|hch
    .exact .inr (.inl ⟨hrm,h2,y,ac,y1,y2,y3,y4⟩)
    .rcases Nf hrm (hch y ac) y2 y3 y4 with h|h
     .exact .inl h
     .exact .inr (.inl ⟨hrm,h,y,ac,y1,y2,y3,y4⟩)
   .exact .inr (.inr ⟨ob,by rw[(Z j (I.rng j E) (z s)).2];exact h2,h3⟩)
def left(ops:Array Oper)(L:Array Bool):List Nat:=(List.range ops.size).filter λ i=> !L.getD i false
theorem Rq{L:Array Bool}{i:Nat}(hL:L.size=ops.size)(hi:i<ops.size)(hn:¬fZ L i):(left ops (L.setIfInBounds i true)).length<(left ops L).length:=by
 have e:left ops (L.setIfInBounds i true)=(left ops L).filter λ j=> !(L.setIfInBounds i true).getD j false:=by
  unfold left;rw[List.filter_filter];congr 1;funext j;cases h:(L.setIfInBounds i true).getD j false with
  |true=>rfl
  |false=>
   have:¬fZ L j:=λ hj=>by
    have:fZ (L.setIfInBounds i true) j:=(Gv (by rw[hL];exact hi)).2 (.inr hj);unfold fZ at this;rw[h]at this;cases this
   unfold fZ at this;simp at this|-
   exact this
 rw[e,List.length_filter_lt_length_iff_exists];refine⟨i,?_,?_⟩
 .unfold left
  rw[List.mem_filter];unfold fZ at hn;exact⟨by simpa using hi,by simpa using hn⟩
 .simp[hL,hi]
theorem Ng(hp:r9 ops.toList pre=true){L:Array Bool}(hL:L.size=ops.size)(hr:Region.ready .any ops L=[]):∀i,i<ops.size->fZ L i:=by
 intro i;induction i using Nat.strongRecOn with
 |_ i ih=>
  intro hi;by_cases h:fZ L i
  .exact h
  .exfalso
   have:i∈Region.ready .any ops L:=mem_ready.2 ⟨(yP (by omega)).2 h,ops[i],Array.getElem?_eq_getElem hi,λ e he hb=>ih e.on ((zW hp (Array.getElem?_eq_getElem hi)).1 e he hb) (by
    have:=(zW hp (Array.getElem?_eq_getElem hi)).1 e he hb;omega)⟩
   rw[hr]at this;cases this
theorem Rs(hc:rY P call)(hp:r9 ops.toList pre=true)(ht:r_ ops pre=true){Q:Exit->Act->World->Prop}
  (hQ:∀aV T' H' n' a' w',k T' H' n'=true->SR D aV T' H' n' N a' w'->Step kH H0 base w0 aV H' n' w'->Q .normal a' w'):
  ∀(fuel:Nat)(L:Array Bool)(C rest:List Nat)(T:Te)(H:Hp)(n:Nat)(W:List je)(Tj:Nat->Te)(vj:Nat->AV)(ι:Pl)(a:Act)(w:World),
   L.size=ops.size->(left ops L).length≤fuel->Inv D P ops pre base N kH H0 w0 L C rest T H n W Tj vj ι a w->iy P bn alt0 call N ops pre base rest T H n W k=true->wpAny P .any ops Q fuel L a w:=by
 intro fuel;induction fuel with
 |zero=>
  intro L C rest T H n W Tj vj ι a w hL hf I h;have h0:left ops L=[]:=List.eq_nil_of_length_eq_zero (by omega);have hall:∀i,i<ops.size->fZ L i:=λ i hi=>by
   by_cases hl:fZ L i
   .exact hl
   .have:i∈left ops L:=by
     unfold left;rw[List.mem_filter];unfold fZ at hl;exact⟨by simpa using hi,by simpa using hl⟩
    rw[h0]at this;cases this
  have hr:Region.ready .any ops L=[]:=by
   cases hr:Region.ready .any ops L with
   |nil=>rfl
   |cons i l=>
    have hm:i∈Region.ready .any ops L:=by rw[hr];exact List.mem_cons_self ..
    obtain⟨h1,o,ho,_⟩:=mem_ready.1 hm;have hi:=(Array.getElem?_eq_some_iff.1 ho).1;exact absurd (hall i hi) ((yP (by omega)).1 h1)
  refine⟨hr,?_⟩;cases rest with
  |nil=>exact hQ ι T H n a w h ⟨I.rel,λ t v hv=>I.tmp t v hv λ j hj z=>absurd (hall j (I.rng j hj)) z,I.size,I.defers⟩ I.step
  |cons i l=>
   obtain⟨o,ho,hi,_⟩:=I.split.cons;exact absurd (I.sub i (hall i (Array.getElem?_eq_some_iff.1 ho).1)) hi
 |succ fuel ih=>
  intro L C rest T H n W Tj vj ι a w hL hf I h;obtain⟨C,rest,T,H,W,Tj,vj,I,h,-,hh⟩:=I.advance hp ht _ _ _ _ _ _ _ h;refine⟨λ hr=>?_,λ i him=>?_⟩
  .have hall:=Ng hp hL hr
   cases rest with
   |nil=>exact hQ ι T H n a w h ⟨I.rel,λ t v hv=>I.tmp t v hv λ j hj z=>absurd (hall j (I.rng j hj)) z,I.size,I.defers⟩ I.step
   |cons i l=>
    obtain⟨o,ho,hi,_⟩:=I.split.cons;exact absurd (I.sub i (hall i (Array.getElem?_eq_some_iff.1 ho).1)) hi
  .obtain⟨h1,o,ho,hed⟩:=mem_ready.1 him
   have hi:=(Array.getElem?_eq_some_iff.1 ho).1;have s:¬fZ L i:=(yP (by omega)).1 h1;have hed:∀e∈o.after,binds e=true->fZ L e.on:=hed;have hL':(L.setIfInBounds i true).size=ops.size:=by simpa using hL
   have hf':(left ops (L.setIfInBounds i true)).length≤fuel:=by have:=Rq hL hi s;omega
   unfold wpOp;simp only[ho];by_cases E:i∈C
   .obtain⟨aV,x,w',hor,I'⟩:=I.carry hp ht hL ho E s hed
    have hK:=ih _ _ _ _ _ _ _ _ _ _ _ _ hL' hf' I' h;rcases hor with⟨hw,g⟩|⟨hw,rfl,rfl⟩
    .rw[if_pos hw]
     left;unfold Oper.wp;unfold Gives at g;rw[g];exact hK
    .rw[if_neg (by rw[hw];simp)]
     exact hK
   ·
     rcases hh with rfl|⟨i',l,o',rfl,ho',hno⟩
     .exact absurd ((I.split.all i hi).elim id λ h=>by cases h) E
     .have hii:i=i':=by
       by_cases e:i=i'
       .exact e
       .exfalso
        have hir:i∈i'::l:=(I.split.all i hi).resolve_left E;have hil:i∈l:=(List.mem_cons.1 hir).resolve_left e;obtain⟨o2,ho2,hi2,-,hbar,-⟩:=I.split.cons;rw[ho']at ho2;cases ho2;have hb:=hbar hno i hil;exact hi2 (I.sub i' (o_ hp (S:=fZ L) (λ j o hj ho=>I.zY j o hj ho) i o ho hed i' hb))
      subst hii;rw[ho]at ho';cases ho';have htr:=I.ready hp ht ho hed;unfold iy at h;simp only[ho]at h;obtain⟨wb,h2,hall,-⟩:=oF h;have hwo:want bn ops (only T (looks ops o)) o (λ b=>b==wb)=true:=by rw[Ia,hall];simp
      obtain⟨b,hb1,-,hb2⟩:=oF hwo;have hbw:b=wb:=by simpa using hb1
      subst hbw;have hw:=hb2 ι a htr;cases b with
      |false=>
       rw[if_neg (by rw[hw];simp)];simp only[cond_false]at h2;obtain⟨T',e1,e2,e3⟩:=nN h2;exact ih _ _ _ _ _ _ _ _ _ _ _ _ hL' hf' (I.loud hp ht hL ho s hed e2 e3 (.tuple .nil) I.rel (Step.refl _ _ _ _) (λ x hx _=>hx) (.inl rfl)) e1
      |true=>
       rw[if_pos hw];left;simp only[cond_true,hno]at h2;rw[Ht (T':=only T (looks ops o)) λ t ht=>(zZ t ht).symm]at h2;refine H8 hc h2 (by rw[hno];rfl) ι a w _ _ I.rel htr λ aV v x H' n' w' hk hv hr hst=>?_;cases hcw:mH P H' (keepW (pre.getD i 0) W)with
       |false=>
        have hk:(bif mH P H' (keepW (pre.getD i 0) W)then lV bn N o.dst v T λ T'=>iy P bn alt0 call N ops pre base l T' H' n' (keepW (pre.getD i 0) W) k else bn "")=true:=hk;rw[hcw]at hk;exact Bool.noConfusion hk
       |true=>
        have hk:(bif mH P H' (keepW (pre.getD i 0) W)then lV bn N o.dst v T λ T'=>iy P bn alt0 call N ops pre base l T' H' n' (keepW (pre.getD i 0) W) k else bn "")=true:=hk;rw[hcw]at hk;simp only[cond_true]at hk;obtain⟨T',e1,e2,e3⟩:=nN hk;exact ih _ _ _ _ _ _ _ _ _ _ _ _ hL' hf' (I.loud hp ht hL ho s hed e2 e3 hv hr hst (λ y hy hny=>OL (by unfold bit at hny;simpa using hny) hy) (.inr (Dv hcw))) e1
theorem Nh(hc:rY P call)(hm:P.follows .mixedOrders=true)(hp:tJ ops=true){Q:Exit->Act->World->Prop}{id n:Nat}{T:Te}{H:Hp}{ι:Pl}{a:Act}{w:World}
  (h:iy P bn alt0 call N ops (rz ops) n (z_ ops.toList (rz ops)) T H (n+ops.size) [] k=true)(hs:SR D ι T H n N a w)
  (hQ:∀aV T' H' n' a' w',k T' H' n'=true->SR D aV T' H' n' N a' w'->Step ι H n w aV H' n' w'->Q .normal a' w'):(Code.region id ops true).wp P Q a w:=by
 simp only[tJ,Bool.and_eq_true]at hp;obtain⟨⟨hp,ht⟩,hsteps⟩:=hp;refine wp_region_any hm ?_;have hno:∀i,¬fZ (Array.replicate ops.size false) i:=λ i=>by
  unfold fZ;by_cases hi:i<ops.size<;>simp[hi]
 refine Rs (pre:=rz ops) (kH:=ι) (H0:=H) (w0:=w) (base:=n) hc hp ht hQ ops.size _ [] _ T H (n+ops.size) [] (λ _=>T) (λ _=>iM) ι a _ (by simp) ?_ ?_ h
 .unfold left
  exact Nat.le_trans (List.length_filter_le ..) (by simp)
 .exact⟨⟨0,λ j=>by simp,hsteps⟩,λ i hi=>absurd hi (hno i),λ i hi=>(by cases hi),λ i o hi=>absurd hi (hno i),λ i o hi=>(by cases hi),λ j o hj=>(by cases hj),
   ⟨(hs.rel.bump (Nat.le_add_right n ops.size)).fresh,(hs.rel.drew).ob,hs.rel.inj⟩,Nat.le_refl _,λ j hj _=>(hs.rel.fresh _ (by omega)).1,λ j hj _=>(hs.rel.fresh _ (by omega)).2,λ t v hv _=>hs.tmp t v hv,
   λ j hj=>(by cases hj),λ j o hj=>(by cases hj),λ j o hj=>(by cases hj),λ j o hj=>(by cases hj),hs.size,hs.defers,((Step.refl ι H n w).bump (Nat.le_add_right n ops.size)).drew⟩
end
end Go.cK
end
section
namespace Go.cK
section
variable {D:List Deferred} {P:Program} {call:FuncId->List AV->Hp->Nat->(AV->Hp->Nat->Bool)->Bool} {N R:Nat}
def JN:AX->Exit
 | .normal=> .normal
 | .exit i=> .exit i
 | .ret=> .ret
def Sound(D:List Deferred)(P:Program)(N:Nat)(c:Code)(ev:Te->Hp->Nat->(AX->Te->Hp->Nat->Bool)->Bool):Prop:=
 ∀T H n k,ev T H n k=true->∀ι a w (Q:Exit->Act->World->Prop),SR D ι T H n N a w->
  (∀aV ae T' H' n' a' w',k ae T' H' n'=true->SR D aV T' H' n' N a' w'->Step ι H n w aV H' n' w'->Q (JN ae) a' w')->c.wp P Q a w
theorem Bu{c:Code}{ev:Te->Hp->Nat->(AX->Te->Hp->Nat->Bool)->Bool}(hs:Sound D P N c ev):∀(m:Nat) T H n k,wT bn ev m T H n k=true->∀ι a w (Q:Exit->Act->World->Prop),SR D ι T H n N a w->
  (∀aV ae T' H' n' a' w',k ae T' H' n'=true->SR D aV T' H' n' N a' w'->Step ι H n w aV H' n' w'->Q (JN ae) a' w')->Code.rounds P c Q m a w
 |0,T,H,n,k,h,ι,a,w,Q,hsr,hQ=>Bool.noConfusion h
 |m+1,T,H,n,k,h,ι,a,w,Q,hsr,hQ=>by
  have h:ev T H n (λ ae T H n=>match ae with| .normal=>wT bn ev m T H n k|e=>k e T H n)=true:=h;rw[rounds_succ];refine hs T H n _ h ι a w _ hsr λ aV ae T' H' n' a' w' hk s hst=>?_;cases ae with
  |normal=>exact Bu hs m T' H' n' k hk aV a' w' Q s λ z ae T2 H2 n2 a2 w2 hk2 s2 st2=>hQ z ae T2 H2 n2 a2 w2 hk2 s2 (hst.trans st2)
  |exit i=>exact hQ aV _ T' H' n' a' w' hk s hst
  |ret=>exact hQ aV _ T' H' n' a' w' hk s hst
theorem JO(hc:rY P call)(hm:P.follows .mixedOrders=true)(id:Nat)(ops:Array Oper)(draw:Bool):
  Sound D P N (.region id ops draw) (λ T H n k=>wS P bn alt0 call N ops draw T H n λ T H n=>k .normal T H n):=by
 intro T H n k h ι a w Q hsr hQ;unfold wS at h;cases draw with
 |true=>
  simp only[cond_true]at h;cases hp:tJ ops with
  |false=>rw[hp]at h;exact Bool.noConfusion h
  |true=>
   rw[hp]at h;simp only[cond_true,dO]at h;exact Nh hc hm hp h hsr λ aV T' H' n' a' w' hk s st=>hQ aV .normal T' H' n' a' w' hk s st
 |false=>
  simp only[cond_false]at h;refine wp_region ?_;rw[List.range_eq_range'];exact H_ hc ops.size 0 T H n ι a w (by omega) (by simpa using h) hsr λ aV T' H' n' a' w' hk s st=>hQ aV .normal T' H' n' a' w' hk s st
theorem EG(hc:rY P call)(hm:P.follows .mixedOrders=true)(c:Code):Sound D P N c (uN P bn alt0 call N R c):=by
 induction c with
 |skip=>exact λ T H n k h ι a w Q hsr hQ=>wp_skip (hQ ι .normal T H n a w h hsr (Step.refl _ _ _ _))
 |region id ops draw=>exact JO hc hm id ops draw
 |seq x y E ihy=>
  intro T H n k h ι a w Q hsr hQ;refine wp_seq (E T H n _ h ι a w _ hsr λ aV ae T' H' n' a' w' hk z hst=>?_);cases ae with
  |normal=>exact ihy T' H' n' k hk aV a' w' Q z λ F ae T2 H2 n2 a2 w2 hk2 s2 st2=>hQ F ae T2 H2 n2 a2 w2 hk2 s2 (hst.trans st2)
  |exit i=>exact hQ aV _ T' H' n' a' w' hk z hst
  |ret=>exact hQ aV _ T' H' n' a' w' hk z hst
 |cond c x y E ihy=>
  intro T H n k h ι a w Q hsr hQ;have h:eZ bn T c (λ v=>match v with| .bool true=>uN P bn alt0 call N R x T H n k| .bool false=>uN P bn alt0 call N R y T H n k|_=>bn "cond")=true:=h;obtain⟨v,h1,-,r1⟩:=bR h;have hv:=r1 ι a hsr.tmp;split at h1
  .refine wp_cond_true ?_ (E T H n k h1 ι a w Q hsr hQ)
   generalize a.eval c=X at hv|-
   cases hv;rfl
  .refine wp_cond_false ?_ (ihy T H n k h1 ι a w Q hsr hQ)
   generalize a.eval c=X at hv|-
   cases hv;rfl
  .cases h1
 |block id c ih=>
  intro T H n k h ι a w Q hsr hQ;refine wp_block (ih T H n _ h ι a w _ hsr λ aV ae T' H' n' a' w' hk z hst=>?_);cases ae with
  |normal=>exact hQ aV .normal T' H' n' a' w' hk z hst
  |ret=>exact hQ aV .ret T' H' n' a' w' hk z hst
  |exit i=>
   simp only[JN,Exit.inBlock];have hk:cond (Nat.beq i id) (k .normal T' H' n') (k (.exit i) T' H' n')=true:=hk;cases hb:Nat.beq i id with
   |true=>
    rw[hb]at hk;rw[if_pos (Nat.eq_of_beq_eq_true hb)];exact hQ aV .normal T' H' n' a' w' hk z hst
   |false=>
    rw[hb]at hk;rw[if_neg (Nat.ne_of_beq_eq_false hb)];exact hQ aV (.exit i) T' H' n' a' w' hk z hst
 |loop c ih=>
  intro T H n k h ι a w Q hsr hQ;exact wp_loop_rounds R (Bu ih R T H n k h ι a w Q hsr hQ)
 |exit id=>exact λ T H n k h ι a w Q hsr hQ=>wp_exit (hQ ι (.exit id) T H n a w h hsr (Step.refl _ _ _ _))
 |label l=>exact λ T H n k h ι a w Q hsr hQ=>wp_label (hQ ι .normal T H n a w h hsr (Step.refl _ _ _ _))
 |ret=>exact λ T H n k h ι a w Q hsr hQ=>wp_ret (hQ ι .ret T H n a w h hsr (Step.refl _ _ _ _))
 |rangeFunc f ps x y E ihy=>exact λ T H n k h=>Bool.noConfusion h
 |scope c ih=>exact λ T H n k h=>Bool.noConfusion h
 |goto l=>exact λ T H n k h=>Bool.noConfusion h
 |refuse s=>exact λ T H n k h=>Bool.noConfusion h
end
end Go.cK
end
