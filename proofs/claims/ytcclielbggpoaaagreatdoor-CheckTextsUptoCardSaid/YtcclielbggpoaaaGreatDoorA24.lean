/- Part of the proof of CheckTexts (see the last text). -/
import Derived.Laws.AppendOwn
import Derived.Lib.OthersKept
import Derived.MapKept
import Derived.Maps.RangeRun
import Derived.Test.YtcclielbggpoaaaGreatDoorA23
set_option linter.all false
section
namespace Go.cK
structure FL(d:Nat)where
 run:E d->(List AV->Bool)->Bool
structure Zu(d:Nat)where
 run:E d->(List (Nat×AV)->Bool)->Bool
structure FB where
 run:AV->AV->(AV->Bool)->Bool
section
variable {d:Nat} {e:E d} {T:Te} {H:Hp} {id:Nat} {P:Program}
noncomputable def Mr(d:Nat):List Operand->FL d
 |[]=>⟨λ _ k=>k []⟩
 |o::l=>⟨λ e k=>(cX d o).run e λ v=>(Mr d l).run e λ vs=>k (v::vs)⟩
theorem J2(h:RE d e T):∀(l:List Operand)(k:List AV->Bool),(Mr d l).run e k=qz bn T l k
 |[],k=>rfl
 |o::l,k=>by
  show(cX d o).run e (λ v=>(Mr d l).run e λ vs=>k (v::vs))=eZ bn T o λ v=>qz bn T l λ vs=>k (v::vs);rw[fF h];congr 1;funext v;exact J2 h l _
noncomputable def OT(d:Nat):List (Nat×Operand)->Zu d
 |[]=>⟨λ _ k=>k []⟩
 |o::l=>⟨λ e k=>(cX d o.2).run e λ v=>(OT d l).run e λ vs=>k ((o.1,v)::vs)⟩
theorem J3(h:RE d e T):∀(l:List (Nat×Operand))(k:List (Nat×AV)->Bool),(OT d l).run e k=wO bn T l k
 |[],k=>rfl
 |(i,o)::l,k=>by
  show(cX d o).run e (λ v=>(OT d l).run e λ vs=>k ((i,v)::vs))=eZ bn T o λ v=>wO bn T l λ vs=>k ((i,v)::vs);rw[fF h];congr 1;funext v;exact J3 h l _
structure Zv(d:Nat)where
 run:E d->(Option AV->Bool)->Bool
noncomputable def OU(d:Nat)(o:Option Operand):Zv d:=
 match o with
 |none=>⟨λ _ k=>k none⟩
 |some x=>⟨λ e k=>(cX d x).run e λ v=>k (some v)⟩
theorem OW(h:RE d e T)(o:Option Operand)(k:Option AV->Bool):(OU d o).run e k=wP bn T o k:=by
 cases o with
 |none=>rfl
 |some x=>exact fF h x _
noncomputable def i2(x y:Int)(f:Nat->Nat->Bool)(g:Bool):Bool:=Int.rec (λ a=>Int.rec (λ b=>f a b) (λ _=>g) y) (λ _=>g) x
noncomputable def OX(a b:Nat):Bool:=Nat.rec (Nat.blt 0 b) (λ m _=>Nat.blt (Nat.succ m) b) a
theorem VB(a b:Nat):OX a b=Nat.blt a b:=by cases a<;>rfl
noncomputable def J4(P:Program)(op:BinOp)(t:TypeId)(xo yo:Operand):FB:=
 match op with
 | .add=>⟨λ x y k=>go x y k λ kd a b=>i2 a b (λ a b=>vN (Nat.add a b) λ r=>Bool.rec (vF (oQ kd (.ofNat r)) λ r=>k (.int kd r)) (k (.int kd (.ofNat r))) (Nat.blt r (jC kd))) (xY bn .add kd a b k)⟩
 | .lss=>⟨λ x y k=>go x y k λ _ a b=>i2 a b (λ a b=>k (.bool (OX a b))) (k (.bool (vB a b)))⟩
 | .gtr=>⟨λ x y k=>go x y k λ _ a b=>i2 a b (λ a b=>k (.bool (OX b a))) (k (.bool (vB b a)))⟩
 | .leq=>⟨λ x y k=>go x y k λ _ a b=>i2 a b (λ a b=>k (.bool (!OX b a))) (k (.bool (!vB b a)))⟩
 | .geq=>⟨λ x y k=>go x y k λ _ a b=>i2 a b (λ a b=>k (.bool (!OX a b))) (k (.bool (!vB a b)))⟩
 | .eql=>⟨λ x y k=>go x y k λ _ a b=>i2 a b (λ a b=>k (.bool (Nat.beq a b))) (k (.bool (wK a b)))⟩
 | .neq=>⟨λ x y k=>go x y k λ _ a b=>i2 a b (λ a b=>k (.bool (!Nat.beq a b))) (k (.bool (!wK a b)))⟩
 |_=>⟨λ x y k=>rM P bn op t xo yo x y k⟩
where
 go (x y:AV) (k:AV->Bool) (f:IntKind->Int->Int->Bool):Bool:=
  ints x y (λ kd kd' a b=>Bool.rec false (f kd a b) (Nat.beq (Ml kd) (Ml kd'))) (rM P bn op t xo yo x y k)
 ints (x y:AV) (f:IntKind->IntKind->Int->Int->Bool) (g:Bool):Bool:=
  match x with
  | .int kd a=>(match y with
    | .int kd' b=>f kd kd' a b
    |_=>g)
  |_=>g
theorem YP(kd kd':IntKind)(x:Bool):(Bool.rec false x (Nat.beq (Ml kd) (Ml kd')):Bool)=if kd=kd' then x else false:=by
 rw[Vu];by_cases h:kd=kd'
 .rw[decide_eq_true h,if_pos h]
 .rw[decide_eq_false h,if_neg h]
theorem go_eq(op:BinOp)(t:TypeId)(xo yo:Operand)(x y:AV)(k:AV->Bool)(f:IntKind->Int->Int->Bool)(hs:op≠ .shl∧op≠ .shr)(hf:∀kd a b,f kd a b=xY bn op kd a b k):
  J4.go P op t xo yo x y k f=rM P bn op t xo yo x y k:=by
 unfold J4.go J4.ints;cases x<;>try rfl
 cases y<;>try rfl
 rename_i kd a kd' b;simp only;rw[YP,hf];unfold rM;cases op<;>first|rfl|exact absurd rfl hs.1|exact absurd rfl hs.2
theorem X9(x y:Int)(f:Nat->Nat->Bool)(g:Bool)(h:∀a b,x= .ofNat a->y= .ofNat b->f a b=g):i2 x y f g=g:=by
 cases x with
 |ofNat a=>cases y with
  |ofNat b=>exact h a b rfl rfl
  |negSucc b=>rfl
 |negSucc a=>rfl
theorem Uh(op:BinOp)(t:TypeId)(xo yo:Operand)(x y:AV)(k:AV->Bool):(J4 P op t xo yo).run x y k=rM P bn op t xo yo x y k:=by
 cases op<;>first
  |rfl
  |(refine go_eq _ t xo yo x y k _ ⟨by decide,by decide⟩ λ kd a b=>?_
    refine X9 a b _ _ ?_;rintro a b rfl rfl;first
     |rfl
     |(simp only[VB];rfl)
     |(simp only[oq,xY,oQ]
       show _=vF (oQ kd (Int.ofNat (a+b))) _;simp only[oQ];cases hb:Nat.blt (Nat.add a b) (jC kd)with
       |true=>simp only[cond_true,pU];rfl
       |false=>rfl))
noncomputable def newC(l:List AV):Nat->Te->Te:=List.rec (λ _ t=>t) (λ x _ ih i t=>ih (Nat.succ i) (t.put i (some x))) l
theorem Ic(k:Te->Nat->Bool):∀(l:List AV)(i:Nat)(t:Te),o8 l i t k=k (newC l i t) (i+l.length)
 |[],i,t=>rfl
 |x::l,i,t=>by
  show fT (t.put i (some x)) (λ t=>fJ (Nat.succ i) λ i=>o8 l i t k)=_;rw[iU,dO,Ic k l];show k (newC l (i+1) (t.put i (some x))) (i+1+l.length)=k (newC l (i+1) (t.put i (some x))) (i+(l.length+1));congr 1;omega
theorem Ad(el:Option TypeId)(vs:List AV)(sp:Bool)(id:Nat)(H:Hp)(k:Hp->Bool):vQ el vs sp id H k=k (H.put id (some (.cells el (newC vs 0 .nil) vs.length sp false))):=by
 unfold vQ;rw[Ic,iU,Nat.zero_add]
noncomputable def lit{α:Type}(n:Nat)(k:Nat->α):α:=Nat.rec (k 0) (λ m _=>k (Nat.succ m)) n
theorem uP{α:Type}(n:Nat)(k:Nat->α):lit n k=k n:=by cases n<;>rfl
noncomputable def Zw(c:AV)(t f:Bool):Bool:=match c with| .bool b=>Bool.rec f t b|_=>false
noncomputable def Tw(P:Program)(d:Nat)(o:Oper)(t:TypeId)(a:Operand):FQ d:=
 match iE P t with
 |some false=>⟨λ e H _ k=>(cX d a).run e λ a=>ld1 a H λ v=>k v H⟩
 |some true=>match fD P t with
  |some s=>lit s λ s=>⟨λ e H _ k=>(cX d a).run e λ a=>Tv s a H λ v=>k v H⟩
  |none=>mY P d o
 |none=>mY P d o
noncomputable def EK(P:Program)(d:Nat)(o:Oper)(t:TypeId)(x:Operand)(f:Nat):FQ d:=
 match P.underlying t with
 |some (.struct fields)=>match fields[f]? with
  |some fd=>match fD P fd.type with
   |some (Nat.succ _)=>lit fd.offset λ w=>⟨λ e H _ k=>(cX d x).run e λ a=>yh a λ b off=>vN (Nat.add off w) λ o=>k (.ptr b o) H⟩
   |_=>mY P d o
  |none=>mY P d o
 |_=>mY P d o
noncomputable def OY(P:Program)(d:Nat)(o:Oper)(t:TypeId)(x:Operand)(f:Nat):FQ d:=
 match P.underlying t with
 |some (.struct fields)=>match fields[f]? with
  |some fd=>match iE P fd.type,fD P fd.type with
   |some true,some s=>lit s λ s=>lit fd.offset λ w=>⟨λ e H _ k=>(cX d x).run e λ a=>asAgg a λ cs=>Tp w cs λ cs=>Tq s cs λ l=>Bool.rec false (k (.agg l) H) (Nat.beq (fE l) s)⟩
   |some false,_=>lit fd.offset λ w=>⟨λ e H _ k=>(cX d x).run e λ a=>asAgg a λ cs=>JU cs w λ v=>k v H⟩
   |_,_=>mY P d o
  |none=>mY P d o
 |_=>mY P d o
noncomputable def EL(P:Program)(d:Nat)(o:Oper)(t:TypeId)(x ix:Operand):FQ d:=
 match P.underlying t with
 |some (.slice elem)=>match fD P elem with
  |some s=>lit s λ s=>⟨λ e H _ k=>(cX d x).run e λ a=>(cX d ix).run e λ i=>asNat i λ i=>Vx a λ b off len sz=>
   Bool.rec false (Bool.rec false (vN (Nat.add off (Nat.mul i s)) λ o=>k (.ptr b o) H) (Nat.beq s sz)) (Nat.blt i len)⟩
  |none=>mY P d o
 |_=>⟨λ e H _ k=>(cX d x).run e λ a=>(cX d ix).run e λ i=>uq P bn t a i λ v=>k v H⟩
noncomputable def BD(P:Program)(d:Nat)(t:TypeId)(x ix:Operand):FQ d:=
 match P.underlying t with
 |some .string=>⟨λ e H _ k=>(cX d x).run e λ a=>(cX d ix).run e λ i=>asNat i λ i=>str a λ s=>JU s i λ b=>k (.int .u8 (.ofNat b)) H⟩
 |_=>⟨λ e H _ k=>(cX d x).run e λ a=>(cX d ix).run e λ i=>Cy P bn t a i λ v=>k v H⟩
where str (a:AV) (k:List Nat->Bool):Bool:=match a with| .str s=>k s|_=>false
noncomputable def OZ(P:Program)(d:Nat)(o:Oper)(t:TypeId):FQ d:=
 match ni P t with
 |some z=>cond z.fB ⟨λ _ H id k=>nR (some (.cells (some t) (newC z.cellsOf 0 .nil) (fE z.cellsOf) false false)) (pa id) H λ H=>k (.ptr id 0) H⟩ (mY P d o)
 |none=>mY P d o
noncomputable def cLen(P:Program)(d:Nat)(o:Oper)(t:TypeId)(x:Operand):FQ d:=
 match P.underlying t with
 |some (.slice _)=>⟨λ e H _ k=>(cX d x).run e λ a=>sl a λ n=>k (.int .i64 (.ofNat n)) H⟩
 |some .string=>⟨λ e H _ k=>(cX d x).run e λ a=>BD.str a λ s=>vN (fE s) λ n=>k (.int .i64 (.ofNat n)) H⟩
 |_=>mY P d o
where sl (a:AV) (k:Nat->Bool):Bool:=match a with| .slice _ _ n _ _=>k n| .bF=>k 0|_=>false
noncomputable def VD(v:AV)(id:Nat)(H:Hp)(k:AV->Hp->Bool):Bool:=
 Jl v (nR (some (.cells none (.node (some v) .nil .nil) 1 false false)) (pa id) H λ H=>k (.ptr id 0) H)
  (asAgg v λ cs=>nR (some (.cells none (newC cs 0 .nil) (fE cs) false false)) (pa id) H λ H=>k (.ptr id 0) H)
noncomputable def YQ(v:AV)(k:AV->Bool):Bool:=
 match v with
 | .ptr b off=>k (.ptr b off)
 | .func f x y=>k (.func f x y)
 | .slice b o l s c=>k (.slice b o l s c)
 |_=>false
noncomputable def cQ(P:Program)(d:Nat)(o:Oper):FQ d:=
 match o.op with
 | .move x=>⟨λ e H _ k=>(cX d x).run e λ v=>k v H⟩
 | .assign x=>⟨λ e H _ k=>(cX d x).run e λ v=>k v H⟩
 | .pick c a b=>⟨λ e H _ k=>(cX d c).run e λ c=>Zw c ((cX d a).run e λ v=>k v H) ((cX d b).run e λ v=>k v H)⟩
 | .alloc t=>OZ P d o t
 | .box _ x=>⟨λ e H id k=>(cX d x).run e λ v=>VD v id H k⟩
 | .build t parts=>⟨λ e H _ k=>(OT d parts.toList).run e λ ps=>CJ P bn t ps λ v=>k v H⟩
 | .load t a=>Tw P d o t a
 | .nilCheck x=>⟨λ e H _ k=>(cX d x).run e λ v=>YQ v λ v=>k v H⟩
 | .binOp op t x y _=>⟨λ e H _ k=>(cX d x).run e λ a=>(cX d y).run e λ b=>(J4 P op t x y).run a b λ v=>k v H⟩
 | .unOp op _ x=>⟨λ e H _ k=>(cX d x).run e λ a=>Rk bn op a λ v=>k v H⟩
 | .convert s t x=>⟨λ e H _ k=>(cX d x).run e λ a=>nM P bn s t a H λ v=>k v H⟩
 | .makeFunc (.func f) first captured=>⟨λ e H _ k=>(Mr d first.toList).run e λ xs=>(Mr d captured.toList).run e λ ys=>k (.func f xs ys) H⟩
 | .fieldAddr t x f=>EK P d o t x f
 | .field t x f=>OY P d o t x f
 | .indexAddr t x i=>EL P d o t x i
 | .index t x i=>BD P d t x i
 | .makeInterface t x=>⟨λ e H _ k=>(cX d x).run e λ a=>match P.underlying t with
   |some (.interface _)=>false
   |some _=>k (.iface t a) H
   |none=>false⟩
 | .makeMap t r=>⟨λ e H id k=>(OU d r).run e λ r=>Bq P bn t r id H k⟩
 | .makeSlice t l c=>⟨λ e H id k=>(cX d l).run e λ l=>(cX d c).run e λ c=>uz P bn t l c id H k⟩
 | .buildSlice t len parts=>⟨λ e H id k=>(OT d parts.toList).run e λ ps=>rU P bn t len ps id H k⟩
 | .slice t x lo hi mx=>⟨λ e H _ k=>(cX d x).run e λ a=>(OU d lo).run e λ lo=>(OU d hi).run e λ hi=>(OU d mx).run e λ mx=>Cz P bn t a lo hi mx H λ v=>k v H⟩
 | .lookup t x i ok=>⟨λ e H _ k=>(cX d x).run e λ a=>(cX d i).run e λ i=>zR P bn t a i ok H λ v=>k v H⟩
 | .extract x i=>⟨λ e H _ k=>(cX d x).run e λ a=>Tt a λ vs=>JU vs i λ v=>k v H⟩
 | .call c=>match c.callee with
   | .builtin .len=>match c.argTypes[0]?,c.args.toList with
     |some t,[x]=>cLen P d o t x
     |_,_=>⟨λ _ _ _ _=>false⟩
   |_=>mY P d o
 |_=>mY P d o
theorem EM(h:RE d e T)(o:Oper)(k:AV->Hp->Bool):(cQ P d o).run e H id k=cu P bn o T H id k:=by
 have slow:=Rt (P:=P) (H:=H) (id:=id) h o k;obtain⟨dst,op,ty,pos,after,guard⟩:=o;cases op with
 |move x=>exact fF h x _
 |assign x=>exact fF h x _
 |pick c a b=>
  simp only[cQ,cu,fF h];congr 1;funext c;cases c<;>try rfl
  rename_i b;cases b<;>rfl
 |alloc t=>
  simp only[cQ,OZ];simp only[cu,Gt]at slow|-
  cases hz:ni P t with
  |none=>simp only[hz]at slow;exact slow
  |some z=>
   simp only[hz]at slow|-
   cases hn:z.fB with
   |false=>simp only[hn,cond_false]at slow|-;exact slow
   |true=>
    simp only[cond_true,Ad,fO];exact pz _ _ _ _
 |box t x=>
  simp only[cQ,cu,fF h];congr 1;funext v;unfold VD;cases v<;>first
   |rfl
   |(simp only[Jl,asAgg,Jj,AV.cellsOf,AV.fB,cond_true,Ad,pz,fO];done)
   |(simp only[Jl,Jj,AV.cellsOf,AV.fB,cond_true,Ad,pz];rfl)
 |build t parts=>
  simp only[cQ,cu,J3 h]
 |load t a=>
  simp only[cQ,Tw];cases ht:iE P t with
  |none=>exact slow
  |some b=>
   cases b with
   |false=>
    simp only[cu,fF h];congr 1;funext a;exact OO ht a _
   |true=>
    simp only;cases hs:fD P t with
    |none=>exact slow
    |some s=>
     simp only[cu,fF h,uP];congr 1;funext a;exact OQ ht hs a _
 |nilCheck x=>
  simp only[cQ,cu,fF h];congr 1
 |binOp op t x y t2=>simp only[cQ,cu,fF h,Uh]
 |unOp op t x=>simp only[cQ,cu,fF h]
 |convert s t x=>simp only[cQ,cu,fF h]
 |makeFunc f xs ys=>
  cases f with
  |func f=>simp only[cQ,cu,J2 h]
  |_=>exact slow
 |fieldAddr t x f=>
  simp only[cQ,EK];cases ht:P.underlying t with
  |none=>exact slow
  |some u=>
   cases u<;>try exact slow
   rename_i fields;simp only;cases hf:fields[f]? with
   |none=>exact slow
   |some fd=>
    simp only;cases hs:fD P fd.type with
    |none=>exact slow
    |some s=>
     cases s with
     |zero=>exact slow
     |succ s=>
      simp only[cu,fF h,uP];congr 1;funext a;unfold yN;rw[ht];cases a<;>try rfl
      simp only[hf,hs,yh,oq,dO]
 |field t x f=>
  simp only[cQ,OY];cases ht:P.underlying t with
  |none=>exact slow
  |some u=>
   cases u<;>try exact slow
   rename_i fields;simp only;cases hf:fields[f]? with
   |none=>exact slow
   |some fd=>
    simp only;cases ha:iE P fd.type with
    |none=>exact slow
    |some b=>
     cases hs:fD P fd.type with
     |none=>
      cases b with
      |true=>exact slow
      |false=>
       simp only[cu,fF h,uP];congr 1;funext a;unfold zi;rw[ht];cases a<;>try rfl
       simp only[hf,ha,hs,asAgg,zl];rename_i cs;cases cs[fd.offset]? <;>rfl
     |some s=>
      cases b with
      |true=>
       simp only[cu,fF h,uP];congr 1;funext a;unfold zi;rw[ht];cases a<;>try rfl
       simp only[hf,ha,hs,asAgg,JV,JW,lJ];rename_i cs;cases Nat.beq (fE (List.take s (List.drop fd.offset cs))) s<;>rfl
      |false=>
       simp only[cu,fF h,uP];congr 1;funext a;unfold zi;rw[ht];cases a<;>try rfl
       simp only[hf,ha,hs,asAgg,zl];rename_i cs;cases cs[fd.offset]? <;>rfl
 |indexAddr t x i=>
  simp only[cQ,EL];cases ht:P.underlying t with
  |none=>simp only[cu,fF h]
  |some u=>
   cases u<;>try(simp only[cu,fF h];done)
   rename_i elem;simp only;cases hs:fD P elem with
   |none=>exact slow
   |some s=>
    simp only[cu,fF h,uP];congr 1;funext a;congr 1;funext i;unfold uq asNat;rw[ht];cases i<;>try rfl
    rename_i kd n;cases n<;>try rfl
    cases a<;>try rfl
    simp only[hs,Vx,oq,dO];rename_i n b off len sz cap;cases Nat.blt n len<;>cases Nat.beq s sz<;>rfl
 |index t x i=>
  simp only[cQ,BD];cases ht:P.underlying t with
  |none=>simp only[cu,fF h]
  |some u=>
   cases u<;>try(simp only[cu,fF h];done)
   simp only[cu,fF h];congr 1;funext a;congr 1;funext i;unfold Cy asNat;rw[ht];cases i<;>try rfl
   rename_i kd n;cases n<;>try rfl
   cases a<;>try rfl
   simp only[BD.str,zl];rename_i n s;cases s[n]? <;>rfl
 |makeInterface t x=>
  simp only[cQ,cu,fF h];congr 1
 |makeMap t r=>simp only[cQ,cu,OW h]
 |makeSlice t l c=>simp only[cQ,cu,fF h]
 |buildSlice t len parts=>simp only[cQ,cu,J3 h]
 |slice t x lo hi mx=>simp only[cQ,cu,fF h,OW h]
 |lookup t x i ok=>simp only[cQ,cu,fF h]
 |extract x i=>
  simp only[cQ,cu,fF h];congr 1;funext a;unfold Br Tt;cases a<;>try rfl
  rename_i vs;simp only[zl];cases vs[i]? <;>rfl
 |call c=>
  obtain⟨callee,args,tys⟩:=c;cases callee with
  |builtin b=>
   cases b<;>try exact slow
   simp only[cQ];split
   .rename_i t x ht hx
    unfold cLen;simp only[cu,ht,hx]at slow|-
    cases hu:P.underlying t with
    |none=>exact slow
    |some u=>
     cases u<;>try exact slow
     .simp only[fF h]
      congr 1;funext a;unfold Er;rw[hu];cases a<;>first|rfl|(simp only[BD.str,oq,dO])
     .simp only[fF h]
      congr 1;funext a;unfold Er;rw[hu];cases a<;>rfl
   .rename_i hn
    simp only[cu]
  |_=>exact slow
 |_=>exact slow
end
end Go.cK
end
section
namespace Go.cK
section
variable {P:Program} {T:Te} {H:Hp} {n:Nat}
variable {dst:Option Tmp} {ty:TypeId} {pos:String} {after:Array Edge} {guard:Option (Nat×Bool)}
def M9:AV->Option Nat
 | .bF=>some 0
 | .str s=>some s.length
 | .slice _ _ n _ _=>some n
 |_=>none
theorem yM{x:AV}{kk:Nat->Bool}(h:Bp bn x kk=true):∃m,M9 x=some m∧kk m=true∧∀ι X w,VR ι x X->(Builtin.lenOf X).run P w= .ok m w:=by
 unfold Bp at h;split at h
 .exact⟨0,rfl,h,λ ι X w hX=>by cases hX;simp[Builtin.lenOf]⟩
 .rw[dO,fO]at h
  exact⟨_,rfl,h,λ ι X w hX=>by cases hX;simp[Builtin.lenOf]⟩
 .exact⟨_,rfl,h,λ ι X w hX=>by cases hX<;>simp[Builtin.lenOf]⟩
 .cases h
theorem vE{x:AV}{sz m q:Nat}{kk:List AV->Bool}(h:tu bn x sz m H kk=true)(hq:M9 x=some q)(hm:m≤q):
  ∃l,kk l=true∧l.length=m*sz∧∀ι n w X,Rel ι H n w->VR ι x X->(∀c∈l,c.one=true)∧∃xs:Array Value,(∀w':World,(∀κ:Nat,w'.heap[κ]? =w.heap[κ]?)->(Builtin.firstCells sz m X).run P w'= .ok xs w')∧dV ι l xs.toList:=by
 unfold tu at h;split at h
 .have h0:m=0:=by cases hq;omega
  subst h0;refine⟨[],h,by simp,λ ι n w X hr hX=>⟨by simp,?_⟩⟩;cases hX;exact⟨#[],λ w' _=>by simp[Builtin.firstCells],.nil⟩
 .rename_i s
  cases hc:Nat.beq sz 1 with
  |false=>rw[hc]at h;exact Bool.noConfusion h
  |true=>
   rw[hc]at h;have hs:=Nat.eq_of_beq_eq_true hc;subst hs;simp only[cond_true,lJ]at h;have hq:s.length=q:=by simpa[M9]using hq
   refine⟨_,h,by simp;omega,λ ι n w X hr hX=>⟨λ c hc=>?_,?_⟩⟩
   .obtain⟨b,-,rfl⟩:=List.mem_map.1 hc
    rfl
   .cases hX with
    |str S=>
     refine⟨_,λ w' _=>by simp[Builtin.firstCells];rfl,?_⟩;have e:((Array.map (λ b:UInt8=>Value.int .u8 (b.toNat:Int)) S.data).extract 0 m).toList=((S.data.toList.map UInt8.toNat).take m).map λ b:Nat=>Value.int .u8 (b:Int):=by
      simp[Array.toList_extract];rfl
     rw[e];refine dV.zh (by simp) λ i v x hv hx=>?_;simp only[List.getElem?_map,Option.map_eq_some_iff]at hv hx;obtain⟨a,ha,rfl⟩:=hv;obtain⟨b,hb,rfl⟩:=hx;rw[ha]at hb;cases hb;exact .int _ _
 .rename_i b off len s cap
  cases hc:Nat.beq s sz with
  |false=>rw[hc]at h;exact Bool.noConfusion h
  |true=>
   rw[hc]at h;have hs:=Nat.eq_of_beq_eq_true hc;subst hs;simp only[cond_true]at h;split at h
   .rename_i el c cn sp fz hb
    obtain⟨l,h1,h2,h3,h4⟩:=mW _ _ _ _ _ h;rw[List.append_nil]at h1;have hq:len=q:=by simpa[M9]using hq
    subst hq;have h3:l.length=m*s:=h3;have h4:∀i,i<m*s->∃v,l[i]? =some v∧c.get (off+i)=some v:=h4
    have key:∀ι n w X,Rel ι H n w->VR ι (.slice b off len s cap) X->∃κ δ C a' cc arr elem fr,X= .slice (some a') len cc∧len≤cc∧(cc=0∨a'=⟨κ,δ+off,none⟩)∧w.heap[κ]? =some (.cells arr elem fr)∧
      (∀(i:Nat) v,c.get i=some v->i<cn∧v.one=true∧∃x,arr[δ+i]? =some x∧VR ι v x):=λ ι n w X hr hX=>by
     cases hX with
     |full z hl hcc ha=>
      rename_i κ δ C cc a';obtain⟨arr,elem,fr,g1,g2,g3,g4,g5,g6,g7⟩:=hr.ob b _ _ _ _ hb z;exact⟨κ,δ,C,a',cc,arr,elem,fr,rfl,hl,ha,g1,g5⟩
     |exact z hl hcc ha=>
      rename_i κ δ C cc a';obtain⟨arr,elem,fr,g1,g2,g3,g4,g5,g6,g7⟩:=hr.ob b _ _ _ _ hb z;exact⟨κ,δ,C,a',cc,arr,elem,fr,rfl,hl,ha,g1,g5⟩
    refine⟨l,h1,h3,λ ι n w X hr hX=>?_⟩;obtain⟨κ,δ,C,a',cc,arr,elem,fr,rfl,hl,ha,g1,g5⟩:=key ι n w X hr hX;have cell:∀i,i<m*s->∃v y,l[i]? =some v∧v.one=true∧arr[δ+off+i]? =some y∧VR ι v y:=λ i hi=>by
     obtain⟨v,hv1,hv2⟩:=h4 i hi;obtain⟨_,ho,y,hy1,hy2⟩:=g5 _ _ hv2;exact⟨v,y,hv1,ho,by rw[Nat.add_assoc];exact hy1,hy2⟩
    refine⟨λ v hv=>?_,((List.range (m*s)).map λ i=>(arr[δ+off+i]?).getD undef).toArray,λ w' hw'=>?_,dV.zh (by simpa using h3) λ i v y hv hy=>?_⟩
    .obtain⟨i,hi,rfl⟩:=List.mem_iff_getElem.1 hv
     obtain⟨v',y',hv',ho,_⟩:=cell i (by rw[<-h3];exact hi);rw[List.getElem?_eq_getElem hi]at hv';cases hv';exact ho
    .simp only[Builtin.firstCells]
     rcases Nat.eq_zero_or_pos (m*s)with h0|hpos
     .rw[h0];rfl
     .have hmp:0<m:=Nat.pos_of_mul_pos_right hpos
      have ha':a'=⟨κ,δ+off,none⟩:=ha.resolve_left (by omega);subst ha';exact run_loadCells w' _ (m*s) (λ i=>(arr[δ+off+i]?).getD undef) λ j hj=>by
       obtain⟨v,y,_,_,hy,_⟩:=cell j hj;rw[addr_add,cell_of ((hw' κ).trans g1) hy,hy];rfl
    .have hi:i<m*s:=by rw[<-h3];exact(List.getElem?_eq_some_iff.1 hv).1
     obtain⟨v',y',hv',_,hy',hr'⟩:=cell i hi;rw[hv']at hv;cases hv;simp[hi]at hy;subst hy;rw[hy'];exact hr'
   .cases h
 .cases h
theorem uy{ι:Pl}{b off len sz:Nat}{cap:Option Nat}{X:Value}(hX:VR ι (.slice b off len sz cap) X):
  ∃κ δ C a' cc,X= .slice (some a') len cc∧len≤cc∧(cc=0∨a'=⟨κ,δ+off,none⟩)∧ι b=some (κ,δ,C)∧(match cap with|none=>δ+off+cc*sz=C|some c=>cc=c∧δ+off+cc*sz≤C):=by
 cases hX with
 |full s hl hcc ha=>exact⟨_,_,_,_,_,rfl,hl,ha,s,hcc⟩
 |exact s hl hcc ha=>exact⟨_,_,_,_,_,rfl,hl,ha,s,rfl,hcc⟩
theorem Lr{t:TypeId}{d x:AV}{kk:AV->Hp->Bool}(h:JE P bn t d x H kk=true):
  ∃v H',kk v H'=true∧∀ι n w D X t2 s,Rel ι H n w->VR ι d D->VR ι x X->∃y w',(Builtin.copy_ #[t,t2] s #[D,X]).run P w= .ok y w'∧VR ι v y∧Rel ι H' n w'∧Step ι H n w ι H' n w':=by
 unfold JE at h;split at h
 .rename_i elem hu
  split at h
  .rename_i sz' hs
   dsimp only at h;generalize Nat.succ sz'=sz at h hs;split at h
   .obtain⟨m,hm1,hm2,z⟩:=yM (P:=P) h
    refine⟨_,_,hm2,λ ι n w D X t2 s hr hD hX=>?_⟩;cases hD;refine⟨.int .i64 0,w,?_,.int _ _,hr,Step.refl _ _ _ _⟩;have hf:∃cs,(Builtin.firstCells (sz) 0 X).run P w= .ok cs w:=by
     cases hX<;>first
      |(cases hm1;done)
      |exact⟨_,by simp[Builtin.firstCells];rfl⟩
    obtain⟨cs,hf⟩:=hf;simp[Builtin.copy_,run_underlying hu,z ι X w hX,jo hs,hf,goInt]
   .rename_i b off len F cap
    cases hc:Nat.beq (sz) F with
    |false=>rw[hc]at h;exact Bool.noConfusion h
    |true=>
     rw[hc]at h;have hsz:=Nat.eq_of_beq_eq_true hc;simp only[cond_true]at h;obtain⟨m,hm1,hm2,z⟩:=yM (P:=P) h;rw[dO]at hm2;have hmin:(cond (Nat.ble m len) m len)=Nat.min m len:=by
      cases hb:Nat.ble m len with
      |true=>have:=Nat.le_of_ble_eq_true hb;simp[Nat.min_eq_left this]
      |false=>
       have:¬m≤len:=λ hle=>by rw[Nat.ble_eq_true_of_le hle]at hb;cases hb
       simp[Nat.min_eq_right (by omega:len≤m)]
     rw[hmin]at hm2;obtain⟨l,hl1,hl2,hl3⟩:=vE (P:=P) hm2 hm1 (Nat.min_le_left _ _);split at hl1
     .rename_i el c cn sp hb
      cases hc2:Nat.ble (Nat.add off (Nat.mul (Nat.min m len) (sz))) cn with
      |false=>rw[hc2]at hl1;exact Bool.noConfusion hl1
      |true=>
       rw[hc2]at hl1;have hfit:=Nat.le_of_ble_eq_true hc2;have hfit:off+l.length≤cn:=by rw[hl2];exact hfit
       simp only[cond_true]at hl1;obtain⟨c',e1,e2⟩:=iK (β:=Bool) l off c;rw[e1,iU]at hl1;refine⟨_,_,hl1,λ ι n w D X t2 s hr hD hX=>?_⟩;obtain⟨one,xs,hx1,hx2⟩:=hl3 ι n w X hr hX;obtain⟨κ,δ,C,a',cc,rfl,hlc,ha,E,-⟩:=uy hD;refine⟨_,w.setCells κ (δ+off) xs.toList,?_,.int _ _,zT hr hb E hx2 one hfit e2⟩;have hxl:=hx2.length;have hst:(storeCells a' xs.toList).run P w= .ok () (w.setCells κ (δ+off) xs.toList):=by
        rcases ha with h0|h0
        .have:l.length=0:=by rw[hl2,show Nat.min m len=0 by simp only[Nat.min_def];split<;>omega];simp
         have hx0:xs.toList=[]:=List.eq_nil_of_length_eq_zero (by omega);rw[hx0];rfl
        .subst h0
         exact qA (hr.ob b _ _ _ _ hb E) (by omega) (hx2.oneCell one)
       have hx1:=hx1 w λ _=>rfl;simp[Builtin.copy_,run_underlying hu,z ι X w hX,jo hs,hx1,goInt,hst]
     .cases hl1
   .cases h
  .cases h
 .cases h
end
end Go.cK
end
section
namespace Go.cK
section
variable {P:Program} {T:Te} {H:Hp} {n:Nat}
theorem DY{t u ty e:TypeId}{d:TypeDesc}{i:TypeInfo}{z X:Value}{w:World}{base:Option Addr}{sLen sCap m:Nat}{olds news:Array Value}
  (ht:P.underlying t=some (.slice e))(hu:P.underlying u=some d)(hd:∀k,d≠ .int k)(hi:P.info? e=some i)(hz:i.zero=some z)
  (hl:∀w,(Builtin.lenOf X).run P w= .ok m w)(hnews:(Builtin.firstCells i.size m X).run P w.drew= .ok news w.drew)
  (holds:(Builtin.firstCells i.size sLen (.slice base sLen sCap)).run P w.drew= .ok olds w.drew)
  (hg:sCap<sLen+m)(h63:sLen+m≤9223372036854775807)(hfit:Builtin.nextslicecap (sLen+m) sCap*i.bytes≤281474976710656):
  (Builtin.append_ #[t,u] ty #[.slice base sLen sCap,X]).run P w=
   .ok (.slice (some ⟨w.heap.size,0,none⟩) (sLen+m) (grownCap w (sLen+m) sCap e)) (w.drew.alloc (.cells (olds++news++Builtin.zeroCells z.cells (grownCap w (sLen+m) sCap e-(sLen+m))) e)):=by
 have hn:¬(sLen+m≤sCap):=by omega
 have h63':¬(9223372036854775807<((sLen:Int)+(m:Int))):=by omega
 have h48':¬(281474976710656<Builtin.nextslicecap (sLen+m) sCap*i.bytes):=by omega
 simp[Builtin.append_,run_underlying ht,run_underlying hu,sizeOf,typeInfo,zeroValue,hi,hz,hl,hn,h63',h48',Question.forced,hnews,holds,newRow,grownCap]
theorem run_append_fits{t u ty e:TypeId}{d:TypeDesc}{i:TypeInfo}{X:Value}{w w':World}{base:Option Addr}{sLen sCap m:Nat}{news:Array Value}
  (ht:P.underlying t=some (.slice e))(hu:P.underlying u=some d)(hd:∀k,d≠ .int k)(hi:P.info? e=some i)
  (hl:∀w,(Builtin.lenOf X).run P w= .ok m w)(hnews:(Builtin.firstCells i.size m X).run P w= .ok news w)
  (hr:sLen+m≤sCap)(hst:∀a,base=some a->(storeCells (a.add (sLen*i.size)) news.toList).run P w= .ok () w')(hnone:base=none->w'=w):
  (Builtin.append_ #[t,u] ty #[.slice base sLen sCap,X]).run P w= .ok (.slice base (sLen+m) sCap) w':=by
 cases base with
 |none=>
  rw[hnone rfl];simp[Builtin.append_,run_underlying ht,run_underlying hu,sizeOf,typeInfo,hi,hl,hr,hnews]
 |some a=>
  have hst:=hst a rfl;simp[Builtin.append_,run_underlying ht,run_underlying hu,sizeOf,typeInfo,hi,hl,hr,hnews,hst]
theorem Rel.drew{ι:Pl}{H:Hp}{n:Nat}{w:World}(h:Rel ι H n w):Rel ι H n w.drew:=
 ⟨h.fresh,λ b o κ δ C hb hi=>(h.ob b o κ δ C hb hi).congr (Pl.le_refl _) rfl λ _ _ _ _ _ _ _ hg=> .inl ⟨hg,rfl⟩,h.inj⟩
theorem Step.drew{kH ι:Pl}{H0 H:Hp}{n0 n:Nat}{w0 w:World}(h:Step kH H0 n0 w0 ι H n w):Step kH H0 n0 w0 ι H n w.drew:=
 ⟨h.le,h.num,h.gN,h.size,h.frame,h.owned,h.tape,h.os,h.output⟩
theorem Step.forget{kH ι:Pl}{H0 H:Hp}{n0 n b:Nat}{w0 w:World}{x:Nat×Nat×Nat}(h:Step kH H0 n0 w0 ι H n w)(hb:ι b=some x):Step kH H0 n0 w0 ι (H.put b none) n w where
 le:=h.le
 num:=h.num
 gN b' hb' hi:=by
  obtain⟨p,q⟩:=h.gN b' hb' hi;exact⟨p,by rw[Tr.get_put,if_neg λ e=>by subst e;rw[hb]at p;cases p];exact q⟩
 size:=h.size
 frame:=h.frame
 owned b' x hs hi hlt:=by
  rw[Tr.get_put]at hs;by_cases e:b'=b
  .rw[if_pos e]at hs;cases hs
  .rw[if_neg e]at hs;exact h.owned b' x hs hi hlt
 tape:=h.tape
 os:=h.os
 output:=h.output
theorem Hw{t u ty e:TypeId}{d:TypeDesc}{i:TypeInfo}{z X:Value}{ι:Pl}{E:Hp}{w:World}{base:Option Addr}{sLen sCap m:Nat}{olds news:Array Value}{old new:List AV}{kk:AV->Hp->Bool}{el:Option TypeId}(hel:∀t,el=some t->e=t)
  (h:grow el old new (sLen+m) i.size n E kk=true)(hr:Rel ι E n w)(hs:Step ι H n w ι E n w)(ho:dV ι old olds.toList)(hn:dV ι new news.toList)(h1:∀c∈old++new,c.one=true)
  (hol:old.length=sLen*i.size)(hnl:new.length=m*i.size)
  (ht:P.underlying t=some (.slice e))(hu:P.underlying u=some d)(hd:∀k,d≠ .int k)(hi:P.info? e=some i)(hz:i.zero=some z)(hzs:z.cells.size=i.size)
  (hl:∀w,(Builtin.lenOf X).run P w= .ok m w)(hnews:(Builtin.firstCells i.size m X).run P w.drew= .ok news w.drew)
  (holds:(Builtin.firstCells i.size sLen (.slice base sLen sCap)).run P w.drew= .ok olds w.drew)
  (hg:sCap<sLen+m)(h63:sLen+m≤9223372036854775807)(hfit:(sLen+m)*i.bytes≤140737488355328):
  ∃y w' aV v H',(Builtin.append_ #[t,u] ty #[.slice base sLen sCap,X]).run P w= .ok y w'∧kk v H'=true∧VR aV v y∧Rel aV H' (n+1) w'∧Step ι H n w aV H' (n+1) w':=by
 unfold grow at h;rw[qW]at h;have hid:=(hr.fresh n (Nat.le_refl _)).1;have F:=(hr.fresh n (Nat.le_refl _)).2;have hcap:=grownCap_ge w (sLen+m) sCap e;have s:=ho.length;have D:=hn.length;simp only[Array.length_toList]at s D;have hC:(olds++news++Builtin.zeroCells z.cells (grownCap w (sLen+m) sCap e-(sLen+m))).size=grownCap w (sLen+m) sCap e*i.size:=by
  simp only[Array.size_append,size_zeroCells,hzs,<-s,<-D,hol,hnl,<-Nat.add_mul];congr 1;omega
 have hone:=dV.append ho hn;refine⟨_,_,ι.upd n (w.heap.size,0,grownCap w (sLen+m) sCap e*i.size),_,_,DY ht hu hd hi hz hl hnews holds hg h63 (growslice_fits hg hfit),h,?_,?_,?_⟩
 .exact .full (κ:=w.heap.size) (δ:=0) (Pl.iD _ _ _) hcap (by simp) (.inr rfl)
 .refine Rel.born (w:=w.drew) (ob:= .cells el (nQ (old++new)) (old++new).length true false) (((hr.drew).bump (Nat.le_succ n)).grow hid (Nat.lt_succ_self n) F) hid (Nat.lt_succ_self n) (by rw[Tr.get_put,if_pos rfl]) ⟨_,e,(0,0),iV _ _,hC,?_,(λ h=>by cases h),λ j v hv=>?_,λ _ j _ _ h=>by omega,λ t h=>⟨hel t h,rfl⟩⟩
  .rw[List.length_append,hol,hnl,<-Nat.add_mul,Nat.zero_add]
   exact Nat.mul_le_mul_right _ hcap
  .rw[rV]at hv
   have hj:=(List.getElem?_eq_some_iff.1 hv).1;obtain⟨x,hx,I⟩:=(hone.mono (Pl.rT (w.heap.size,0,grownCap w (sLen+m) sCap e*i.size) hid)).get hv;refine⟨hj,h1 v (List.mem_of_getElem? hv),x,?_,I⟩;rw[Nat.zero_add];have hj2:j<(olds++news).size:=by
    rw[List.length_append]at hj;rw[Array.size_append,<-s,<-D];exact hj
   rw[Array.getElem?_append_left hj2];rw[<-Array.getElem?_toList,Array.toList_append];exact hx
 .exact Step.born (w:=w.drew) ((hs.drew.bump (Nat.le_succ n)).grow hid (Nat.le_refl n)) hid (Nat.le_refl n)
end
end Go.cK
end
section
namespace Go.cK
section
variable {P:Program} {T:Te} {H:Hp} {n:Nat}
theorem size_bytes{t:TypeId}{s b:Nat}{z:AV}(hs:fD P t=some s)(hb:tC P t=some b)(hz:ni P t=some z):
  ∃i x,P.info? t=some i∧i.size=s∧i.bytes=b∧i.zero=some x∧∀ι,VR ι z x:=by
 unfold fD at hs;unfold tC at hb;unfold ni at hz;cases hi:P.info? t with
 |none=>simp[hi]at hs
 |some i=>
  simp[hi]at hs hb hz;cases hx:i.zero with
  |none=>simp[hx]at hz
  |some x=>simp[hx]at hz;exact⟨i,x,rfl,hs,hb,hx,λ ι=>Na ι hz⟩
open Classical in
theorem DZ{b off len sz:Nat}{cap:Option Nat}{el:Option TypeId}{c:Te}{cn:Nat}{sp fz:Bool}{kk:List AV->Bool}(hb:H.get b=some (.cells el c cn sp fz))(h:gather c off (Nat.mul len sz) (bn "") [] kk=true):
  ∃l,kk l=true∧l.length=len*sz∧(∀i,i<len*sz->c.get (off+i)=l[i]?)∧∀ι n w X,Rel ι H n w->VR ι (.slice b off len sz cap) X->(∀c∈l,c.one=true)∧∃xs:Array Value,(∀w':World,(∀κ:Nat,w'.heap[κ]? =w.heap[κ]?)->(Builtin.firstCells sz len X).run P w'= .ok xs w')∧dV ι l xs.toList:=by
 obtain⟨l0,e1,e2,e3,e4⟩:=mW _ _ _ _ _ h;rw[List.append_nil]at e1;have h2:tu bn (.slice b off len sz cap) sz len H (λ l=>decide (l=l0))=true:=by
  simp only[tu,hb,show Nat.beq sz sz=true from Nat.beq_refl sz,cond_true];have:=e2 (λ l=>decide (l=l0));rw[List.append_nil]at this;exact this.trans (by simp)
 obtain⟨l,h3,h4,h5⟩:=vE (P:=P) h2 rfl (Nat.le_refl _);have hl:l=l0:=of_decide_eq_true h3;subst hl;refine⟨l,e1,h4,λ i hi=>?_,h5⟩;obtain⟨v,hv1,hv2⟩:=e4 i hi;rw[hv1,hv2]
theorem Bt{el:Option TypeId}{elem t:TypeId}:∀{off:Nat},M_ el elem off=some t->off=0∧el=some t∧elem=t
 |0,h=>by
  unfold M_ at h;cases el with
  |none=>cases h
  |some u=>
   simp only at h;cases hb:Nat.beq u elem with
   |true=>
    rw[hb]at h;cases h;exact⟨rfl,by rw[Nat.eq_of_beq_eq_true hb],rfl⟩
   |false=>rw[hb]at h;cases h
 |_+1,h=>by cases h
theorem OG{b off len m sz cc:Nat}{el EB:Option TypeId}{c:Te}{cn:Nat}{ι:Pl}{w:World}{κ δ C:Nat}{old new:List AV}{news:List Value}(hr:Rel ι H n w)(hb:H.get b=some (.cells el c cn true false))(s:ι b=some (κ,δ,C))
  (hend:off+len*sz=cn)(hol:old.length=len*sz)(hold:∀i,i<len*sz->c.get (off+i)=old[i]?)(hnl:new.length=m*sz)(E:dV ι new news)(h1:∀c∈old++new,c.one=true)
  (hcap:δ+off+cc*sz=C)(hroom:len+m≤cc)(hel:∀t,EB=some t->el=some t∧off=0):
  VR (ι.upd n (κ,δ+off,C)) (.slice n 0 (len+m) sz none) (.slice (some ⟨κ,δ+off,none⟩) (len+m) cc)∧
  Rel (ι.upd n (κ,δ+off,C)) ((H.put b none).put n (some (.cells EB (nQ (old++new)) (old++new).length true false))) (n+1) (w.setCells κ (δ+(off+len*sz)) news)∧
  Step ι H n w (ι.upd n (κ,δ+off,C)) ((H.put b none).put n (some (.cells EB (nQ (old++new)) (old++new).length true false))) (n+1) (w.setCells κ (δ+(off+len*sz)) news):=by
 have hid:=(hr.fresh n (Nat.le_refl _)).1;have hbn:b≠n:=λ e=>by subst e;rw[hid]at s;cases s
 obtain⟨arr,elem,fr,g1,g2,g3,g4,g5,g6,g7⟩:=hr.ob b _ _ _ _ hb s;have hnl':=E.length;have hmul:(len+m)*sz≤cc*sz:=Nat.mul_le_mul_right _ hroom;rw[Nat.add_mul]at hmul;obtain⟨arr',a1,a2,a3,a4,a5,a6,a7,a8⟩:=qM κ elem fr news (δ+(off+len*sz)) w arr g1 (by omega);have hget:∀b' o,((H.put b none).put n (some (.cells EB (nQ (old++new)) (old++new).length true false))).get b'=some o->b'≠n->b'≠b∧H.get b'=some o:=λ b' o hg hne=>by
  rw[Tr.get_put,if_neg hne,Tr.get_put]at hg;by_cases e:b'=b
  .rw[if_pos e]at hg;cases hg
  .rw[if_neg e]at hg;exact⟨e,hg⟩
 have hle:=Pl.rT (ι:=ι) (κ,δ+off,C) hid;have apart:∀b' o x,H.get b'=some o->b'≠b->ι b'=some x->x.1≠κ:=λ b' o x hg hne hi e=>hne (hr.inj b' b _ _ (by simp[hg]) (by simp[hb]) hi s e);refine⟨.full (Pl.iD _ _ _) hroom (by omega) (.inr rfl),⟨λ b' hb'=>⟨by rw[Pl.upd_ne _ _ (by omega)];exact(hr.fresh b' (by omega)).1,?_⟩,λ b' o z F C' hg hi=>?_,λ b1 b2 x1 x2 s1 s2 i1 i2 e=>?_⟩,?_⟩
 .rw[Tr.get_put,if_neg (by omega),Tr.get_put]
  split
  .rfl
  .exact(hr.fresh b' (by omega)).2
 .by_cases e:b'=n
  .subst e
   rw[Tr.get_put,if_pos rfl]at hg;cases hg;rw[Pl.iD]at hi;cases hi;refine⟨arr',elem,fr,a1,by omega,?_,(λ h=>by cases h),λ i v hv=>?_,λ _ j hj I=>g6 rfl j (by omega) I,λ t h=>?_⟩;rotate_left 2
   .obtain⟨h1,h2⟩:=hel t h
    obtain⟨h3,h4⟩:=g7 t h1;exact⟨h3,by omega⟩
   .rw[List.length_append,hol,hnl];omega
   .rw[rV]at hv
    have hi:=(List.getElem?_eq_some_iff.1 hv).1;refine⟨hi,h1 v (List.mem_of_getElem? hv),?_⟩;rw[a3];by_cases hlt:i<old.length
    .rw[List.getElem?_append_left hlt,<-hold i (by omega)]at hv
     obtain⟨_,_,x,hx,D⟩:=g5 _ _ hv;exact⟨x,by rw[if_neg (by omega)];rw[Nat.add_assoc];exact hx,D.mono hle⟩
    .rw[List.getElem?_append_right (by omega)]at hv
     obtain⟨x,hx,D⟩:=E.get hv;rw[List.length_append]at hi;refine⟨x,?_,D.mono hle⟩;rw[if_pos (by omega),<-hx];congr 1;omega
  .obtain⟨hne,hg'⟩:=hget b' o hg e
   rw[Pl.upd_ne _ _ e]at hi;refine(hr.ob b' o z F C' hg' hi).congr hle (a4 z (apart b' o _ hg' hne hi)) λ mm J δm Cm es ver hm hgm=>?_;have e':mm≠n:=λ e=>by subst e;rw[hid]at hm;cases hm
   obtain⟨hne',hg''⟩:=hget mm _ hgm e';exact .inl ⟨hg'',a4 J (apart mm _ _ hg'' hne' hm)⟩
 .obtain⟨o1,s1⟩:=Option.isSome_iff_exists.1 s1
  obtain⟨o2,s2⟩:=Option.isSome_iff_exists.1 s2;by_cases e1:b1=n
  .by_cases e2:b2=n
   .rw[e1,e2]
   .obtain⟨hne,hg⟩:=hget b2 o2 s2 e2
    rw[Pl.upd_ne _ _ e2]at i2;have:=apart b2 o2 x2 hg hne i2;subst e1;rw[Pl.iD]at i1;cases i1;exact absurd e.symm this
  .obtain⟨hne,hg⟩:=hget b1 o1 s1 e1
   rw[Pl.upd_ne _ _ e1]at i1;by_cases e2:b2=n
   .have:=apart b1 o1 x1 hg hne i1
    subst e2;rw[Pl.iD]at i2;cases i2;exact absurd e this
   .obtain⟨hne2,hg2⟩:=hget b2 o2 s2 e2
    rw[Pl.upd_ne _ _ e2]at i2;exact hr.inj b1 b2 x1 x2 (by simp[hg]) (by simp[hg2]) i1 i2 e
 .exact{
   le:=hle
   num:=Nat.le_succ n
   gN:=λ b' hlt hi=>⟨by rw[Pl.upd_ne _ _ (by omega)];exact hi,by
    rw[Tr.get_put,if_neg (by omega),Tr.get_put,if_neg λ e=>by subst e;rw[s]at hi;cases hi]⟩
   size:=by omega
   frame:=λ z hκ hno=>a4 z λ e=>hno b _ (by simp[hb]) s e.symm
   owned:=λ b' x hs hi hlt=>by
    obtain⟨o,hs⟩:=Option.isSome_iff_exists.1 hs;by_cases e:b'=n
    .subst e;rw[Pl.iD]at hi;cases hi;exact⟨b,_,by simp[hb],s,rfl⟩
    .obtain⟨hne,hg⟩:=hget b' o hs e
     rw[Pl.upd_ne _ _ e]at hi;exact⟨b',x,by simp[hg],hi,rfl⟩
   tape:=a6
   os:=a7
   output:=a8}
theorem VR.retag{ι:Pl}{b off len need sz:Nat}{cap:Option Nat}{a:Addr}{cc:Nat}(h:VR ι (.slice b off len sz cap) (.slice (some a) len cc))(hn:need≤cc):VR ι (.slice b off need sz cap) (.slice (some a) need cc):=by
 cases h with
 |full h hl hc ha=>exact .full h hn hc ha
 |exact h hl hc ha=>exact .exact h hn hc ha
theorem I5{t u:TypeId}{d:TypeDesc}{s x:AV}{kk:AV->Hp->Bool}(h:zU P bn t s x n H kk=true)(hu:P.underlying u=some d)(hd:∀k,d≠ .int k):
  ∀ι w S X J,Rel ι H n w->VR ι s S->VR ι x X->∃y w' aV v H',(Builtin.append_ #[t,u] J #[S,X]).run P w= .ok y w'∧kk v H'=true∧VR aV v y∧Rel aV H' (n+1) w'∧Step ι H n w aV H' (n+1) w':=by
 unfold zU at h;split at h
 .rename_i elem ht
  split at h
  .rename_i sz' aa z hsz hby hz
   obtain⟨i,am,hi,hi1,hi2,hi3,hi4⟩:=size_bytes hsz hby hz;have T:0<i.size:=by omega
   dsimp only at h;rw[<-hi1]at h;obtain⟨m,hm1,hm2,af⟩:=yM (P:=P) h;obtain⟨new,hn1,hn2,ag⟩:=vE (P:=P) hm2 hm1 (Nat.le_refl _);cases hc:(Nat.ble (Nat.mul m aa) 1073741824&&Nat.ble m 16777216&&Nat.beq (fE z.cellsOf) i.size&&z.fB)with
   |false=>rw[hc]at hn1;exact Bool.noConfusion hn1
   |true=>
    rw[hc]at hn1;simp only[cond_true]at hn1;simp only[Bool.and_eq_true]at hc;obtain⟨⟨⟨c1,c2⟩,c3⟩,c4⟩:=hc;have c1:m*i.bytes≤1073741824:=by rw[hi2];exact Nat.le_of_ble_eq_true c1
    have c2:=Nat.le_of_ble_eq_true c2;have c3:=Nat.eq_of_beq_eq_true c3;rw[fO]at c3;have hzs:am.cells.size=i.size:=by rw[<-c3,(hi4 (λ _=>none)).cells.length];simp
    intro ι w S X J hr hS hX;obtain⟨D,news,hnews,F⟩:=ag ι n w X hr hX;have hl:=λ w=>af ι X w hX;split at hn1
    ·
      cases hS;cases m with
      |zero=>
       refine⟨_,w,ι,_,_,run_append_fits (news:=news) (w':=w) ht hu hd hi hl (hnews w λ _=>rfl) (by simp) (λ a ha=>by cases ha) (λ _=>rfl),hn1,.bF,hr.bump (Nat.le_succ n),(Step.refl _ _ _ _).bump (Nat.le_succ n)⟩
      |succ m'=>
       refine Hw (old:=[]) (olds:= #[]) (sLen:=0) (sCap:=0) (base:=none) (el:=some elem) (λ _ h=>Option.some.inj h) (by simpa using hn1) hr (Step.refl _ _ _ _) .nil F (by simpa using D) (by simp) hn2 ht hu hd hi hi3 hzs hl (hnews w.drew λ _=>rfl) (by simp[Builtin.firstCells]) (by omega) (by omega) (by simp only[Nat.zero_add];omega)
    .rename_i b off len al cap
     cases hc2:(Nat.beq i.size al&&Nat.ble (Nat.mul len aa) 1073741824&&Nat.ble len 16777216)with
     |false=>rw[hc2]at hn1;exact Bool.noConfusion hn1
     |true=>
      rw[hc2]at hn1;simp only[cond_true]at hn1;simp only[Bool.and_eq_true]at hc2;obtain⟨⟨d1,d2⟩,d3⟩:=hc2;have d1:=Nat.eq_of_beq_eq_true d1;subst d1;have d2:len*i.bytes≤1073741824:=by rw[hi2];exact Nat.le_of_ble_eq_true d2
      have d3:=Nat.le_of_ble_eq_true d3;have hfit:(len+m)*i.bytes≤140737488355328:=by rw[Nat.add_mul];omega
      obtain⟨κ,δ,C,a',cc,rfl,hlc,ha,O,hcap⟩:=uy hS;have I:news.toList.length=m*i.size:=by rw[<-F.length];exact hn2
      cases m with
      |zero=>
       have hw:news.toList=[]:=List.eq_nil_of_length_eq_zero (by rw[I];simp);exact⟨_,w,ι,_,_,run_append_fits (news:=news) (w':=w) ht hu hd hi hl (hnews w λ _=>rfl) (by simpa using hlc) (λ a _=>by rw[hw];rfl) (λ _=>rfl),hn1,hS,hr.bump (Nat.le_succ n),(Step.refl _ _ _ _).bump (Nat.le_succ n)⟩
      |succ m'=>
       dsimp only at hn1;rw[dO]at hn1;split at hn1
       .rename_i el c cn sp fz hb
        have ab:=hr.ob b _ _ _ _ hb O;have ac:=ab;obtain⟨arr,elem',fr,g1,g2,g3,g4,g5,g6,g7⟩:=ab
        have room:(m'+1)+len≤cc->fz=false->off+(len+(m'+1))*i.size≤cn->kk (.slice b off (len+(m'+1)) i.size cap) (H.put b (some (.cells el (Classical.choose (iK (β:=Bool) new (off+len*i.size) c)) cn sp false)))=true->
          ∃y w' aV v H',(Builtin.append_ #[t,u] J #[.slice (some a') len cc,X]).run P w= .ok y w'∧kk v H'=true∧VR aV v y∧Rel aV H' (n+1) w'∧Step ι H n w aV H' (n+1) w':=λ hroom hfz hin hkk=>by
         subst hfz;have ha':a'=⟨κ,δ+off,none⟩:=ha.resolve_left (by omega);subst ha';have e2:=(Classical.choose_spec (iK (β:=Bool) new (off+len*i.size) c)).2;have hin2:off+len*i.size+new.length≤cn:=by rw[hn2];rw[Nat.add_mul]at hin;omega
         obtain⟨p,q⟩:=zT hr hb O F D hin2 e2;refine⟨_,w.setCells κ (δ+(off+len*i.size)) news.toList,ι,_,_,run_append_fits (news:=news) ht hu hd hi hl (hnews w λ _=>rfl) (by omega) (λ a ha=>?_) (λ h=>by cases h),hkk,hS.retag (by omega),p.bump (Nat.le_succ n),q.bump (Nat.le_succ n)⟩;cases ha;rw[addr_add,Nat.add_assoc];exact qA ac (by rw[I,<-hn2];exact hin2) (F.oneCell D)
        have grows:∀U old (olds:Array Value)(EB:Option TypeId),(∀t,EB=some t->elem=t)->Rel ι U n w->Step ι H n w ι U n w->old.length=len*i.size->(∀c∈old,c.one=true)->dV ι old olds.toList->(∀w':World,(∀κ:Nat,w'.heap[κ]? =w.heap[κ]?)->(Builtin.firstCells i.size len (.slice (some a') len cc)).run P w'= .ok olds w')->
          cc<len+(m'+1)->grow EB old new (len+(m'+1)) i.size n U kk=true->
          ∃y w' aV v H',(Builtin.append_ #[t,u] J #[.slice (some a') len cc,X]).run P w= .ok y w'∧kk v H'=true∧VR aV v y∧Rel aV H' (n+1) w'∧Step ι H n w aV H' (n+1) w':=λ U old olds EB ae hrf hsf ol o1 ov L hgr hkk=>by
         obtain⟨y,w',aV,v,H',q1,q2,q3,q4,q5⟩:=Hw ae hkk hrf (Step.refl _ _ _ _) ov F (λ c hc=>(List.mem_append.1 hc).elim (o1 c) (D c)) ol hn2 ht hu hd hi hi3 hzs hl (hnews w.drew λ _=>rfl) (L w.drew λ _=>rfl) hgr (by omega) hfit (ty:=J);exact⟨y,w',aV,v,H',q1,q2,q3,q4,hsf.trans q5⟩
        have Y:∀a,a*i.size≤cc*i.size->a≤cc:=λ a h=>Nat.le_of_mul_le_mul_right h T;cases cap with
        |none=>
         simp only at hn1 hcap;cases hb1:Nat.ble (Nat.add off (Nat.mul (Nat.add len (m'+1)) i.size)) cn with
         |true=>
          rw[hb1]at hn1;simp only[cond_true]at hn1;have hb1:off+(len+(m'+1))*i.size≤cn:=Nat.le_of_ble_eq_true hb1;cases fz with
          |true=>exact Bool.noConfusion hn1
          |false=>
           simp only[cond_false]at hn1;rw[(Classical.choose_spec (iK (β:=Bool) new (Nat.add off (Nat.mul len i.size)) c)).1,iU]at hn1;have Z:(len+(m'+1))*i.size≤cc*i.size:=by omega
           exact room (by have:=Y _ Z;omega) rfl hb1 hn1
         |false=>
          rw[hb1]at hn1;have hb1:¬off+(len+(m'+1))*i.size≤cn:=λ hle=>by
           have:Nat.ble (Nat.add off (Nat.mul (Nat.add len (m'+1)) i.size)) cn=true:=Nat.ble_eq_true_of_le hle;rw[this]at hb1;cases hb1
          simp only[cond_false]at hn1;cases sp with
          |true=>
           simp only[cond_true]at hn1;cases he:(Nat.beq (Nat.add off (Nat.mul len i.size)) cn&& !fz)with
           |false=>rw[he]at hn1;exact Bool.noConfusion hn1
           |true=>
            rw[he]at hn1;simp only[cond_true]at hn1;simp only[Bool.and_eq_true,Bool.not_eq_true']at he;obtain⟨he,rfl⟩:=he;have he:off+len*i.size=cn:=Nat.eq_of_beq_eq_true he;obtain⟨old,o1,o2,o3,o4⟩:=DZ (P:=P) (cap:=none) hb hn1;rw[iU]at o1;obtain⟨E,olds,L,ov⟩:=o4 ι n w _ hr hS;by_cases hroom:len+(m'+1)≤cc
            .have ha':a'=⟨κ,δ+off,none⟩:=ha.resolve_left (by omega)
             subst ha';unfold grow at o1;rw[qW]at o1;obtain⟨p,q,r⟩:=OG (EB:=M_ el elem off) hr hb O he o2 o3 hn2 F (λ c hc=>(List.mem_append.1 hc).elim (E c) (D c)) hcap hroom λ t h=>⟨(Bt h).2.1,(Bt h).1⟩;refine⟨_,_,_,_,_,run_append_fits (news:=news) (w':=w.setCells κ (δ+(off+len*i.size)) news.toList) ht hu hd hi hl (hnews w λ _=>rfl) hroom (λ a ha=>?_) (λ h=>by cases h),o1,p,q,r⟩;cases ha;rw[addr_add,Nat.add_assoc];have hmm:(len+(m'+1))*i.size≤cc*i.size:=Nat.mul_le_mul_right _ hroom;rw[Nat.add_mul]at hmm;have hst:=run_storeCells_cells (P:=P) κ (δ+(off+len*i.size)) news.toList 0 w (λ j hj=>by
              rw[I]at hj;simp[World.cell?,g1];omega) (λ j hj=>by
              rw[I]at hj;have:=g6 rfl (δ+(off+len*i.size)+j) (by omega) (by omega);simp[World.frozen?,g1];omega) (F.oneCell D)
             simpa using hst
            .exact grows _ old olds _ (λ t h=>(Bt h).2.2) (hr.forget) ((Step.refl _ _ _ _).forget O) o2 E ov L (by omega) o1
          |false=>
           simp only[cond_false]at hn1;obtain⟨old,o1,o2,o3,o4⟩:=DZ (P:=P) (cap:=none) hb hn1;obtain⟨E,olds,L,ov⟩:=o4 ι n w _ hr hS;have hC:=g4 rfl;refine grows _ old olds _ (λ t h=>Option.some.inj h) hr (Step.refl _ _ _ _) o2 E ov L ?_ o1;rcases Nat.lt_or_ge cc (len+(m'+1))with hlt|hge
           .exact hlt
           .have:(len+(m'+1))*i.size≤cc*i.size:=Nat.mul_le_mul_right _ hge
            omega
        |some cp=>
         simp only at hn1 hcap;obtain⟨rfl,hcap⟩:=hcap;cases hb1:(Nat.ble (Nat.add len (m'+1)) cc&&Nat.ble (Nat.add off (Nat.mul (Nat.add len (m'+1)) i.size)) cn)with
         |true=>
          rw[hb1]at hn1;simp only[cond_true]at hn1;simp only[Bool.and_eq_true]at hb1;have hb2:len+(m'+1)≤cc:=Nat.le_of_ble_eq_true hb1.1;have hb1:off+(len+(m'+1))*i.size≤cn:=Nat.le_of_ble_eq_true hb1.2;cases fz with
          |true=>exact Bool.noConfusion hn1
          |false=>
           simp only[cond_false]at hn1;rw[(Classical.choose_spec (iK (β:=Bool) new (Nat.add off (Nat.mul len i.size)) c)).1,iU]at hn1;exact room (by omega) rfl hb1 hn1
         |false=>
          rw[hb1]at hn1;simp only[cond_false]at hn1;cases hb2:Nat.ble (Nat.add len (m'+1)) cc with
          |true=>rw[hb2]at hn1;exact Bool.noConfusion hn1
          |false=>
           rw[hb2]at hn1;simp only[cond_false]at hn1;obtain⟨old,o1,o2,o3,o4⟩:=DZ (P:=P) (cap:=some cc) hb hn1;obtain⟨E,olds,L,ov⟩:=o4 ι n w _ hr hS;refine grows _ old olds _ (λ t h=>Option.some.inj h) hr (Step.refl _ _ _ _) o2 E ov L ?_ o1;rcases Nat.lt_or_ge cc (len+(m'+1))with hlt|hge
           .exact hlt
           .have:Nat.ble (Nat.add len (m'+1)) cc=true:=Nat.ble_eq_true_of_le hge
            rw[this]at hb2;cases hb2
       .cases hn1
    .cases hn1
  .cases h
 .cases h
end
end Go.cK
end
section
namespace Go.cK
section
variable {P:Program} {T:Te} {H:Hp} {n:Nat}
theorem rX:∀{a b:List AV},pV a b=true->a=b
 |[],[],_=>rfl
 | .bool x::s,.bool y::bs,h=>by
   simp only[pV,Bool.and_eq_true,beq_iff_eq]at h;rw[h.1,rX h.2]
 | .int k x::s,.int k' y::bs,h=>by
   simp only[pV,Bool.and_eq_true]at h;obtain⟨h1,h2⟩:=h;split at h1
   .rename_i hk
    subst hk;rw[sZ]at h1;rw[rX h2,eq_of_beq h1]
   .cases h1
 | .str x::s,.str y::bs,h=>by
   simp only[pV,Bool.and_eq_true]at h;obtain⟨h1,h2⟩:=h;rw[Cw]at h1;rw[rX h2,of_decide_eq_true h1]
theorem OH{a b:AV}(h:EA a b=true):a=b:=by
 unfold EA at h;split at h
 .rw[rX h]
 .simpa using rX h
theorem Hy{ι:Pl}{v:AV}{X:Value}{d:Nat}(h:rP v=true)(hX:VR ι v X):Instr.sameBits d X X=true:=by
 cases hX<;>simp[rP]at h<;>cases d<;>simp[Instr.sameBits,beq_toListBytes]
theorem HY{ι:Pl}{d:Nat}:∀{vs:List AV}{xs:List Value},(∀c∈vs,rP c=true)->dV ι vs xs->((xs.zip xs).all λ(x,y)=>Instr.sameBits d x y)=true
 |_,_,_,.nil=>rfl
 |_,_,h,.cons hx t=>by
  simp only[List.zip_cons_cons,List.all_cons,Hy (h _ (List.mem_cons_self ..)) hx,Bool.true_and];exact HY (λ c hc=>h c (List.mem_cons_of_mem _ hc)) t
theorem Ls{v:AV}(h:zP v=true):rP v=true∨∃cs,v= .agg cs∧∀c∈cs,rP c=true:=by
 cases v with
 |agg cs=>exact .inr ⟨cs,rfl,by simpa[zP]using h⟩
 |_=>exact .inl h
theorem sameBits_self{ι:Pl}{v:AV}{X:Value}{d:Nat}(h:zP v=true)(hX:VR ι v X):Instr.sameBits (d+1) X X=true:=by
 rcases Ls h with h|⟨cs,rfl,h'⟩
 .exact Hy h hX
 .clear h
  cases hX with
  |agg hl h1=>
   simp only[Instr.sameBits,beq_self_eq_true,Bool.true_and];exact HY h' hl
theorem H7{kt:TypeId}{key val:AV}:∀{es es':List (AV×AV)},JF P kt key val es=some es'->
  (vD P kt key es=some none∧es'=es++[(key,val)])∨(∃j v,vD P kt key es=some (some v)∧mpos P kt key es=some (some j)∧es[j]? =some (key,v)∧es'=es.set j (key,val))
 |[],es',h=>by cases h;exact .inl ⟨rfl,rfl⟩
 |e::es,es',h=>by
  unfold JF at h;split at h
  .rename_i hq
   cases hf:EA key e.1 with
   |false=>rw[hf]at h;cases h
   |true=>
    rw[hf]at h;cases h;exact .inr ⟨0,e.2,by simp[vD,hq],by simp[mpos,hq],by simp;rw[OH hf],rfl⟩
  .rename_i hq
   cases hm:JF P kt key val es with
   |none=>rw[hm]at h;cases h
   |some es1=>
    rw[hm]at h;cases h;rcases H7 hm with⟨a,b⟩|⟨j,v,a,b,c,d⟩
    .exact .inl ⟨by simp[vD,hq,a],by simp[b]⟩
    .exact .inr ⟨j+1,v,by simp[vD,hq,a],by simp[mpos,hq,b],by simpa using c,by simp[d]⟩
  .cases h
theorem dV.set{ι:Pl}:∀{vs:List AV}{xs:List Value}{v:AV}{x:Value}(j:Nat),dV ι vs xs->VR ι v x->dV ι (vs.set j v) (xs.set j x)
 |_,_,_,_,_,.nil,_=>by simp;exact .nil
 |_,_,_,_,0,.cons _ t,h=> .cons h t
 |_,_,_,_,j+1,.cons hx t,h=> .cons hx (t.set j h)
theorem wR{t:TypeId}{m key val:AV}{kk:Hp->Bool}(h:oG P bn t m key val H kk=true):
  ∃H',kk H'=true∧∀ι n w M K X,Rel ι H n w->VR ι m M->VR ι key K->VR ι val X->∃w',(Instr.mapUpdate t M K X).run P w= .ok () w'∧Rel ι H' n w'∧Step ι H n w ι H' n w':=by
 unfold oG at h;split at h
 .rename_i kt et b hu
  split at h
  .rename_i es ver hb
   cases hk:rO P 8 kt key with
   |false=>rw[hk]at h;exact Bool.noConfusion h
   |true=>
    rw[hk]at h;simp only[cond_true]at h;split at h
    .rename_i es' hp
     rw[lJ,dO,iU]at h;refine⟨_,h,λ ι n w M K X hr hM hK hX=>?_⟩;cases hM with
     |map s=>
      rename_i κ δ C;obtain⟨arr,clock,g1,g2,g3,g4⟩:=hr.ob b _ _ _ _ hb s;have hlt:κ<w.heap.size:=(Array.getElem?_eq_some_iff.1 g1).1
      have fin:∀arr' clock',(Instr.mapUpdate t (.map (some κ)) K X).run P w= .ok () {w with heap:=w.heap.setIfInBounds κ (.map arr' clock')}->Nb ι es' arr' clock'->
        ∃w',(Instr.mapUpdate t (.map (some κ)) K X).run P w= .ok () w'∧Rel ι (H.put b (some (.map es' (ver+1)))) n w'∧Step ι H n w ι (H.put b (some (.map es' (ver+1)))) n w':=λ arr' clock' hrun hm=>by
       refine⟨_,hrun,hr.write hb s (λ κ' hne=>?_) (by simp) rfl rfl rfl ⟨arr',clock',?_,hm⟩ λ es0 ver0 e=>?_⟩
       .simp[Array.getElem?_setIfInBounds_ne (Ne.symm hne)]
       .simp[hlt]
       .cases e;exact⟨es,ver,rfl,Nat.lt_succ_self _⟩
      have hck:=qL (e:=false) (w:=w) 8 hk hK (by decide:8≤10000);rcases H7 hp with⟨p1,p2⟩|⟨j,v,p1,p2,p3,p4⟩
      .obtain⟨x,hx,h2⟩:=rQ (w:=w) hK hk g2 p1
       rcases h2 with⟨_,rfl⟩|⟨v',j,e,a,_⟩
       .refine fin (arr.push {key:=K,val:=X,born:=clock}) (clock+1) ?_ ⟨?_,?_,?_⟩
        .simp[Instr.mapUpdate,run_underlying hu,zQ g1,hck,hx,MapKept.run_setObj_map _ g1]
        .rw[p2]
         refine⟨?_,?_⟩
         .simp only[List.map_append,Array.toList_push,List.map_cons,List.map_nil]
          exact g2.1.append (.cons hK .nil)
         .simp only[List.map_append,Array.toList_push,List.map_cons,List.map_nil]
          exact g2.2.append (.cons hX .nil)
        .intro e he
         rw[Array.toList_push,List.mem_append]at he;rcases he with he|he
         .have:=g3 e he;omega
         .simp at he;subst he;exact Nat.lt_succ_self _
        .rw[Array.toList_push,List.map_append,List.nodup_append]
         refine⟨g4,by simp,λ a ha b hb'=>?_⟩;obtain⟨e,he,rfl⟩:=List.mem_map.1 ha;have:=g3 e he;simp at hb';omega
       .cases a
      .obtain⟨x,hx,h2⟩:=rQ (w:=w) hK hk g2 p1
       rcases h2 with⟨h2,_⟩|⟨v',j',e,a,rfl,c,d1,d2⟩
       .cases h2
       .rw[p2]at d2
        cases d2;obtain⟨y,hy1,hy2⟩:=g2.1.get (i:=j) (v:=key) (by simp[p3]);have hky:e.key=y:=by simp[c]at hy1;exact hy1
        subst hky;have hkk:e.key=K:=Rl (Eu hk) hy2 hK;have hce:arr[j]? =some e:=by rw[<-Array.getElem?_toList];exact c
        have em:(arr.modify j λ e=>{e with key:=K,val:=X}).toList=arr.toList.set j {e with key:=K,val:=X}:=by
         apply List.ext_getElem?;intro i;rw[Array.getElem?_toList,Array.getElem?_modify,List.getElem?_set];by_cases hij:j=i
         .subst hij
          simp[hce];exact(Array.getElem?_eq_some_iff.1 hce).1
         .simp[hij]
        have eb:(arr.modify j λ e=>{e with key:=K,val:=X}).toList.map (·.born)=arr.toList.map (·.born):=by
         rw[em,List.map_set];apply List.ext_getElem?;intro i;rw[List.getElem?_set];by_cases hij:j=i
         .subst hij
          have:=(List.getElem?_eq_some_iff.1 c).1;have hj:j<arr.size:=by simpa using this
          have he:arr[j]=e:=(Array.getElem?_eq_some_iff.1 hce).2;simp[hj,he]
         .simp[hij]
        refine fin (arr.modify j λ e=>{e with key:=K,val:=X}) clock ?_ ⟨?_,?_,?_⟩
        .have hs:Instr.sameBits 10000 K K=true:=sameBits_self (Eu hk) hK
         simp[Instr.mapUpdate,run_underlying hu,zQ g1,hck,hx,hce,hkk,Instr.keyThatStays,hs,MapKept.run_setObj_map _ g1]
        .rw[p4]
         refine⟨?_,?_⟩
         .rw[em,List.map_set,List.map_set]
          exact g2.1.set j hK
         .rw[em,List.map_set,List.map_set]
          exact g2.2.set j hX
        .intro e1 he1
         have:e1.born∈arr.toList.map (·.born):=by rw[<-eb];exact List.mem_map_of_mem he1
         obtain⟨e2,he2,e3⟩:=List.mem_map.1 this;rw[<-e3];exact g3 e2 he2
        .rw[eb];exact g4
    .cases h
  .cases h
 .cases h
end
end Go.cK
end
section
namespace Go.cK
section
variable {P:Program} {T:Te} {H:Hp} {n:Nat}
theorem zV{ι:Pl}{w:World}{obj:Obj}{C:Nat}{ob:Ob}(hr:Rel ι H n w)(s:∀aV,ι.le aV->aV n=some (w.heap.size,0,C)->qo aV (H.put n (some ob)) (w.alloc obj) ob w.heap.size 0 C):
  Rel (ι.upd n (w.heap.size,0,C)) (H.put n (some ob)) (n+1) (w.alloc obj)∧Step ι H n w (ι.upd n (w.heap.size,0,C)) (H.put n (some ob)) (n+1) (w.alloc obj):=by
 have hid:=(hr.fresh n (Nat.le_refl _)).1;have hH:=(hr.fresh n (Nat.le_refl _)).2;exact⟨((hr.bump (Nat.le_succ n)).grow hid (Nat.lt_succ_self n) hH).born hid (Nat.lt_succ_self n) (by rw[Tr.get_put,if_pos rfl]) (s _ (Pl.rT _ hid) (Pl.iD _ _ _)),
  (((Step.refl ι H n w).bump (Nat.le_succ n)).grow hid (Nat.le_refl n)).born hid (Nat.le_refl n)⟩
theorem JG{t:TypeId}{x:AV}{kk:AV->Hp->Bool}(h:CK P bn t x n H kk=true):
  ∃v H',kk v H'=true∧∀ι w X,Rel ι H n w->VR ι x X->∃y w' aV,(Instr.range t X).run P w= .ok y w'∧VR aV v y∧Rel aV H' (n+1) w'∧Step ι H n w aV H' (n+1) w':=by
 unfold CK at h;split at h
 .rename_i s hu
  rw[iU]at h;refine⟨_,_,h,λ ι w X hr hX=>?_⟩;cases hX with
  |str S=>
   have:=zV (obj:= .stringIter S 0) (C:=0) (ob:= .uw (S.data.toList.map UInt8.toNat) 0) hr λ aV _ _=>⟨rfl,S,iV _ _,Nat.zero_le _,by simp⟩;exact⟨_,_,_,by simp[Instr.range,run_underlying hu],.ptr 0 (Pl.iD _ _ _),this⟩
 .rename_i kt et hu
  rw[iU]at h;refine⟨_,_,h,λ ι w X hr hX=>?_⟩;cases hX;have:=zV (obj:= .mapIter none 0 #[] 0) (C:=0) (ob:= .uM) hr λ aV _ _=>⟨rfl,0,#[],0,iV _ _⟩;exact⟨_,_,_,run_range_nilMap w t kt et hu,.ptr 0 (Pl.iD _ _ _),this⟩
 .rename_i kt et m hu
  split at h
  .rename_i es ver hb
   rw[iU]at h;refine⟨_,_,h,λ ι w X hr hX=>?_⟩;cases hX with
   |map z=>
    rename_i κ δ C;have hmn:m≠n:=λ e=>by subst e;rw[(hr.fresh m (Nat.le_refl _)).1]at z;cases z
    have D:=hr.ob m _ _ _ _ hb z;obtain⟨arr,clock,g1,g2⟩:=D;have hget:∀{ob:Ob},(H.put n (some ob)).get m=some (.map es ver):=by intro ob;rw[Tr.get_put,if_neg hmn];exact hb
    have:=zV (obj:= .mapIter (some κ) clock #[] clock) (C:=0) (ob:= .qN m ver es none) hr λ aV hle _=>⟨rfl,κ,δ,C,clock,#[],clock,hle _ _ z,iV _ _,λ es' ver' h'=>by
     rw[hget]at h';cases h';exact Nat.le_refl _,λ es' h'=>by
     rw[hget]at h';cases h';have hmr:Nb aV es arr clock:=⟨⟨g2.entries.1.mono hle,g2.entries.2.mono hle⟩,g2.born,g2.nodup⟩;refine⟨arr,by rw[qO _ _ (Array.getElem?_eq_some_iff.1 g1).1];exact g1,rfl,hmr,by simp,?_,by simp⟩;have:arr.toList.filter (λ e=> !(#[]:Array Nat).contains e.born)=arr.toList:=by
      rw[List.filter_eq_self];simp
     rw[this];exact hmr.entries⟩
    exact⟨_,_,_,run_range_map w t kt et κ arr clock hu g1,.ptr 0 (Pl.iD _ _ _),this⟩
  .cases h
 .cases h
end
end Go.cK
end
