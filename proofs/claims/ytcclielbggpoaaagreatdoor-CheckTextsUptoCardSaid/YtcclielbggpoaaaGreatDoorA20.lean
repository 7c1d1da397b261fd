/- Part of the proof of CheckTexts (see the last text). -/
import Derived.Laws.MakeOwn
import Derived.Laws.OwnMore
import Derived.Laws.Slices
import Derived.LoopN
import Derived.Orders
import Derived.RowKit3
import GoSem.ClaimFn
set_option linter.all false
section
namespace Go.cK
inductive Tr (α:Type)where
 |nil
 |node (v:Option α) (l r:Tr α)
section tr
variable {α β:Type}
noncomputable def Tr.get(t:Tr α):Nat->Option α:=
 Tr.rec (λ _=>none) (λ v _ _ il ir k=>Nat.rec v (λ k' _=>cond (Nat.beq (Nat.mod (Nat.succ k') 2) 0) (ir (Nat.div (Nat.succ k') 2)) (il (Nat.div (Nat.succ k') 2))) k) t
noncomputable def fT(t:Tr α)(k:Tr α->β):β:=Tr.rec (k .nil) (λ v l r _ _=>k (.node v l r)) t
noncomputable def Ow(t:Tr α)(f:Option α->Tr α->Tr α->β):β:=Tr.rec (f none .nil .nil) (λ v l r _ _=>f v l r) t
noncomputable def vw(x:Option α)(n:Nat):Tr α->Nat->Tr α:=
 Nat.rec (λ t _=>t) (λ _ ih t k=>Ow t λ v l r=>Nat.rec (.node x l r) (λ k' _=>
  cond (Nat.beq (Nat.mod (Nat.succ k') 2) 0) (fT (ih r (Nat.div (Nat.succ k') 2)) λ s=> .node v l s) (fT (ih l (Nat.div (Nat.succ k') 2)) λ s=> .node v s r)) k) n
noncomputable def Tr.put(t:Tr α)(k:Nat)(x:Option α):Tr α:=vw x (Nat.succ k) t k
theorem Tr.get_nil(k:Nat):(Tr.nil:Tr α).get k=none:=rfl
theorem Tr.wJ(v:Option α)(l r:Tr α)(k:Nat):
  (Tr.node v l r).get k=if k=0 then v else if k% 2=0 then r.get (k/2)else l.get (k/2):=by
 cases k with
 |zero=>rfl
 |succ k=>
  show cond (Nat.beq ((k+1)% 2) 0) (r.get ((k+1)/2)) (l.get ((k+1)/2))=_;rw[if_neg (by omega)];by_cases h:(k+1)% 2=0
  .rw[if_pos h,h];rfl
  .rw[if_neg h]
   have:(k+1)% 2=1:=by omega
   rw[this];rfl
theorem iU(t:Tr α)(k:Tr α->β):fT t k=k t:=by cases t<;>rfl
theorem T_(t:Tr α)(k:Nat):t.get k=Ow t λ v l r=>if k=0 then v else if k% 2=0 then r.get (k/2)else l.get (k/2):=by
 cases t with
 |nil=>
  show none=_;simp only[Ow,Tr.get_nil];split<;>simp
 |node v l r=>exact Tr.wJ v l r k
theorem Hq(x:Option α)(n:Nat)(t:Tr α)(k:Nat):vw x (n+1) t k=Ow t λ v l r=>
  if k=0 then .node x l r else if k% 2=0 then .node v l (vw x n r (k/2))else .node v (vw x n l (k/2)) r:=by
 cases k with
 |zero=>rfl
 |succ k=>
  show(Ow t λ v l r=>cond (Nat.beq ((k+1)% 2) 0) (fT (vw x n r ((k+1)/2)) λ s=>Tr.node v l s) (fT (vw x n l ((k+1)/2)) λ s=>Tr.node v s r))=_;congr 1;funext v l r;rw[if_neg (by omega),iU,iU];by_cases h:(k+1)% 2=0
  .rw[if_pos h,h];rfl
  .rw[if_neg h]
   have:(k+1)% 2=1:=by omega
   rw[this];rfl
theorem Rf(x:Option α):∀(n:Nat)(t:Tr α)(k j:Nat),k<n->(vw x n t k).get j=if j=k then x else t.get j:=by
 intro n;induction n with
 |zero=>intro t k j h;omega
 |succ n ih=>
  intro t k j h;rw[Hq,T_ t j]
  have key:∀v l r,(if k=0 then Tr.node x l r else if k% 2=0 then .node v l (vw x n r (k/2))else .node v (vw x n l (k/2)) r).get j=
    if j=k then x else(if j=0 then v else if j% 2=0 then r.get (j/2)else l.get (j/2)):=by
   intro v l r;by_cases hk:k=0
   .subst hk
    rw[if_pos rfl,Tr.wJ];by_cases hj:j=0
    .rw[if_pos hj,if_pos hj]
    .rw[if_neg hj,if_neg hj,if_neg hj]
   .rw[if_neg hk]
    by_cases he:k% 2=0
    .rw[if_pos he,Tr.wJ,ih _ _ _ (by omega)]
     by_cases hj:j=0
     .rw[if_pos hj,if_neg (by omega),if_pos hj]
     .rw[if_neg hj,if_neg hj]
      by_cases s:j% 2=0
      .rw[if_pos s,if_pos s]
       by_cases hd:j/2=k/2
       .rw[if_pos hd,if_pos (by omega)]
       .rw[if_neg hd,if_neg (by intro h;exact hd (by rw[h]))]
      .rw[if_neg s,if_neg s,if_neg (by intro h;rw[h]at s;exact s he)]
    .rw[if_neg he,Tr.wJ,ih _ _ _ (by omega)]
     by_cases hj:j=0
     .rw[if_pos hj,if_neg (by omega),if_pos hj]
     .rw[if_neg hj,if_neg hj]
      by_cases s:j% 2=0
      .rw[if_pos s,if_pos s,if_neg (by intro h;rw[h]at s;exact he s)]
      .rw[if_neg s,if_neg s]
       by_cases hd:j/2=k/2
       .rw[if_pos hd,if_pos (by omega)]
       .rw[if_neg hd,if_neg (by intro h;exact hd (by rw[h]))]
  cases t with
  |nil=>exact key none .nil .nil
  |node v l r=>exact key v l r
theorem Tr.get_put(t:Tr α)(k:Nat)(x:Option α)(j:Nat):(t.put k x).get j=if j=k then x else t.get j:=
 Rf x _ t k j (Nat.lt_succ_self k)
end tr
end Go.cK
end
namespace Go.cK
def Bz(next:Nat->List Nat):Nat->List Nat->List Nat->Nat->List Nat
 |0,_,seen,_=>seen.reverse
 |_+1,[],seen,_=>seen.reverse
 |n+1,f::todo,seen,m=>cond (m.testBit f) (Bz next n todo seen m) (Bz next n (next f++todo) (f::seen) (m|||2^f))
theorem vH{P:Program}{next:Nat->List Nat}(hn:∀g,(P.funcs[g]?).elim [] P.leadsTo=next g):∀(n:Nat)(todo seen:List Nat)(m:Nat),(∀x,seen.contains x=m.testBit x)->
  P.closureVia n todo seen=Bz next n todo seen m
 |0,_,_,_,_=>by simp[Program.closureVia,Bz]
 |n+1,[],_,_,_=>by simp[Program.closureVia,Bz]
 |n+1,f::todo,seen,m,h=>by
  unfold Program.closureVia Bz;rw[h f];cases hb:m.testBit f with
  |true=>simp only[if_true,cond_true];exact vH hn n todo seen m h
  |false=>
   simp only[Bool.false_eq_true,if_false,cond_false];rw[hn];refine vH hn n _ _ _ λ x=>?_;rw[List.contains_cons,h,Nat.testBit_or,Nat.testBit_two_pow,Bool.or_comm];congr 1;by_cases e:x=f
   .subst e;simp
   .have e':¬f=x:=λ h=>e h.symm
    simp[e,e']
theorem Nj{P:Program}{next:Nat->List Nat}{f:FuncId}{k:Nat}(hn:∀g,(P.funcs[g]?).elim [] P.leadsTo=next g)(hk:(P.funcs.toList.map λ g=>(P.leadsTo g).length+1).sum=k):
  P.closure f=Bz next (1+k) [f] [] 0:=by
 unfold Program.closure;rw[hk];exact vH hn _ _ _ _ λ x=>by simp
end Go.cK
section
namespace Go.cK
inductive AV where
 |bool (b:Bool)
 |int (k:IntKind) (n:Int)
 |str (s:List Nat)
 |oM
 |ptr (b off:Nat)
 |bF
 |slice (b off len sz:Nat) (cap:Option Nat)
 |oN
 |map (b:Nat)
 |func (f:FuncId) (first captured:List AV)
 |qV
 |iface (t:TypeId) (v:AV)
 |oZ
 |agg (cs:List AV)
 |tuple (vs:List AV)
 deriving Inhabited
inductive Ob where
 |cells (el:Option TypeId) (c:Tr AV) (n:Nat) (sp fz:Bool)
 |map (es:List (AV×AV)) (ver:Nat)
 |qN (m:Nat) (ver:Nat) (left:List (AV×AV)) (cur:Option (AV×AV))
 |uM
 |uw (s:List Nat) (pos:Nat)
abbrev Hp:=Tr Ob
abbrev Te:=Tr AV
def AV.cellsOf:AV->List AV
 | .agg cs=>cs
 |v=>[v]
def AV.one:AV->Bool
 | .agg _| .tuple _=>false
 |_=>true
def AV.fB:AV->Bool
 | .tuple _=>false
 |_=>true
section base
variable {β:Type}
noncomputable def fJ(n:Nat)(k:Nat->β):β:=Nat.rec (k 0) (λ m _=>k (Nat.succ m)) n
noncomputable def vF(n:Int)(k:Int->β):β:=
 match n with
 | .ofNat m=>fJ m λ m=>k (.ofNat m)
 | .negSucc m=>fJ m λ m=>k (.negSucc m)
theorem dO(n:Nat)(k:Nat->β):fJ n k=k n:=by cases n<;>rfl
theorem pU(n:Int)(k:Int->β):vF n k=k n:=by cases n<;>simp[vF,dO]
noncomputable def o8(l:List AV):Nat->Te->(Te->Nat->β)->β:=
 List.rec (λ i t k=>k t i) (λ x _ ih i t k=>fT (t.put i (some x)) λ t=>fJ (Nat.succ i) λ i=>ih i t k) l
noncomputable def gather(c:Te)(off:Nat)(s:Nat)(fail:β):List AV->(List AV->β)->β:=
 Nat.rec (λ acc k=>k acc) (λ s ih acc k=>match c.get (Nat.add off s)with|some v=>ih (v::acc) k|none=>fail) s
end base
section types
variable (P:Program)
def fD(t:TypeId):Option Nat:=(P.info? t).map (·.size)
def tC(t:TypeId):Option Nat:=(P.info? t).map (·.bytes)
def iE(t:TypeId):Option Bool:=(P.underlying t).map λ d=>match d with| .struct _| .array _ _=>true|_=>false
def Mk:Value->Option AV
 | .bool b=>some (.bool b)
 | .int k n=>some (.int k n)
 | .string s=>some (.str (s.data.toList.map UInt8.toNat))
 | .pointer none=>some .oM
 | .slice none 0 0=>some .bF
 | .map none=>some .oN
 | .nilFunc=>some .qV
 | .nilIface=>some .oZ
 |_=>none
def OE:List Value->Option (List AV)
 |[]=>some []
 |v::l=>match Mk v,OE l with|some a,some s=>some (a::s)|_,_=>none
def cv:Value->Option AV
 | .agg cs=>(OE cs.toList).map .agg
 |v=>Mk v
def ni(t:TypeId):Option AV:=(P.info? t).bind λ i=>i.zero.bind cv
end types
def jC:IntKind->Nat
 | .i8=>128| .i16=>32768| .i32=>2147483648| .i64=>9223372036854775808
 | .u8=>256| .u16=>65536| .u32=>4294967296| .u64=>18446744073709551616
def oQ(k:IntKind)(n:Int):Int:=
 match n with
 | .ofNat m=>cond (Nat.blt m (jC k)) (.ofNat m) (k.wrap (.ofNat m))
 | .negSucc m=>cond (k.signed&&Nat.blt m (jC k)) (.negSucc m) (k.wrap (.negSucc m))
def vB:Int->Int->Bool
 | .ofNat a,.ofNat b=>Nat.blt a b
 | .ofNat _,.negSucc _=>false
 | .negSucc _,.ofNat _=>true
 | .negSucc a,.negSucc b=>Nat.blt b a
def wK:Int->Int->Bool
 | .ofNat a,.ofNat b=>Nat.beq a b
 | .negSucc a,.negSucc b=>Nat.beq a b
 |_,_=>false
noncomputable def seqB(a:List Nat):List Nat->Bool:=
 List.rec (λ b=>List.rec true (λ _ _ _=>false) b) (λ x _ ih b=>List.rec false (λ y ys _=>cond (Nat.beq x y) (ih ys) false) b) a
noncomputable def sW(a:List Nat):List Nat->Bool:=
 List.rec (λ b=>List.rec false (λ _ _ _=>true) b) (λ x _ ih b=>List.rec false (λ y ys _=>cond (Nat.blt x y) true (cond (Nat.beq x y) (ih ys) false)) b) a
noncomputable def tF{α β:Type}(l:List α):(List α->β)->β:=
 List.rec (λ k=>k []) (λ x _ ih k=>ih λ xs=>k (x::xs)) l
noncomputable def fE{α:Type}(l:List α):Nat:=List.rec (λ n=>n) (λ _ _ ih n=>fJ (Nat.succ n) ih) l 0
section ops
variable {β:Type} (P:Program) (fl:String->β)
noncomputable def eZ(T:Te)(o:Operand)(k:AV->β):β:=
 match o with
 | .tmp t=>match T.get t with
   |some v=>k v
   |none=>fl ""
 | .const v=>match cv v with
   |some a=>k a
   |none=>fl ""
 | .func f=>k (.func f [] [])
 | .global _=>fl ""
noncomputable def qz(T:Te):List Operand->(List AV->β)->β
 |[],k=>k []
 |o::l,k=>eZ fl T o λ v=>qz T l λ vs=>k (v::vs)
noncomputable def o9(t:TypeId)(a:AV)(H:Hp)(k:AV->β):β:=
 match a with
 | .ptr b off=>
   match H.get b with
   |some (.cells _ c _ _ _)=>
    match iE P t with
    |some true=>match fD P t with
     |some s=>gather c off s (fl "") [] λ l=>k (.agg l)
     |none=>fl ""
    |some false=>match c.get off with
     |some v=>k v
     |none=>fl ""
    |none=>fl ""
   |_=>fl ""
 |_=>fl ""
noncomputable def zf(t:TypeId)(a v:AV)(H:Hp)(k:Hp->β):β:=
 match a with
 | .ptr b off=>
   match H.get b with
   |some (.cells el c n sp false)=>
    match fD P t with
    |some s=>
     cond (Nat.beq (fE v.cellsOf) s&&Nat.ble (Nat.add off s) n&&v.fB)
      (o8 v.cellsOf off c λ c _=>fT (H.put b (some (.cells el c n sp false))) k) (fl "")
    |none=>fl ""
   |some _=>fl ""
   |none=>fl ""
 |_=>fl ""
noncomputable def vQ(el:Option TypeId)(vs:List AV)(sp:Bool)(id:Nat)(H:Hp)(k:Hp->β):β:=
 o8 vs 0 .nil λ c n=>fT (H.put id (some (.cells el c n sp false))) k
noncomputable def Gt(t:TypeId)(id:Nat)(H:Hp)(k:AV->Hp->β):β:=
 match ni P t with
 |some z=>cond z.fB (vQ (some t) z.cellsOf false id H λ H=>k (.ptr id 0) H) (fl "")
 |none=>fl ""
noncomputable def Jj(v:AV)(id:Nat)(H:Hp)(k:AV->Hp->β):β:=
 cond v.fB (vQ none v.cellsOf false id H λ H=>k (.ptr id 0) H) (fl "")
def lay:List AV->Nat->List AV->List AV
 |[],_,_=>[]
 |c::cs,0,[]=>c::cs
 |_::cs,0,v::vs=>v::lay cs 0 vs
 |c::cs,n+1,vs=>c::lay cs n vs
noncomputable def CG(place:Nat->Option (Nat×Nat)):List (Nat×AV)->List AV->(List AV->β)->β
 |[],cs,k=>k cs
 |(i,v)::rest,cs,k=>
  match place i with
  |none=>fl ""
  |some (off,size)=>
   cond (Nat.beq (fE v.cellsOf) size&&Nat.ble (Nat.add off size) (fE cs)&&v.fB)
    (tF (lay cs off v.cellsOf) λ cs=>CG place rest cs k) (fl "")
def placesOf:List Field->Option (List (Nat×Nat))
 |[]=>some []
 |f::fs=>match fD P f.type,placesOf fs with
  |some s,some l=>some ((f.offset,s)::l)
  |_,_=>none
def Du(t:TypeId):Option (List (Nat×Nat)):=
 match P.underlying t with
 |some (.struct fields)=>placesOf P fields.toList
 |_=>none
noncomputable def CJ(t:TypeId)(parts:List (Nat×AV))(k:AV->β):β:=
 match ni P t with
 |some (.agg zs)=>
  match P.underlying t with
  |some (.struct _)=>match Du P t with
   |some pl=>CG fl (λ i=>pl[i]?) parts zs λ cs=>k (.agg cs)
   |none=>fl ""
  |some (.array _ elem)=>match fD P elem with
   |some s=>CG fl (λ i=>some (i*s,s)) parts zs λ cs=>k (.agg cs)
   |none=>fl ""
  |_=>fl ""
 |_=>fl ""
def oO:Nat->List AV->List AV
 |0,_=>[]
 |n+1,z=>z++oO n z
noncomputable def rU(t:TypeId)(len:Nat)(parts:List (Nat×AV))(id:Nat)(H:Hp)(k:AV->Hp->β):β:=
 match P.underlying t with
 |some (.slice elem)=>
  match fD P elem,ni P elem with
  |some s,some z=>
   cond (Nat.blt 0 s&&Nat.ble (Nat.mul len s) 16777216&&Nat.beq (fE z.cellsOf) s&&z.fB)
    (tF (oO len z.cellsOf) λ zs=>CG fl (λ i=>some (i*s,s)) parts zs λ cs=>vQ none cs false id H λ H=>k (.slice id 0 len s none) H) (fl "")
  |_,_=>fl ""
 |_=>fl ""
noncomputable def uz(t:TypeId)(l c:AV)(id:Nat)(H:Hp)(k:AV->Hp->β):β:=
 match P.underlying t,l,c with
 |some (.slice elem),.int _ (.ofNat l),.int _ (.ofNat c)=>
  match fD P elem,ni P elem,tC P elem with
  |some s,some z,some D=>
   cond (Nat.blt 0 s&&Nat.ble l c&&Nat.ble (Nat.mul c s) 16777216&&Nat.ble (Nat.mul c D) 1073741824&&Nat.ble c 16777216&&Nat.beq (fE z.cellsOf) s&&z.fB)
    (tF (oO c z.cellsOf) λ zs=>vQ none zs false id H λ H=>k (.slice id 0 l s none) H) (fl "")
  |_,_,_=>fl ""
 |_,_,_=>fl ""
noncomputable def Bq(t:TypeId)(r:Option AV)(id:Nat)(H:Hp)(k:AV->Hp->β):β:=
 match r with
 |none=>fT (H.put id (some (.map [] 0))) λ H=>k (.map id) H
 |some (.int _ _)=>match P.underlying t with
  |some (.map _ _)=>fT (H.put id (some (.map [] 0))) λ H=>k (.map id) H
  |_=>fl ""
 |some _=>fl ""
noncomputable def zi(t:TypeId)(x:AV)(f:Nat)(k:AV->β):β:=
 match P.underlying t,x with
 |some (.struct fields),.agg cs=>match fields[f]? with
  |some fd=>match iE P fd.type,fD P fd.type with
   |some true,some s=>tF ((cs.drop fd.offset).take s) λ l=>cond (Nat.beq (fE l) s) (k (.agg l)) (fl "")
   |some false,_=>match cs[fd.offset]? with
    |some v=>k v
    |none=>fl ""
   |_,_=>fl ""
  |none=>fl ""
 |_,_=>fl ""
noncomputable def yN(t:TypeId)(x:AV)(f:Nat)(k:AV->β):β:=
 match P.underlying t,x with
 |some (.struct fields),.ptr b off=>match fields[f]? with
  |some fd=>match fD P fd.type with
   |some (Nat.succ _)=>fJ (Nat.add off fd.offset) λ o=>k (.ptr b o)
   |_=>fl ""
  |none=>fl ""
 |_,_=>fl ""
noncomputable def uq(t:TypeId)(x ix:AV)(k:AV->β):β:=
 match ix with
 | .int _ (.ofNat i)=>
   match P.underlying t,x with
   |some (.array len elem),.ptr b off=>match fD P elem with
    |some s=>cond (Nat.blt i len) (fJ (Nat.add off (Nat.mul i s)) λ o=>k (.ptr b o)) (fl "")
    |none=>fl ""
   |some (.slice elem),.slice b off len sz _=>match fD P elem with
    |some s=>cond (Nat.blt i len&&Nat.beq s sz) (fJ (Nat.add off (Nat.mul i s)) λ o=>k (.ptr b o)) (fl "")
    |none=>fl ""
   |_,_=>fl ""
 |_=>fl ""
noncomputable def Cy(t:TypeId)(x ix:AV)(k:AV->β):β:=
 match ix with
 | .int _ (.ofNat i)=>
   match P.underlying t,x with
   |some (.array len elem),.agg cs=>match iE P elem,fD P elem with
    |some true,some s=>cond (Nat.blt i len) (tF ((cs.drop (i*s)).take s) λ l=>cond (Nat.beq (fE l) s) (k (.agg l)) (fl "")) (fl "")
    |some false,some s=>cond (Nat.blt i len) (match cs[i*s]? with|some v=>k v|none=>fl "") (fl "")
    |_,_=>fl ""
   |some .string,.str s=>match s[i]? with
    |some b=>k (.int .u8 (.ofNat b))
    |none=>fl ""
   |_,_=>fl ""
 |_=>fl ""
noncomputable def bnd(v:Option AV)(dflt most:Nat)(k:Nat->β):β:=
 match v with
 |none=>k dflt
 |some (.int _ (.ofNat i))=>cond (Nat.ble i most) (k i) (fl "")
 |some _=>fl ""
def Ji(cap:Option Nat)(len:Nat):Nat:=match cap with|some c=>c|none=>len
noncomputable def Cz(t:TypeId)(x:AV)(lo hi mx:Option AV)(H:Hp)(k:AV->β):β:=
 match P.underlying t,x with
 |some .string,.str s=>match mx with
  |some _=>fl ""
  |none=>fJ (fE s) λ n=>bnd fl hi n n λ h=>bnd fl lo 0 h λ l=>tF ((s.drop l).take (h-l)) λ s=>k (.str s)
 |some (.slice elem),.bF=>match fD P elem,mx with
  |some _,none=>bnd fl hi 0 0 λ h=>bnd fl lo 0 h λ _=>k .bF
  |_,_=>fl ""
 |some (.slice elem),.slice b off len sz cap=>match fD P elem with
  |some s=>cond (Nat.beq s sz) (
   match mx with
   |none=>bnd fl hi len (Ji cap len) λ h=>bnd fl lo 0 h λ l=>fJ (Nat.add off (Nat.mul l s)) λ o=>fJ (Nat.sub h l) λ n=>
    match cap with
    |none=>k (.slice b o n s none)
    |some c=>fJ (Nat.sub c l) λ c=>k (.slice b o n s (some c))
   |some _=>bnd fl mx 0 (Ji cap len) λ m=>match hi with
    |none=>fl ""
    |some _=>bnd fl hi 0 m λ h=>bnd fl lo 0 h λ l=>fJ (Nat.add off (Nat.mul l s)) λ o=>fJ (Nat.sub h l) λ n=>fJ (Nat.sub m l) λ c=>k (.slice b o n s (some c))) (fl "")
  |none=>fl ""
 |some (.array n elem),.ptr b off=>match fD P elem,mx,H.get b with
  |some s,none,some (.cells _ _ cn _ _)=>cond (Nat.ble (Nat.add off (Nat.mul n s)) cn&&Nat.blt 0 s)
   (bnd fl hi n n λ h=>bnd fl lo 0 h λ l=>fJ (Nat.add off (Nat.mul l s)) λ o=>fJ (Nat.sub h l) λ m=>fJ (Nat.sub n l) λ c=>k (.slice b o m s (some c))) (fl "")
  |_,_,_=>fl ""
 |_,_=>fl ""
noncomputable def Br(x:AV)(i:Nat)(k:AV->β):β:=
 match x with
 | .tuple vs=>match vs[i]? with
   |some v=>k v
   |none=>fl ""
 |_=>fl ""
def eqFields(rec:TypeId->AV->AV->Option Bool):List Field->List AV->List AV->Option Bool
 |[],_,_=>some true
 |f::fs,xs,ys=>
  if f.name= "_" then none else
  match iE P f.type with
  |some false=>match xs[f.offset]?,ys[f.offset]? with
   |some x,some y=>match rec f.type x y with
    |some true=>eqFields rec fs xs ys
    |r=>r
   |_,_=>none
  |some true=>match fD P f.type with
   |some s=>match rec f.type (.agg ((xs.drop f.offset).take s)) (.agg ((ys.drop f.offset).take s))with
    |some true=>eqFields rec fs xs ys
    |r=>r
   |none=>none
  |none=>none
noncomputable def Dr:Nat->TypeId->AV->AV->Option Bool
 |0,_,_,_=>none
 |d+1,t,x,y=>
  match P.underlying t,x,y with
  |some .bool,.bool a,.bool b=>some (a==b)
  |some (.int _),.int k a,.int k' b=>if k=k' then some (wK a b)else none
  |some .string,.str a,.str b=>some (seqB a b)
  |some (.pointer _),.oM,.oM=>some true
  |some (.pointer _),.oM,.ptr _ _=>some false
  |some (.pointer _),.ptr _ _,.oM=>some false
  |some (.pointer e),.ptr b o,.ptr b' o'=>cond (Nat.beq b b'&&Nat.beq o o'&&(P.info? e).isSome) (some true) none
  |some (.interface _),.oZ,.oZ=>some true
  |some (.interface _),.oZ,.iface _ _=>some false
  |some (.interface _),.iface _ _,.oZ=>some false
  |some (.slice _),.bF,.bF=>some true
  |some (.slice _),.bF,.slice .. =>some false
  |some (.slice _),.slice ..,.bF=>some false
  |some (.map _ _),.oN,.oN=>some true
  |some (.map _ _),.oN,.map _=>some false
  |some (.map _ _),.map _,.oN=>some false
  |some (.func _ _ _),.qV,.qV=>some true
  |some (.func _ _ _),.qV,.func .. =>some false
  |some (.func _ _ _),.func ..,.qV=>some false
  |some (.struct fields),.agg xs,.agg ys=>if P.stoodInHeld t then none else eqFields P (Dr d) fields.toList xs ys
  |_,_,_=>none
def CF(rec:TypeId->AV->Bool)(cs:List AV):List Field->Bool
 |[]=>true
 |f::fs=>f.name != "_"&&(match iE P f.type with
  |some false=>match cs[f.offset]? with
   |some x=>rec f.type x
   |none=>false
  |some true=>match fD P f.type with
   |some s=>rec f.type (.agg ((cs.drop f.offset).take s))
   |none=>false
  |none=>false)&&CF rec cs fs
def rO:Nat->TypeId->AV->Bool
 |0,_,_=>false
 |d+1,t,v=>match P.underlying t,v with
  |some .bool,.bool _=>true
  |some (.int _),.int _ _=>true
  |some .string,.str _=>true
  |some (.struct fields),.agg cs=>CF P (rO d) cs fields.toList&&cs.all λ c=>match c with| .bool _| .int _ _| .str _=>true|_=>false
  |_,_=>false
noncomputable def pV:List AV->List AV->Bool
 |[],[]=>true
 | .bool a::s,.bool b::bs=>a==b&&pV s bs
 | .int k a::s,.int k' b::bs=>(if k=k' then wK a b else false)&&pV s bs
 | .str a::s,.str b::bs=>seqB a b&&pV s bs
 |_,_=>false
noncomputable def EA:AV->AV->Bool
 | .agg a,.agg b=>pV a b
 |a,b=>pV [a] [b]
noncomputable def JF(kt:TypeId)(key val:AV):List (AV×AV)->Option (List (AV×AV))
 |[]=>some [(key,val)]
 |e::es=>match Dr P 8 kt key e.1 with
  |some true=>cond (EA key e.1) (some ((key,val)::es)) none
  |some false=>(JF kt key val es).map (e::·)
  |none=>none
noncomputable def vD(kt:TypeId)(key:AV):List (AV×AV)->Option (Option AV)
 |[]=>some none
 |e::es=>match Dr P 8 kt key e.1 with
  |some true=>some (some e.2)
  |some false=>vD kt key es
  |none=>none
noncomputable def oG(t:TypeId)(m key val:AV)(H:Hp)(k:Hp->β):β:=
 match P.underlying t,m with
 |some (.map kt _),.map b=>match H.get b with
  |some (.map es ver)=>cond (rO P 8 kt key) (match JF P kt key val es with
   |some es=>tF es λ es=>fJ (Nat.succ ver) λ ver=>fT (H.put b (some (.map es ver))) k
   |none=>fl "") (fl "")
  |_=>fl ""
 |_,_=>fl ""
noncomputable def Ew(kt et:TypeId)(key:AV)(ok:Bool)(es:List (AV×AV))(k:AV->β):β:=
 cond (rO P 8 kt key) (match vD P kt key es with
  |some (some v)=>k (cond ok (.tuple [v,.bool true]) v)
  |some none=>match ni P et with
   |some z=>k (cond ok (.tuple [z,.bool false]) z)
   |none=>fl ""
  |none=>fl "") (fl "")
noncomputable def zR(t:TypeId)(x key:AV)(ok:Bool)(H:Hp)(k:AV->β):β:=
 match P.underlying t with
 |some (.map kt et)=>match x with
  | .oN=>Ew P fl kt et key ok [] k
  | .map b=>match H.get b with
    |some (.map es _)=>Ew P fl kt et key ok es k
    |_=>fl ""
  |_=>fl ""
 |_=>fl ""
noncomputable def Er(t:TypeId)(x:AV)(H:Hp)(k:AV->β):β:=
 match P.underlying t,x with
 |some .string,.str s=>fJ (fE s) λ n=>k (.int .i64 (.ofNat n))
 |some (.array n _),_=>k (.int .i64 (.ofNat n))
 |some (.slice _),.slice _ _ n _ _=>k (.int .i64 (.ofNat n))
 |some (.slice _),.bF=>k (.int .i64 (.ofNat 0))
 |some (.map _ _),.oN=>k (.int .i64 (.ofNat 0))
 |some (.map _ _),.map b=>match H.get b with
  |some (.map es _)=>fJ (fE es) λ n=>k (.int .i64 (.ofNat n))
  |_=>fl ""
 |_,_=>fl ""
noncomputable def tu(x:AV)(sz n:Nat)(H:Hp)(k:List AV->β):β:=
 match x with
 | .bF=>k []
 | .str s=>cond (Nat.beq sz 1) (tF ((s.take n).map λ b=>AV.int .u8 (.ofNat b)) k) (fl "")
 | .slice b off _ s _=>cond (Nat.beq s sz) (match H.get b with
   |some (.cells _ c _ _ _)=>gather c off (Nat.mul n sz) (fl "") [] k
   |_=>fl "") (fl "")
 |_=>fl ""
noncomputable def Bp(x:AV)(k:Nat->β):β:=
 match x with
 | .bF=>k 0
 | .str s=>fJ (fE s) k
 | .slice _ _ n _ _=>k n
 |_=>fl ""
def M_(el:Option TypeId)(elem:TypeId):Nat->Option TypeId
 |0=>match el with
  |some t=>cond (Nat.beq t elem) (some elem) none
  |none=>none
 |_=>none
noncomputable def grow(el:Option TypeId)(old new:List AV)(n sz:Nat)(id:Nat)(H:Hp)(k:AV->Hp->β):β:=
 vQ el (old++new) true id H λ H=>k (.slice id 0 n sz none) H
noncomputable def zU(t:TypeId)(s x:AV)(id:Nat)(H:Hp)(k:AV->Hp->β):β:=
 match P.underlying t with
 |some (.slice elem)=>match fD P elem,tC P elem,ni P elem with
  |some (Nat.succ sz'),some D,some z=>
   let sz:=Nat.succ sz'
   Bp fl x λ m=>tu fl x sz m H λ new=>
   cond (Nat.ble (Nat.mul m D) 1073741824&&Nat.ble m 16777216&&Nat.beq (fE z.cellsOf) sz&&z.fB)
   (match s with
   | .bF=>match m with
     |0=>k .bF H
     |Nat.succ _=>grow (some elem) [] new m sz id H k
   | .slice b off len E cap=>cond (Nat.beq sz E&&Nat.ble (Nat.mul len D) 1073741824&&Nat.ble len 16777216)
     (match m with
     |0=>k s H
     |Nat.succ _=>
      fJ (Nat.add len m) λ need=>
      match H.get b with
      |some (.cells el c n sp fz)=>
       cond (match cap with|some cp=>Nat.ble need cp&&Nat.ble (Nat.add off (Nat.mul need sz)) n|none=>Nat.ble (Nat.add off (Nat.mul need sz)) n)
        (cond fz (fl "") (o8 new (Nat.add off (Nat.mul len sz)) c λ c _=>fT (H.put b (some (.cells el c n sp false))) λ H=>k (.slice b off need sz cap) H))
        (match cap with
        |some cp=>cond (Nat.ble need cp) (fl "") (gather c off (Nat.mul len sz) (fl "") [] λ old=>grow (some elem) old new need sz id H k)
        |none=>cond sp
         (cond (Nat.beq (Nat.add off (Nat.mul len sz)) n&& !fz) (gather c off (Nat.mul len sz) (fl "") [] λ old=>fT (H.put b none) λ H=>grow (M_ el elem off) old new need sz id H k) (fl ""))
         (gather c off (Nat.mul len sz) (fl "") [] λ old=>grow (some elem) old new need sz id H k))
      |_=>fl "") (fl "")
   |_=>fl "") (fl "")
  |_,_,_=>fl ""
 |_=>fl ""
noncomputable def JE(t:TypeId)(d x:AV)(H:Hp)(k:AV->Hp->β):β:=
 match P.underlying t with
 |some (.slice elem)=>match fD P elem with
  |some (Nat.succ sz')=>
   let sz:=Nat.succ sz'
   match d with
   | .bF=>Bp fl x λ _=>k (.int .i64 (.ofNat 0)) H
   | .slice b off len s _=>cond (Nat.beq sz s) (Bp fl x λ m=>fJ (cond (Nat.ble m len) m len) λ n=>tu fl x sz n H λ new=>
    match H.get b with
    |some (.cells el c cn sp false)=>cond (Nat.ble (Nat.add off (Nat.mul n sz)) cn) (o8 new off c λ c _=>fT (H.put b (some (.cells el c cn sp false))) λ H=>k (.int .i64 (.ofNat n)) H) (fl "")
    |_=>fl "") (fl "")
   |_=>fl ""
  |_=>fl ""
 |_=>fl ""
noncomputable def xY(op:BinOp)(kd:IntKind)(x y:Int)(k:AV->β):β:=
 match op with
 | .add=>vF (oQ kd (Int.add x y)) λ r=>k (.int kd r)
 | .sub=>vF (oQ kd (Int.sub x y)) λ r=>k (.int kd r)
 | .mul=>vF (oQ kd (Int.mul x y)) λ r=>k (.int kd r)
 | .quo=>cond (wK y (.ofNat 0)) (fl "division by 0") (vF (oQ kd (Int.tdiv x y)) λ r=>k (.int kd r))
 | .rem=>cond (wK y (.ofNat 0)) (fl "division by 0") (vF (Int.tmod x y) λ r=>k (.int kd r))
 | .eql=>k (.bool (wK x y))
 | .neq=>k (.bool (!wK x y))
 | .lss=>k (.bool (vB x y))
 | .leq=>k (.bool (!vB y x))
 | .gtr=>k (.bool (vB y x))
 | .geq=>k (.bool (!vB x y))
 | .and=>bits Nat.land
 | .or=>bits Nat.lor
 | .xor=>bits Nat.xor
 | .andNot=>bits λ a b=>Nat.xor a (Nat.land a b)
 |_=>fl ""
where
 bits (f:Nat->Nat->Nat):β:=match x,y with
  | .ofNat a,.ofNat b=>cond (Nat.blt a (jC kd)&&Nat.blt b (jC kd)) (fJ (f a b) λ r=>k (.int kd (.ofNat r))) (fl "")
  |_,_=>fl ""
noncomputable def CB(left:Bool)(kd:IntKind)(x y:Int)(k:AV->β):β:=
 match x,y with
 | .ofNat a,.ofNat s=>cond (Nat.ble s kd.bits)
  (cond left (vF (oQ kd (.ofNat (Nat.mul a (Nat.pow 2 s)))) λ r=>k (.int kd r)) (fJ (Nat.div a (Nat.pow 2 s)) λ r=>k (.int kd (.ofNat r)))) (fl "")
 |_,_=>fl ""
noncomputable def M5(op:BinOp)(x y:List Nat)(k:AV->β):β:=
 match op with
 | .add=>tF (x++y) λ s=>cond (Nat.ble (fE s) 16777216) (k (.str s)) (fl "")
 | .eql=>k (.bool (seqB x y))
 | .neq=>k (.bool (!seqB x y))
 | .lss=>k (.bool (sW x y))
 | .leq=>k (.bool (!sW y x))
 | .gtr=>k (.bool (sW y x))
 | .geq=>k (.bool (!sW x y))
 |_=>fl ""
def Hu:Operand->Bool| .const _=>true|_=>false
noncomputable def rM(op:BinOp)(t:TypeId)(xo yo:Operand)(x y:AV)(k:AV->β):β:=
 match x,y with
 | .int kd a,.int kd' b=>match op with
   | .shl=>CB fl true kd a b k
   | .shr=>CB fl false kd a b k
   |op=>if kd=kd' then xY fl op kd a b k else fl ""
 | .str a,.str b=>M5 fl op a b k
 |x,y=>match op with
  | .eql=>cond (wC x y) (match Dr P 8 t x y with|some r=>k (.bool r)|none=>fl "") (fl "")
  | .neq=>cond (wC x y) (match Dr P 8 t x y with|some r=>k (.bool (!r))|none=>fl "") (fl "")
  |_=>fl ""
where
 wC (x y:AV):Bool:=match x,y with
  | .oZ,.oZ=>Hu xo||Hu yo
  | .agg _,.agg _=> !P.eqGuardType P.depth t
  |_,_=>true
noncomputable def Rk(op:UnOp)(x:AV)(k:AV->β):β:=
 match op,x with
 | .neg,.int kd n=>vF (oQ kd (Int.sub 0 n)) λ r=>k (.int kd r)
 | .not,.bool b=>k (.bool (!b))
 |_,_=>fl "unOp"
noncomputable def nM(src dst:TypeId)(x:AV)(H:Hp)(k:AV->β):β:=
 match P.underlying src,P.underlying dst,x with
 |some _,some (.int kd),.int _ n=>vF (oQ kd n) λ r=>k (.int kd r)
 |some .string,some .string,.str s=>k (.str s)
 |some (.slice e),some .string,x=>match P.underlying e with
  |some (.int .u8)=>match x with
   | .bF=>k (.str [])
   | .slice b off n sz _=>cond (Nat.beq sz 1) (match H.get b with
     |some (.cells _ c _ _ _)=>gather c off n (fl "") [] λ l=>tq l [] k
     |_=>fl "") (fl "")
   |_=>fl ""
  |_=>fl ""
 |some (.pointer t),some .unsafePointer,.ptr b off=>match fD P t,H.get b with
  |some (Nat.succ _),some (.cells _ _ n _ _)=>cond (Nat.blt off n) (k (.ptr b off)) (fl "")
  |_,_=>fl ""
 |some .unsafePointer,some (.pointer u),.ptr b off=>match fD P u,H.get b with
  |some _,some (.cells (some e) _ n false _)=>cond (liesAt P P.depth e (n/P.cellsOf e) off u 1) (k (.ptr b off)) (fl "")
  |_,_=>fl ""
 |_,_,_=>fl "convert"
where
 tq:List AV->List Nat->(AV->β)->β
  |[],acc,k=>tF acc.reverse λ s=>k (.str s)
  | .int .u8 (.ofNat b)::l,acc,k=>cond (Nat.blt b 256) (tq l (b::acc) k) (fl "")
  |_::_,_,_=>fl ""
end ops
end Go.cK
end
section
namespace Go.cK
inductive AX where
 |normal
 |exit (id:Nat)
 |ret
noncomputable def vR(rec:AV->AV->Bool):List AV->List AV->Bool
 |[],[]=>true
 |a::s,b::bs=>rec a b&&vR rec s bs
 |_,_=>false
noncomputable def lg:Nat->AV->AV->Bool
 |0,_,_=>false
 |d+1,a,b=>match a,b with
  | .bool a,.bool b=>a==b
  | .int k a,.int k' b=>if k=k' then wK a b else false
  | .str a,.str b=>seqB a b
  | .oM,.oM=>true
  | .ptr b o,.ptr b' o'=>Nat.beq b b'&&Nat.beq o o'
  | .bF,.bF=>true
  | .slice b o l s c,.slice b' o' l' s' c'=>Nat.beq b b'&&Nat.beq o o'&&Nat.beq l l'&&Nat.beq s s'&&(match c,c' with|none,none=>true|some c,some c'=>Nat.beq c c'|_,_=>false)
  | .oN,.oN=>true
  | .map b,.map b'=>Nat.beq b b'
  | .func f x y,.func f' x' y'=>Nat.beq f f'&&vR (lg d) x x'&&vR (lg d) y y'
  | .qV,.qV=>true
  | .iface t v,.iface t' v'=>Nat.beq t t'&&lg d v v'
  | .oZ,.oZ=>true
  | .agg a,.agg b=>vR (lg d) a b
  | .tuple a,.tuple b=>vR (lg d) a b
  |_,_=>false
def noisy(o:Oper):Bool:=
 match o.op with
 | .call c=>match c.callee with
   | .builtin .len| .builtin .max| .builtin .min=>false
   |_=>true
 | .move _| .assign _| .pick .. | .alloc _| .box .. | .build .. | .buildSlice .. | .load .. | .nilCheck _| .binOp .. | .unOp .. | .convert .. | .makeInterface ..
 | .makeFunc .. | .makeMap .. | .makeSlice .. | .slice .. | .fieldAddr .. | .field .. | .indexAddr .. | .index .. | .lookup .. | .extract .. =>false
 |_=>true
def lW(o:Oper):Bool:=
 match o.op with
 | .load .. | .lookup .. | .convert .. | .slice .. =>true
 | .call _=>true
 |_=>false
def allocs(o:Oper):Bool:=
 match o.op with
 | .alloc _| .box .. | .buildSlice .. | .makeMap .. | .makeSlice .. =>true
 |_=>false
section code
variable {β:Type} (P:Program) (fl:String->β) (alt:List β->β)
noncomputable def wO(T:Te):List (Nat×Operand)->(List (Nat×AV)->β)->β
 |[],k=>k []
 |(i,o)::l,k=>eZ fl T o λ v=>wO T l λ vs=>k ((i,v)::vs)
noncomputable def wP(T:Te)(o:Option Operand)(k:Option AV->β):β:=
 match o with
 |none=>k none
 |some x=>eZ fl T x λ v=>k (some v)
noncomputable def Jw(isMax:Bool):List AV->AV->(AV->β)->β
 |[],x,k=>k x
 | .int _ y::l,.int kd x,k=>Jw isMax l (.int kd (cond (cond isMax (vB x y) (vB y x)) y x)) k
 |_,_,_=>fl ""
noncomputable def cu(o:Oper)(T:Te)(H:Hp)(id:Nat)(k:AV->Hp->β):β:=
 match o.op with
 | .move x=>eZ fl T x λ v=>k v H
 | .assign x=>eZ fl T x λ v=>k v H
 | .pick c a b=>eZ fl T c λ c=>match c with
   | .bool true=>eZ fl T a λ v=>k v H
   | .bool false=>eZ fl T b λ v=>k v H
   |_=>fl "pick"
 | .alloc t=>Gt P fl t id H k
 | .box _ x=>eZ fl T x λ v=>Jj fl v id H k
 | .build t parts=>wO fl T parts.toList λ ps=>CJ P fl t ps λ v=>k v H
 | .buildSlice t len parts=>wO fl T parts.toList λ ps=>rU P fl t len ps id H k
 | .load t a=>eZ fl T a λ a=>o9 P fl t a H λ v=>k v H
 | .nilCheck x=>eZ fl T x λ v=>match v with
   | .ptr b off=>k (.ptr b off) H
   | .func f x y=>k (.func f x y) H
   | .slice b o l s c=>k (.slice b o l s c) H
   |_=>fl "nilCheck"
 | .binOp op t x y _=>eZ fl T x λ a=>eZ fl T y λ b=>rM P fl op t x y a b λ v=>k v H
 | .unOp op _ x=>eZ fl T x λ a=>Rk fl op a λ v=>k v H
 | .convert s d x=>eZ fl T x λ a=>nM P fl s d a H λ v=>k v H
 | .makeInterface t x=>eZ fl T x λ a=>match P.underlying t with
   |some (.interface _)=>fl "makeInterface"
   |some _=>k (.iface t a) H
   |none=>fl ""
 | .makeFunc (.func f) first captured=>qz fl T first.toList λ xs=>qz fl T captured.toList λ ys=>k (.func f xs ys) H
 | .makeMap t r=>wP fl T r λ r=>Bq P fl t r id H k
 | .makeSlice t l c=>eZ fl T l λ l=>eZ fl T c λ c=>uz P fl t l c id H k
 | .slice t x lo hi mx=>eZ fl T x λ a=>wP fl T lo λ lo=>wP fl T hi λ hi=>wP fl T mx λ mx=>Cz P fl t a lo hi mx H λ v=>k v H
 | .fieldAddr t x f=>eZ fl T x λ a=>yN P fl t a f λ v=>k v H
 | .field t x f=>eZ fl T x λ a=>zi P fl t a f λ v=>k v H
 | .indexAddr t x i=>eZ fl T x λ a=>eZ fl T i λ i=>uq P fl t a i λ v=>k v H
 | .index t x i=>eZ fl T x λ a=>eZ fl T i λ i=>Cy P fl t a i λ v=>k v H
 | .lookup t x i ok=>eZ fl T x λ a=>eZ fl T i λ i=>zR P fl t a i ok H λ v=>k v H
 | .extract x i=>eZ fl T x λ a=>Br fl a i λ v=>k v H
 | .call c=>match c.callee with
   | .builtin .len=>match c.argTypes[0]?,c.args.toList with
     |some t,[x]=>eZ fl T x λ a=>Er P fl t a H λ v=>k v H
     |_,_=>fl "len"
   | .builtin .max=>qz fl T c.args.toList λ vs=>match vs with
     |x::l=>Jw fl true l x λ v=>k v H
     |[]=>fl "max"
   | .builtin .min=>qz fl T c.args.toList λ vs=>match vs with
     |x::l=>Jw fl false l x λ v=>k v H
     |[]=>fl "min"
   |_=>fl ""
 |_=>fl ""
def iM:AV:= .tuple []
noncomputable def CK(t:TypeId)(x:AV)(id:Nat)(H:Hp)(k:AV->Hp->β):β:=
 match P.underlying t,x with
 |some .string,.str s=>fT (H.put id (some (.uw s 0))) λ H=>k (.ptr id 0) H
 |some (.map _ _),.oN=>fT (H.put id (some .uM)) λ H=>k (.ptr id 0) H
 |some (.map _ _),.map m=>match H.get m with
  |some (.map es ver)=>fT (H.put id (some (.qN m ver es none))) λ H=>k (.ptr id 0) H
  |_=>fl ""
 |_,_=>fl ""
def each(before:List (AV×AV)):List (AV×AV)->List ((AV×AV)×List (AV×AV))
 |[]=>[]
 |e::es=>(e,before.reverse++es)::each (e::before) es
noncomputable def ED(it:AV)(str:Bool)(H:Hp)(k:AV->Hp->β):β:=
 match it with
 | .ptr b 0=>match H.get b,str with
   |some (.uw [] _),true=>k (.tuple [.bool false]) H
   |some (.uw (c::s) pos),true=>cond (Nat.blt c 128)
    (fJ (Nat.succ pos) λ p=>fT (H.put b (some (.uw s p))) λ H=>k (.tuple [.bool true,.int .i64 (.ofNat pos),.int .i32 (.ofNat c)]) H) (fl "")
   |some .uM,false=>k (.tuple [.bool false]) H
   |some (.qN m ver left _),false=>match H.get m with
    |some (.map _ z)=>cond (Nat.beq ver z) (match left with
     |[]=>k (.tuple [.bool false]) H
     |left=>alt ((each [] left).map λ x=>fT (H.put b (some (.qN m ver x.2 (some x.1)))) λ H=>k (.tuple [.bool true,x.1.1,x.1.2]) H)) (fl "")
    |_=>fl ""
   |_,_=>fl ""
 |_=>fl "next"
noncomputable def Gu(it:AV)(H:Hp)(k:AV->β):β:=
 match it with
 | .ptr b 0=>match H.get b with
   |some (.qN m ver _ (some e))=>match H.get m with
    |some (.map _ s)=>cond (Nat.beq ver s) (k (.tuple [e.1,e.2])) (fl "")
    |_=>fl ""
   |_=>fl ""
 |_=>fl "entry"
noncomputable def JI(pt:TypeId)(p l:AV)(H:Hp)(k:AV->Hp->β):β:=
 match l with
 | .int .i64 (.ofNat 0)=>match p with
   | .oM=>k (.str []) H
   | .ptr _ _=>k (.str []) H
   |_=>fl "unsafe.String"
 | .int .i64 (.ofNat (Nat.succ m))=>match P.underlying pt,p with
   |some (.pointer e),.ptr b 0=>match H.get b with
    |some (.cells (some e') c n sp _)=>cond (Nat.beq e e'&&Nat.beq (P.cellsOf e) 1&&Nat.ble (Nat.succ m) n&&Nat.ble (Nat.succ m) 16777216)
     (gather c 0 (Nat.succ m) (fl "") [] λ l=>nM.tq fl l [] λ s=>fT (H.put b (some (.cells (some e') c n sp true))) λ H=>k s H) (fl "")
    |_=>fl ""
   |_,_=>fl ""
 |_=>fl ""
noncomputable def sj(t:TypeId)(s x:AV)(id:Nat)(H:Hp)(k:AV->Hp->β):β:=
 match P.underlying t with
 |some (.slice elem)=>match fD P elem,tC P elem,ni P elem with
  |some (Nat.succ sz'),some D,some z=>
   match s,x with
   | .bF,.int .i64 (.ofNat m)=>
     cond (Nat.ble (Nat.mul m D) 1073741824&&Nat.ble m 16777216&&Nat.beq (fE z.cellsOf) (Nat.succ sz')&&z.fB)
      (match m with
      |0=>k .bF H
      |Nat.succ m'=>tF (oO (Nat.succ m') z.cellsOf) λ new=>grow (some elem) [] new (Nat.succ m') (Nat.succ sz') id H k) (fl "")
   |_,_=>fl ""
  |_,_,_=>fl ""
 |_=>fl ""
def JJ(o:Oper):Bool:=
 match o.op with
 | .convert s d _=>match P.underlying s,P.underlying d with
   |some .string,some (.slice _)=>true
   |_,_=>false
 |_=>false
noncomputable def CO(d:TypeId)(x:AV)(id:Nat)(H:Hp)(k:AV->Hp->β):β:=
 match P.underlying d,x with
 |some (.slice e),.str s=>match P.underlying e with
  |some (.int .u8)=>o8 (s.map λ b=>AV.int .u8 (.ofNat b)) 0 .nil λ c m=>
   cond (Nat.ble m 16777216) (fT (H.put id (some (.cells none c m true true))) λ H=>k (.slice id 0 m 1 none) H) (fl "")
  |_=>fl ""
 |_,_=>fl ""
noncomputable def ji(call:FuncId->List AV->Hp->Nat->(AV->Hp->Nat->β)->β)(o:Oper)(T:Te)(H:Hp)(n:Nat)(k:AV->Hp->Nat->β):β:=
 match o.op with
 | .store t a x=>eZ fl T a λ a=>eZ fl T x λ v=>zf P fl t a v H λ H=>k iM H n
 | .mapUpdate t m key x=>eZ fl T m λ m=>eZ fl T key λ key=>eZ fl T x λ v=>oG P fl t m key v H λ H=>k iM H n
 | .insert t m key x=>eZ fl T m λ m=>eZ fl T key λ key=>eZ fl T x λ v=>oG P fl t m key v H λ H=>k iM H n
 | .range t x=>eZ fl T x λ x=>fJ (Nat.succ n) λ n'=>CK P fl t x n H λ v H=>k v H n'
 | .next it str=>eZ fl T it λ it=>ED fl alt it str H λ v H=>k v H n
 | .entry it=>eZ fl T it λ it=>Gu fl it H λ v=>k v H n
 | .convert _ d x=>eZ fl T x λ x=>fJ (Nat.succ n) λ n'=>CO P fl d x n H λ v H=>k v H n'
 | .call c=>match c.callee with
   | .builtin .append=>match c.argTypes[0]?,c.argTypes[1]?,c.args.toList with
     |some t,some u,[s,x]=>match P.underlying u with
      |some (.int _)=>eZ fl T s λ s=>eZ fl T x λ x=>fJ (Nat.succ n) λ n'=>sj P fl t s x n H λ v H=>k v H n'
      |some _=>eZ fl T s λ s=>eZ fl T x λ x=>fJ (Nat.succ n) λ n'=>zU P fl t s x n H λ v H=>k v H n'
      |none=>fl ""
     |_,_,_=>fl ""
   | .builtin .copy=>match c.argTypes[0]?,c.args.toList with
     |some t,[d,x]=>eZ fl T d λ d=>eZ fl T x λ x=>JE P fl t d x H λ v H=>k v H n
     |_,_=>fl ""
   | .builtin .cap=>match c.argTypes[0]?,c.args.toList with
     |some t,[x]=>match P.underlying t with
      |some (.slice _)=>eZ fl T x λ x=>match x with
       | .bF=>k (.int .i64 (.ofNat 0)) H n
       | .slice _ _ _ _ (some cp)=>k (.int .i64 (.ofNat cp)) H n
       |_=>fl ""
      |_=>fl ""
     |_,_=>fl ""
   | .builtin .unsafeSliceData=>match c.args.toList with
     |[x]=>eZ fl T x λ x=>match x with
      | .bF=>k .oM H n
      | .slice b off len _ _=>cond (Nat.blt 0 len) (k (.ptr b off) H n) (fl "")
      |_=>fl "unsafe.SliceData"
     |_=>fl ""
   | .builtin .unsafeString=>match c.argTypes.toList,c.args.toList with
     |[pt,_],[p,l]=>eZ fl T p λ p=>eZ fl T l λ l=>JI P fl pt p l H λ v H=>k v H n
     |_,_=>fl ""
   | .value f=>eZ fl T f λ f=>qz fl T c.args.toList λ args=>match f with
     | .func f first captured=>call f (first++(args++captured)) H n k
     |_=>fl ""
   |_=>fl ""
 |_=>fl ""
noncomputable def want(ops:Array Oper)(T:Te)(o:Oper)(k:Bool->β):β:=
 match o.guard with
 |none=>k true
 |some (j,w)=>match(ops[j]?).bind (·.dst)with
  |none=>k false
  |some d=>match T.get d with
   |some (.bool b)=>k (b==w)
   |some _=>k false
   |none=>fl ""
noncomputable def lV(N:Nat)(dst:Option Tmp)(v:AV)(T:Te)(k:Te->β):β:=
 match dst with
 |none=>k T
 |some d=>cond (Nat.blt d N) (fT (T.put d (some v)) k) (fl "destination")
section run
variable (call:FuncId->List AV->Hp->Nat->(AV->Hp->Nat->β)->β) (N:Nat)
noncomputable def JL(ops:Array Oper)(o:Oper)(T:Te)(H:Hp)(n:Nat)(k:Te->Hp->Nat->β):β:=
 want fl ops T o λ w=>cond w
  (cond (noisy o||JJ P o) (ji P fl alt call o T H n λ v H n=>lV fl N o.dst v T λ T=>k T H n)
    (cu P fl o T H n λ v H=>lV fl N o.dst v T λ T=>cond (allocs o) (fJ (Nat.succ n) λ n=>k T H n) (k T H n)))
  (lV fl N o.dst iM T λ T=>k T H n)
noncomputable def rZ(ops:Array Oper)(l:List Oper):Te->Hp->Nat->(Te->Hp->Nat->β)->β:=
 List.rec (λ T H n k=>k T H n) (λ o _ ih T H n k=>JL P fl alt call N ops o T H n λ T H n=>ih T H n k) l
structure je where
 i:Nat
 o:Oper
 T:Te
 v:AV
def keepW(bits:Nat):List je->List je
 |[]=>[]
 |x::l=>cond (Nat.testBit bits x.i) (keepW bits l) (x::keepW bits l)
noncomputable def mH(H:Hp):List je->Bool
 |[]=>true
 |x::l=>cu P (λ _=>false) x.o x.T H 0 (λ v _=>lg 6 v x.v)&&mH H l
noncomputable def iy(ops:Array Oper)(pre:List Nat)(base:Nat):List Nat->Te->Hp->Nat->List je->(Te->Hp->Nat->β)->β
 |[],T,H,n,_,k=>k T H n
 |i::l,T,H,n,W,k=>
  match ops[i]? with
  |none=>fl ""
  |some o=>want fl ops T o λ w=>cond w
   (cond (noisy o)
     (let W:=keepW (pre.getD i 0) W
      ji P fl alt call o T H n λ v H n=>cond (mH P H W) (lV fl N o.dst v T λ T'=>iy ops pre base l T' H n W k) (fl ""))
     (cu P fl o T H (base+i) λ v H=>lV fl N o.dst v T λ T'=>
       iy ops pre base l T' H n (cond (lW o) (⟨i,o,T,v⟩::W) W) k))
   (lV fl N o.dst iM T λ T'=>iy ops pre base l T' H n W k)
end run
end code
def binds(e:Edge):Bool:=Region.binds .any e
def rz(ops:Array Oper):List Nat:=(Region.before ops).toList
def z_(ops:List Oper)(pre:List Nat):List Nat:=
 let n:=ops.length;let z (i:Nat):Bool:=match ops[i]? with|some o=>noisy o|none=>false
 let loud:=(List.range n).filter z;let quiet:=(List.range n).filter λ i=> !z i;let lo (i:Nat):Nat:=(loud.filter λ j=>(pre.getD i 0).testBit j).length;let stage (s:Nat):List Nat:=quiet.filter λ i=>lo i==s
 (List.range (loud.length+1)).flatMap λ s=>stage s++(match loud[s]? with|some j=>[j]|none=>[])
def looks(ops:Array Oper)(o:Oper):List Tmp:=
 (o.op.operands.toList.filterMap λ| .tmp t=>some t|_=>none)++
 (match o.guard with
  |some (g,_)=>((ops[g]?).bind (·.dst)).toList
  |none=>[])
def zk(pre:List Nat):List Edge->Nat
 |[]=>0
 |e::l=>cond (binds e) (2^e.on|||pre.getD e.on 0|||zk pre l) (zk pre l)
def r9(ops:List Oper)(pre:List Nat):Bool:=
 (ops.zipIdx).all λ(o,i)=>(o.after.toList.all λ e=> !binds e||Nat.blt e.on i)&&Nat.beq (pre.getD i 0) (zk pre o.after.toList)
def r_(ops:Array Oper)(pre:List Nat):Bool:=
 (ops.toList.zipIdx).all λ(a,i)=>match a.dst with
  |none=>true
  |some d=>(ops.toList.zipIdx).all λ(b,j)=>Nat.beq i j||(!(b.dst==some d)&&(!((looks ops b).contains d)||(pre.getD j 0).testBit i||(pre.getD i 0).testBit j))
def wD(ops:Array Oper)(pre:List Nat):List Nat->Nat->Bool
 |[],done=>Nat.beq done (2^ops.size-1)
 |i::l,done=>match ops[i]? with
  |none=>false
  |some o=> !done.testBit i&&(o.after.toList.all λ e=> !binds e||done.testBit e.on)&&(!noisy o||l.all λ j=>(pre.getD j 0).testBit i)&&wD ops pre l (done|||2^i)
def tJ(ops:Array Oper):Bool:=
 let pre:=rz ops
 r9 ops.toList pre&&r_ ops pre&&wD ops pre (z_ ops.toList pre) 0
section X7
variable {β:Type} (P:Program) (fl:String->β) (alt:List β->β)
noncomputable def wS(call:FuncId->List AV->Hp->Nat->(AV->Hp->Nat->β)->β)(N:Nat)(ops:Array Oper)(draw:Bool)(T:Te)(H:Hp)(n:Nat)(k:Te->Hp->Nat->β):β:=
 cond draw
  (cond (tJ ops) (fJ (Nat.add n ops.size) λ n'=>iy P fl alt call N ops (rz ops) n (z_ ops.toList (rz ops)) T H n' [] k) (fl ""))
  (rZ P fl alt call N ops ops.toList T H n k)
noncomputable def wT(body:Te->Hp->Nat->(AX->Te->Hp->Nat->β)->β)(m:Nat):Te->Hp->Nat->(AX->Te->Hp->Nat->β)->β:=
 Nat.rec (λ _ _ _ _=>fl "rounds") (λ _ ih T H n k=>body T H n λ ae T H n=>match ae with| .normal=>ih T H n k|e=>k e T H n) m
noncomputable def uN(call:FuncId->List AV->Hp->Nat->(AV->Hp->Nat->β)->β)(N:Nat)(R:Nat)(c:Code):Te->Hp->Nat->(AX->Te->Hp->Nat->β)->β:=
 Code.rec
  (λ T H n k=>k .normal T H n)
  (λ _ ops d T H n k=>wS P fl alt call N ops d T H n λ T H n=>k .normal T H n)
  (λ _ _ ia ib T H n k=>ia T H n λ ae T H n=>match ae with| .normal=>ib T H n k|e=>k e T H n)
  (λ c _ _ ia ib T H n k=>eZ fl T c λ v=>match v with| .bool true=>ia T H n k| .bool false=>ib T H n k|_=>fl "cond")
  (λ id _ ic T H n k=>ic T H n λ ae T H n=>match ae with| .exit i=>cond (Nat.beq i id) (k .normal T H n) (k (.exit i) T H n)|e=>k e T H n)
  (λ _ ic T H n k=>wT fl ic R T H n k)
  (λ _ _ _ _ _ _ _ _ _ _=>fl "")
  (λ id T H n k=>k (.exit id) T H n)
  (λ _ _ _ _ _ _=>fl "")
  (λ _ T H n k=>k .normal T H n)
  (λ _ _ _ _ _=>fl "")
  (λ T H n k=>k .ret T H n)
  (λ _ _ _ _ _=>fl "")
  c
noncomputable def jZ(T:Te)(H:Hp):List ResultVar->(List AV->β)->β
 |[],k=>k []
 | .tmp t::l,k=>match T.get t with
   |some v=>jZ T H l λ vs=>k (v::vs)
   |none=>fl ""
 | .cell a t::l,k=>match T.get a with
   |some p=>o9 P fl t p H λ v=>jZ T H l λ vs=>k (v::vs)
   |none=>fl ""
def pq(n:Nat):Nat:=cond (Nat.ble n 8) 0 (cond (Nat.ble n 64) 1 2)
theorem Vt{n:Nat}(h:n≤512):n≤8^(pq n+1):=by
 unfold pq;cases h1:Nat.ble n 8 with
 |true=>simpa using Nat.le_of_ble_eq_true h1
 |false=>
  cases h2:Nat.ble n 64 with
  |true=>simpa using Nat.le_of_ble_eq_true h2
  |false=>simpa using h
noncomputable def wU(call:FuncId->List AV->Hp->Nat->(AV->Hp->Nat->β)->β)(R:Nat)(f:FuncId)(args:List AV)(H:Hp)(n:Nat)(k:AV->Hp->Nat->β):β:=
 match P.funcs[f]? with
 |none=>fl ""
 |some fn=>match fn.body with
  |none=>fl (""++fn.name)
  |some c=>cond (fn.name== "runtime.NumGoroutine") (fl "")
   (cond (Nat.ble (fE args) fn.ntmps&&Nat.ble fn.ntmps 512)
     (o8 (args++List.replicate (Nat.sub (8^(pq fn.ntmps+1)) (fE args)) iM) 0 .nil λ T _=>uN P fl alt call fn.ntmps R c T H n λ ae T H n=>match ae with
     | .exit _=>fl ""
     |_=>jZ P fl T H fn.results.toList λ vs=>match vs with
      |[v]=>k v H n
      |vs=>k (.tuple vs) H n) (fl ""))
noncomputable def uO(ov:FuncId->Option ((String->β)->List AV->Hp->Nat->(AV->Hp->Nat->β)->β))(R:Nat)(fuel:Nat):FuncId->List AV->Hp->Nat->(AV->Hp->Nat->β)->β:=
 Nat.rec (λ _ _ _ _ _=>fl "") (λ _ ih f args H n k=>match ov f with|some g=>g fl args H n k|none=>wU P fl alt ih R f args H n k) fuel
end X7
end Go.cK
end
namespace Go.cK
abbrev Pl:=Nat->Option (Nat×Nat×Nat)
mutual
inductive VR (ι:Pl):AV->Value->Prop
 |bool (b:Bool):VR ι (.bool b) (.bool b)
 |int (k:IntKind) (n:Int):VR ι (.int k n) (.int k n)
 |str (s:ByteArray):VR ι (.str (s.data.toList.map UInt8.toNat)) (.string s)
 |oM:VR ι .oM (.pointer none)
 |ptr {b κ δ C:Nat} (off:Nat) (h:ι b=some (κ,δ,C)):VR ι (.ptr b off) (.pointer (some ⟨κ,δ+off,none⟩))
 |bF:VR ι .bF (.slice none 0 0)
 |full {b κ δ C off len sz c:Nat} {a:Addr} (h:ι b=some (κ,δ,C)) (hl:len≤c) (hc:δ+off+c*sz=C) (ha:c=0∨a=⟨κ,δ+off,none⟩):
  VR ι (.slice b off len sz none) (.slice (some a) len c)
 |exact{b κ δ C off len sz c:Nat} {a:Addr} (h:ι b=some (κ,δ,C)) (hl:len≤c) (hc:δ+off+c*sz≤C) (ha:c=0∨a=⟨κ,δ+off,none⟩):
  VR ι (.slice b off len sz (some c)) (.slice (some a) len c)
 |oN:VR ι .oN (.map none)
 |map {b κ δ C:Nat} (h:ι b=some (κ,δ,C)):VR ι (.map b) (.map (some κ))
 |func (f:FuncId) {xs ys:List AV} {first captured:Array Value} (hx:dV ι xs first.toList) (hy:dV ι ys captured.toList):
  VR ι (.func f xs ys) (.func (.func f) first captured)
 |qV:VR ι .qV .nilFunc
 |iface (t:TypeId) {v:AV} {x:Value} (h:VR ι v x):VR ι (.iface t v) (.iface t x)
 |oZ:VR ι .oZ .nilIface
 |agg {cs:List AV} {vs:Array Value} (h:dV ι cs vs.toList) (h1:∀c∈cs,c.one=true):VR ι (.agg cs) (.agg vs)
 |tuple {cs:List AV} {vs:Array Value} (h:dV ι cs vs.toList):VR ι (.tuple cs) (.tuple vs)
inductive dV (ι:Pl):List AV->List Value->Prop
 |nil:dV ι [] []
 |cons {v:AV} {x:Value} {vs:List AV} {xs:List Value} (h:VR ι v x) (t:dV ι vs xs):dV ι (v::vs) (x::xs)
end
def Pl.le(ι aV:Pl):Prop:=∀b x,ι b=some x->aV b=some x
theorem Pl.le_refl(ι:Pl):ι.le ι:=λ _ _ h=>h
theorem Pl.le_trans{a b c:Pl}(h:a.le b)(k:b.le c):a.le c:=λ x y z=>k x y (h x y z)
mutual
theorem VR.mono{ι aV:Pl}(hl:ι.le aV){v:AV}{x:Value}(h:VR ι v x):VR aV v x:=
 match h with
 | .bool b=> .bool b
 | .int k n=> .int k n
 | .str s=> .str s
 | .oM=> .oM
 | .ptr off h=> .ptr off (hl _ _ h)
 | .bF=> .bF
 | .full h a b c=> .full (hl _ _ h) a b c
 | .exact h a b c=> .exact (hl _ _ h) a b c
 | .oN=> .oN
 | .map h=> .map (hl _ _ h)
 | .func f hx hy=> .func f (hx.mono hl) (hy.mono hl)
 | .qV=> .qV
 | .iface t h=> .iface t (h.mono hl)
 | .oZ=> .oZ
 | .agg h h1=> .agg (h.mono hl) h1
 | .tuple h=> .tuple (h.mono hl)
theorem dV.mono{ι aV:Pl}(hl:ι.le aV){vs:List AV}{xs:List Value}(h:dV ι vs xs):dV aV vs xs:=
 match h with
 | .nil=> .nil
 | .cons h t=> .cons (h.mono hl) (t.mono hl)
end
theorem dV.length{ι:Pl}:∀{vs:List AV}{xs:List Value},dV ι vs xs->vs.length=xs.length
 |_,_,.nil=>rfl
 |_,_,.cons _ t=>by simp[t.length]
theorem dV.get{ι:Pl}:∀{vs:List AV}{xs:List Value},dV ι vs xs->∀{i:Nat}{v:AV},vs[i]? =some v->∃x,xs[i]? =some x∧VR ι v x
 |_,_,.nil,i,v,h=>by simp at h
 |_,_,.cons h t,i,v,hv=>by
  cases i with
  |zero=>simp at hv;subst hv;exact⟨_,rfl,h⟩
  |succ i=>simp at hv|-;exact t.get hv
theorem dV.append{ι:Pl}:∀{vs:List AV}{xs:List Value}{vs':List AV}{xs':List Value},dV ι vs xs->dV ι vs' xs'->dV ι (vs++vs') (xs++xs')
 |_,_,_,_,.nil,h=>h
 |_,_,_,_,.cons h t,k=> .cons h (t.append k)
theorem dV.drop{ι:Pl}:∀{vs:List AV}{xs:List Value},dV ι vs xs->∀n,dV ι (vs.drop n) (xs.drop n)
 |_,_,.nil,n=>by simp;exact .nil
 |_,_,.cons h t,0=> .cons h t
 |_,_,.cons _ t,n+1=>t.drop n
theorem dV.take{ι:Pl}:∀{vs:List AV}{xs:List Value},dV ι vs xs->∀n,dV ι (vs.take n) (xs.take n)
 |_,_,.nil,n=>by simp;exact .nil
 |_,_,.cons _ _,0=> .nil
 |_,_,.cons h t,n+1=> .cons h (t.take n)
theorem dV.zh{ι:Pl}:∀{vs:List AV}{xs:List Value},vs.length=xs.length->(∀(i:Nat) v x,vs[i]? =some v->xs[i]? =some x->VR ι v x)->dV ι vs xs
 |[],[],_,_=> .nil
 |v::vs,x::xs,hl,h=> .cons (h 0 v x rfl rfl) (dV.zh (by simpa using hl) λ i v x a b=>h (i+1) v x (by simpa using a) (by simpa using b))
 |[],_::_,hl,_=>by simp at hl
 |_::_,[],hl,_=>by simp at hl
theorem VR.cells{ι:Pl}{v:AV}{x:Value}(h:VR ι v x):dV ι v.cellsOf x.cells.toList:=by
 cases h with
 |agg h h1=>exact h
 |bool b=>exact .cons (.bool b) .nil
 |int k n=>exact .cons (.int k n) .nil
 |str s=>exact .cons (.str s) .nil
 |oM=>exact .cons .oM .nil
 |ptr off h=>exact .cons (.ptr off h) .nil
 |bF=>exact .cons .bF .nil
 |full a b c d=>exact .cons (.full a b c d) .nil
 |exact a b c d=>exact .cons (.exact a b c d) .nil
 |oN=>exact .cons .oN .nil
 |map h=>exact .cons (.map h) .nil
 |func f a b=>exact .cons (.func f a b) .nil
 |qV=>exact .cons .qV .nil
 |iface t h=>exact .cons (.iface t h) .nil
 |oZ=>exact .cons .oZ .nil
 |tuple h=>exact .cons (.tuple h) .nil
theorem VR.o7{ι:Pl}{v:AV}{x:Value}(h:VR ι v x)(ht:v.fB=true):∀c∈v.cellsOf,c.one=true:=by
 cases h<;>simp_all[AV.cellsOf,AV.one,AV.fB]
theorem VR.oneCell{ι:Pl}{v:AV}{x:Value}(h:VR ι v x)(h1:v.one=true):x.oneCell'=true:=by
 cases h<;>simp_all[AV.one,Value.oneCell']
def ER(ι:Pl)(l:List (AV×AV))(es:List MapEntry):Prop:=
 dV ι (l.map (·.1)) (es.map (·.key))∧dV ι (l.map (·.2)) (es.map (·.val))
structure Nb(ι:Pl)(es:List (AV×AV))(arr:Array MapEntry)(clock:Nat):Prop where
 entries:ER ι es arr.toList
 born:∀e∈arr.toList,e.born<clock
 nodup:(arr.toList.map (·.born)).Nodup
def qo(ι:Pl)(H:Hp)(w:World)(o:Ob)(κ δ C:Nat):Prop:=
 match o with
 | .cells el c n sp fz=>∃arr elem fr,w.heap[κ]? =some (.cells arr elem fr)∧arr.size=C∧δ+n≤C∧(sp=false->δ+n=C)∧
  (∀i v,c.get i=some v->i<n∧v.one=true∧∃x,arr[δ+i]? =some x∧VR ι v x)∧
  (fz=false->∀j,δ≤j->j<C->¬(fr.1≤j∧j<fr.2))∧(∀t,el=some t->elem=t∧δ=0)
 | .map es _=>∃arr clock,w.heap[κ]? =some (.map arr clock)∧Nb ι es arr clock
 | .uw s pos=>δ=0∧∃t,w.heap[κ]? =some (.stringIter t pos)∧pos≤t.size∧s=(t.data.toList.map UInt8.toNat).drop pos
 | .uM=>δ=0∧∃a b c,w.heap[κ]? =some (.mapIter none a b c)
 | .qN m ver left cur=>δ=0∧∃z F I since seen stepped,ι m=some (z,F,I)∧w.heap[κ]? =some (.mapIter (some z) since seen stepped)∧
  (∀es D,H.get m=some (.map es D)->ver≤D)∧
  ∀es,H.get m=some (.map es ver)->∃arr,w.heap[z]? =some (.map arr since)∧stepped=since∧Nb ι es arr since∧
   (∀b∈seen.toList,∃e∈arr.toList,e.born=b)∧
   ER ι left (arr.toList.filter λ e=> !seen.contains e.born)∧
   (∀kv,cur=some kv->∃e∈arr.toList,(∃E:Array Nat,seen=E.push e.born)∧VR ι kv.1 e.key∧VR ι kv.2 e.val)
structure Rel(ι:Pl)(H:Hp)(n:Nat)(w:World):Prop where
 fresh:∀b,n≤b->ι b=none∧H.get b=none
 ob:∀b o κ δ C,H.get b=some o->ι b=some (κ,δ,C)->qo ι H w o κ δ C
 inj:∀b b' x x',(H.get b).isSome=true->(H.get b').isSome=true->ι b=some x->ι b'=some x'->x.1=x'.1->b=b'
structure Step(ι:Pl)(H:Hp)(n:Nat)(w:World)(aV:Pl)(H':Hp)(n':Nat)(w':World):Prop where
 le:ι.le aV
 num:n≤n'
 gN:∀b,b<n->ι b=none->aV b=none∧H'.get b=H.get b
 size:w.heap.size≤w'.heap.size
 frame:∀κ,κ<w.heap.size->(∀b x,(H.get b).isSome=true->ι b=some x->x.1≠κ)->w'.heap[κ]? =w.heap[κ]?
 owned:∀b x,(H'.get b).isSome=true->aV b=some x->x.1<w.heap.size->∃b0 x0,(H.get b0).isSome=true∧ι b0=some x0∧x0.1=x.1
 tape:w'.tape=w.tape
 os:w'.os=w.os
 output:w'.output=w.output
theorem Step.refl(ι:Pl)(H:Hp)(n:Nat)(w:World):Step ι H n w ι H n w:=
 ⟨Pl.le_refl _,Nat.le_refl _,λ _ _ h=>⟨h,rfl⟩,Nat.le_refl _,λ _ _ _=>rfl,λ b x h k _=>⟨b,x,h,k,rfl⟩,rfl,rfl,rfl⟩
theorem Step.trans{ι:Pl}{H:Hp}{n:Nat}{w:World}{z:Pl}{H1:Hp}{n1:Nat}{w1:World}{D:Pl}{H2:Hp}{n2:Nat}{w2:World}
  (h:Step ι H n w z H1 n1 w1)(k:Step z H1 n1 w1 D H2 n2 w2):Step ι H n w D H2 n2 w2 where
 le:=Pl.le_trans h.le k.le
 num:=Nat.le_trans h.num k.num
 gN b hb hi:=by
  obtain⟨a,e⟩:=h.gN b hb hi;obtain⟨a',e'⟩:=k.gN b (Nat.lt_of_lt_of_le hb h.num) a;exact⟨a',e'.trans e⟩
 size:=Nat.le_trans h.size k.size
 frame κ s hno:=by
  have e:=h.frame κ s hno;have e':=k.frame κ (Nat.lt_of_lt_of_le s h.size) (λ b x hb hx hxk=>by
   obtain⟨b0,x0,h0,h1,h2⟩:=h.owned b x hb hx (by rw[hxk];exact s);exact hno b0 x0 h0 h1 (h2.trans hxk))
  exact e'.trans e
 owned b x hb hx hlt:=by
  obtain⟨b0,x0,h0,h1,h2⟩:=k.owned b x hb hx (Nat.lt_of_lt_of_le hlt h.size);obtain⟨b1,x1,h3,h4,h5⟩:=h.owned b0 x0 h0 h1 (by rw[h2];exact hlt);exact⟨b1,x1,h3,h4,h5.trans h2⟩
 tape:=k.tape.trans h.tape
 os:=k.os.trans h.os
 output:=k.output.trans h.output
theorem qo.congr{ι aV:Pl}{H H':Hp}{w w':World}{o:Ob}{κ δ C:Nat}(h:qo ι H w o κ δ C)(hl:ι.le aV)(hw:w'.heap[κ]? =w.heap[κ]?)
  (hm:∀m D E F es ver,ι m=some (D,E,F)->H'.get m=some (.map es ver)->(H.get m=some (.map es ver)∧w'.heap[D]? =w.heap[D]?)∨
    ∃es0 z,H.get m=some (.map es0 z)∧z<ver):qo aV H' w' o κ δ C:=by
 cases o with
 |cells el c n sp fz=>
  obtain⟨arr,elem,fr,h1,h2,h3,h4,h5,h6,h7⟩:=h;exact⟨arr,elem,fr,hw.trans h1,h2,h3,h4,λ i v hv=>let⟨a,b,x,hx,hv⟩:=h5 i v hv;⟨a,b,x,hx,hv.mono hl⟩,h6,h7⟩
 |map es ver=>
  obtain⟨arr,clock,h1,⟨⟨ha,hb⟩,h3,h4⟩⟩:=h;exact⟨arr,clock,hw.trans h1,⟨⟨ha.mono hl,hb.mono hl⟩,h3,h4⟩⟩
 |uw s pos=>obtain⟨h0,t,h1,h2⟩:=h;exact⟨h0,t,hw.trans h1,h2⟩
 |uM=>obtain⟨h0,a,b,c,h1⟩:=h;exact⟨h0,a,b,c,hw.trans h1⟩
 |qN m ver left cur=>
  obtain⟨h0,D,E,F,since,seen,stepped,h1,h2,I,h3⟩:=h;refine⟨h0,D,E,F,since,seen,stepped,hl _ _ h1,hw.trans h2,λ es J he=>?_,λ es he=>?_⟩
  .rcases hm m D E F es J h1 he with⟨he',_⟩|⟨es0,z,h0,hlt⟩
   .exact I es J he'
   .exact Nat.le_of_lt (Nat.lt_of_le_of_lt (I es0 z h0) hlt)
  .rcases hm m D E F es ver h1 he with⟨he',L⟩|⟨es0,z,h0,hlt⟩
   .obtain⟨arr,a1,a2,⟨⟨ha0,hb0⟩,a3,a4⟩,a5,⟨ha,hb⟩,a6⟩:=h3 es he'
    exact⟨arr,L.trans a1,a2,⟨⟨ha0.mono hl,hb0.mono hl⟩,a3,a4⟩,a5,⟨ha.mono hl,hb.mono hl⟩,λ kv hkv=>let⟨e,b1,b2,b3,b4⟩:=a6 kv hkv;⟨e,b1,b2,b3.mono hl,b4.mono hl⟩⟩
   .exact absurd (I es0 z h0) (by omega)
end Go.cK
