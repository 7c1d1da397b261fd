/- Part of the proof of CheckTexts (see the last text). -/
import Derived.BigCall
import Derived.Lib.CutLaws
import Derived.Lib.IndexBytes
import Derived.LoopN
import Derived.Outline
import Derived.RegionTactic
import Derived.Scope
import Derived.WalkSpells
import Derived.Test.YtcclielbggpoaaaGreatDoorA03
set_option linter.all false
section
namespace Go.Proofs.Ct.Q
open Go.RowKit Go.Proofs.aA.ak Go.Proofs.aA.aC Go.Proofs.aA.aG
theorem bf{w:World}{g k i:Nat}{t:TypeId}{cs:Array Value}{u:Value}(h:w.heap[g]? =some (.cells cs t (0,0)))(hp:ah (g≠k)):(w.setCell ⟨k,i,none⟩ u).heap[g]? =some (.cells cs t (0,0)):=jK h hp.out u
theorem cq{W:World}{g k i j:Nat}{u:Value}(h:ah (g≠k)):(W.setCell ⟨k,i,none⟩ u).cell? ⟨g,j,none⟩=W.cell? ⟨g,j,none⟩:=cell_far (p:=⟨k,i,none⟩) h.out u
theorem hB{p:Prop}(h:p:=by repeat(first|(with_reducible first|exact HB.out|apply fA|apply lK|apply b_|refine bH ?_ (ah.out (by assumption)))|exact HB.out)):p:=h
theorem rW{p:Prop}(h:p:=by first|rfl|(simp[eP,eT]<;>rfl)|(simp[*,eP,eT]<;>rfl)):p:=h
theorem vt{ok ok':Nat->Prop}(t:∀k,ok k->ok' k:=by intro k_ gG;first|exact gG|omega|grind):∀k,ok k->ok' k:=t
theorem kd{p q:Prop}(B:ah q)(t:q->p:=by intro h;(with_reducible repeat(first|refine fP ?_ _|refine gP ?_|refine dP ?_ _|apply Kd.mh|apply Kd.mo|apply Kd.ow|apply Kd.jL|apply Kd.jM|apply Kd.d_));first|exact h|exact Kd.bU h vt|exact Kd.gY h vt):p:=t B.out
theorem kD{p q:Prop}(B:q)(t:q->p:=by intro h;(with_reducible repeat(first|refine fP ?_ _|refine gP ?_|refine dP ?_ _|apply Kd.mh|apply Kd.mo|apply Kd.ow|apply Kd.jL|apply Kd.jM|apply Kd.d_));exact h):p:=t B
theorem kb{w w0 w1:World}{g:Nat}{o:Obj}(B:ah (w0.heap[g]? =some o))(hb:Below w.heap.size w w1)(t:w0.heap[g]? =some o->w.heap[g]? =some o:=by intro h;exact kD h):ah (w1.heap[g]? =some o):=⟨bY (t B.out) hb⟩
theorem kl{w w0:World}{g n:Nat}{o:Obj}(B:ah (w0.heap[g]? =some o))(hg:n=w.heap.size)(t:w0.heap[g]? =some o->w.heap[g]? =some o:=by intro h;exact kD h):ah (g≠n):=⟨hg▸Nat.ne_of_lt (gT (t B.out))⟩
theorem kr{w w0:World}{g n:Nat}{o:Obj}(B:ah (w0.heap[g]? =some o))(hg:n=w.heap.size)(t:w0.heap[g]? =some o->w.heap[g]? =some o:=by intro h;exact kD h):ah (n≠g):=⟨hg▸Nat.ne_of_gt (gT (t B.out))⟩
theorem kh{w0 w w1:World}(hb:Below w.heap.size w w1)(h:Below w0.heap.size w0 w:=by exact hB):ah (Below w0.heap.size w0 w1):=⟨aU h hb⟩
theorem kz{w0 w:World}{g:Nat}(hg:g=w.heap.size)(h:Below w0.heap.size w0 w:=by exact hB):ah (w0.heap.size≤g):=⟨hg▸bG h⟩
theorem bx{P:Program}{ops:Array Oper}{Q:Exit->Act->World->Prop}{rest:List Oper}{o:Oper}{a:Act}{W:World}{N:Tmp}(cs:Array Value)(t:TypeId)
  (h:∀g,g=W.heap.size->∀w1,ah (w1.heap[g]? =some (.cells cs t (0,0)))->Below W.heap.size W w1->wpList P ops Q rest (a.put o.dst (.pointer (some ⟨g,0,none⟩))) w1)
  (hd:o.dst=some N:=by rfl)(hgd:o.guard=none:=by with_reducible rfl)(hrun:(execOp a.eval o).run P W= .ok (.value (.pointer (some ⟨W.heap.size,0,none⟩))) (W.alloc (.cells cs t (0,0))):=by first|(go_simp;done)|(go_simp;rfl)):wpList P ops Q (o::rest) a W:=
 rA hgd hd hrun λ g hg w1 hb hb2=>h g hg w1 ⟨hb⟩ hb2
theorem sC{p q:Prop}(B:ah q)(t:q->p:=by intro h;repeat(first|exact(Kd.eH h HB.out)|(with_reducible refine Kd.zw ?_ _)|(with_reducible refine Kd.zy ?_ _)|(with_reducible refine Kd.zA ?_))):p:=t B.out
theorem z2{w:World}{g:Nat}{a b:Value}{t:TypeId}(h:ah (w.heap[g]? =some (.cells #[a,b] t (0,0)))):w.cell? ⟨g,0,none⟩=some a∧w.cell? ⟨g,1,none⟩=some b∧w.frozen? ⟨g,0,none⟩=false∧w.frozen? ⟨g,1,none⟩=false:=⟨(aj h.out 0).trans rfl,(aj h.out 1).trans rfl,aI h.out 0,aI h.out 1⟩
theorem z3{w:World}{g:Nat}{a b c:Value}{t:TypeId}(h:ah (w.heap[g]? =some (.cells #[a,b,c] t (0,0)))):w.cell? ⟨g,0,none⟩=some a∧w.cell? ⟨g,1,none⟩=some b∧w.cell? ⟨g,2,none⟩=some c∧w.frozen? ⟨g,0,none⟩=false∧w.frozen? ⟨g,1,none⟩=false∧w.frozen? ⟨g,2,none⟩=false:=⟨(aj h.out 0).trans rfl,(aj h.out 1).trans rfl,(aj h.out 2).trans rfl,aI h.out 0,aI h.out 1,aI h.out 2⟩
theorem z4{w:World}{g:Nat}{a b c d:Value}{t:TypeId}(h:ah (w.heap[g]? =some (.cells #[a,b,c,d] t (0,0)))):w.cell? ⟨g,0,none⟩=some a∧w.cell? ⟨g,1,none⟩=some b∧w.cell? ⟨g,2,none⟩=some c∧w.cell? ⟨g,3,none⟩=some d∧w.frozen? ⟨g,0,none⟩=false∧w.frozen? ⟨g,1,none⟩=false∧w.frozen? ⟨g,2,none⟩=false∧w.frozen? ⟨g,3,none⟩=false:=⟨(aj h.out 0).trans rfl,(aj h.out 1).trans rfl,(aj h.out 2).trans rfl,(aj h.out 3).trans rfl,aI h.out 0,aI h.out 1,aI h.out 2,aI h.out 3⟩
theorem z6{w:World}{g:Nat}{a b c d e f:Value}{t:TypeId}(h:ah (w.heap[g]? =some (.cells #[a,b,c,d,e,f] t (0,0)))):w.cell? ⟨g,0,none⟩=some a∧w.cell? ⟨g,1,none⟩=some b∧w.cell? ⟨g,2,none⟩=some c∧w.cell? ⟨g,3,none⟩=some d∧w.cell? ⟨g,4,none⟩=some e∧w.cell? ⟨g,5,none⟩=some f∧w.frozen? ⟨g,0,none⟩=false∧w.frozen? ⟨g,1,none⟩=false∧w.frozen? ⟨g,2,none⟩=false∧w.frozen? ⟨g,3,none⟩=false∧w.frozen? ⟨g,4,none⟩=false∧w.frozen? ⟨g,5,none⟩=false:=⟨(aj h.out 0).trans rfl,(aj h.out 1).trans rfl,(aj h.out 2).trans rfl,(aj h.out 3).trans rfl,(aj h.out 4).trans rfl,(aj h.out 5).trans rfl,aI h.out 0,aI h.out 1,aI h.out 2,aI h.out 3,aI h.out 4,aI h.out 5⟩
theorem gl{P:Program}{ops:Array Oper}{Q:Exit->Act->World->Prop}{rest:List Oper}{oi:Oper}{a:Act}{w:World}(N:Option Tmp){f:FuncId}{R:Ending->World->Prop}{us:Array Operand}{ts:Array TypeId}{fn:Func}{args:Array Value}(hf:P.funcs[f]? =some fn)
  (h:Calls P f args w R)(k:∀e w',R e w'->∃v,e= .returned v∧wpList P ops Q rest (a.put N v) w')(ho:oi.op= .call {callee:= .value (.func f),args:=us,argTypes:=ts}:=by rfl)(hd:oi.dst=N:=by rfl)(hg:oi.guard=none:=by rfl)
  (hname:(fn.name== "runtime.NumGoroutine")=false:=by kernel_rfl)(hb:fn.body.isSome=true:=by rfl)(hargs:us.map a.eval=args:=by(try simp only[List.map_toArray,List.map_cons,List.map_nil]);first|done|rfl|(simp only[List.length_drop,List.length_take];rfl)):wpList P ops Q (oi::rest) a w:=
 VU N hd hg hf hname hb args ho hargs (h.mono k)
end Go.Proofs.Ct.Q
namespace Go.Proofs.Ct.Q
open Go.RowKit Go.Proofs.aA.ak Go.Proofs.aA.aC Go.Proofs.aA.aG
theorem rS{p:Prop}(h:p:=by first|rfl|(simp;done)|(simp[*];done)):p:=h
theorem oA{p:Prop}[Decidable p](h:decide p=true:=by first|(with_reducible assumption)|assumption):p:=of_decide_eq_true h
theorem ai{w:World}{A:Option Addr}{n:Nat}{k:IntKind}{xs:List Int}(h:(Kd.int k).C w A n xs)(i:Int)(h0:0≤i:=by exact oA)(h1:i<n:=by exact oA):∃ad,A=some ad∧w.cell? (ad.add i.toNat)=some (.int k (rd xs i))∧(0≤i)=True∧(i<n)=True:=
 have⟨ad,a,b⟩:=Kd.E5 h i h0 h1;⟨ad,a,b,eq_true h0,eq_true h1⟩
theorem hc{w w1:World}{a:Addr}{v:Value}(h:w.cell? a=some v)(b:Below w.heap.size w w1:=by exact HB.out):w1.cell? a=some v:=(b.cell (World.block_lt_of_cell? w _ h)).trans h
theorem cn{α:Type}{p:Prop}[Decidable p]{a:Option α}{r:α}{G:Prop}(h:p->a=some r->G):(if p then a else none)=some r->G:=by
 by_cases c:p
 .rw[if_pos c];exact h c
 .rw[if_neg c];exact λ h=>nomatch h
theorem cf{α:Type}{p:Prop}[Decidable p]{a:Option α}{r:α}{G:Prop}(h:¬p->a=some r->G):(if p then none else a)=some r->G:=by
 by_cases c:p
 .rw[if_pos c];exact λ h=>nomatch h
 .rw[if_neg c];exact h c
theorem ci{α:Type}{p:Prop}[Decidable p]{a b:Option α}{r:α}{G:Prop}(h:p->a=some r->G)(k:¬p->b=some r->G):(if p then a else b)=some r->G:=by
 by_cases c:p
 .rw[if_pos c];exact h c
 .rw[if_neg c];exact k c
theorem bi{α β:Type}{x:Option α}{f:α->Option β}{r:β}{G:Prop}(h:∀t,ah (x=some t)->f t=some r->G):x.bind f=some r->G:=λ e=>have⟨t,a,b⟩:=Option.bind_eq_some_iff.mp e;h t ⟨a⟩ b
theorem tb(b:Bool):b=true∨b=false:=by cases b<;>simp
theorem it{α:Type}{a b c:α}(h:(if true=true then a else b)=c):a=c:=by rw[if_pos rfl]at h;exact h
theorem jf{α:Type}{a b c:α}(h:(if false=true then a else b)=c):b=c:=by rw[if_neg (show¬(false=true) by decide)]at h;exact h
theorem pu{P:Program}{md:Region.Mode}{ops:Array Oper}{Q:Exit->Act->World->Prop}{S:World->Prop}{ds:List Nat}(i:Nat)(N:Option Tmp){oi:Oper}{v:Value}{fuel:Nat}{l l':Array Bool}{a:Act}{w:World}{a':Act}
 (h:bW P md ops Q S ds fuel l' a' w)(hl:l.setIfInBounds i true=l':=by simp only[List.setIfInBounds_toArray,List.set_cons_zero,List.set_cons_succ];rfl)(hi:ops[i]? =some oi:=by rfl)(hN:oi.dst=N:=by rfl)(hc:GQ md ops l l' i=true:=by exact PI wY.out (by kernel_rfl))
 (hQ:∀c a w,Q (.panic c) (a.put oi.dst v) w->Q (.panic c) a w:=by exact λ _ _ _ h=>h)(hy:Yields P ops oi v a:=by exact Or.inl ⟨by rfl,by intro w';go_simp;with_reducible rfl⟩)
 (ha:a.put N v=a':=by simp only[Act.put,List.setIfInBounds_toArray,List.set_cons_zero,List.set_cons_succ,eY,iI];rfl):bW P md ops Q S ds (fuel+1) l a w:=E8 _ hi hN hc hQ hy ha h
theorem pn{P:Program}{md:Region.Mode}{ops:Array Oper}{Q:Exit->Act->World->Prop}{S:World->Prop}{ds:List Nat}(i:Nat)(N:Option Tmp){oi:Oper}{fuel:Nat}{l l':Array Bool}{a:Act}{w:World}{a':Act}
 (h:bW P md ops Q S ds fuel l' a' w)(hl:l.setIfInBounds i true=l':=by simp only[List.setIfInBounds_toArray,List.set_cons_zero,List.set_cons_succ];rfl)(hi:ops[i]? =some oi:=by rfl)(hN:oi.dst=N:=by rfl)(hc:GQ md ops l l' i=true:=by exact PI wY.out (by kernel_rfl))
 (hQ:∀c a w,Q (.panic c) (a.put oi.dst undef) w->Q (.panic c) a w:=by exact λ _ _ _ h=>h)(hy:Yields P ops oi undef a:=by exact Or.inr ⟨by rfl,rfl⟩)
 (ha:a.put N undef=a':=by simp only[Act.put,List.setIfInBounds_toArray,List.set_cons_zero,List.set_cons_succ,eY,iI];rfl):bW P md ops Q S ds (fuel+1) l a w:=E8 _ hi hN hc hQ hy ha h
theorem tk{P:Program}{md:Region.Mode}{ops:Array Oper}{Q:Exit->Act->World->Prop}{S:World->Prop}{ds:List Nat}(i:Nat)(N:Option Tmp){oi:Oper}{v:Value}{fuel:Nat}{l l':Array Bool}{a:Act}{w:World}{a':Act}
 (h:bW P md ops Q S ds fuel l' a' w)(hl:l.setIfInBounds i true=l':=by simp only[List.setIfInBounds_toArray,List.set_cons_zero,List.set_cons_succ];rfl)(hi:ops[i]? =some oi:=by rfl)(hN:oi.dst=N:=by rfl)(hc:takeB md ops ds l l' i=true:=by exact RG wY.out Dy.out (by kernel_rfl))
 (hQ:∀c a w,Q (.panic c) (a.put oi.dst v) w->Q (.panic c) a w:=by exact λ _ _ _ h=>h)(hy:YieldsIf P ops S oi v a:=by exact Or.inl ⟨by rfl,by intro w' hs;repeat(obtain⟨_,hs⟩:=hs);go_simp;with_reducible rfl⟩)
 (hS:S w:=by exact hHeld)(ha:a.put N v=a':=by simp only[Act.put,List.setIfInBounds_toArray,List.set_cons_zero,List.set_cons_succ,eY,iI];rfl):bW P md ops Q S ds (fuel+1) l a w:=yu _ hi hN hc hQ hy hS ha h
theorem on{P:Program}{md:Region.Mode}{ops:Array Oper}{Q:Exit->Act->World->Prop}{S:World->Prop}{ds:List Nat}(i:Nat)(N:Option Tmp){oi:Oper}{fuel:Nat}{l l':Array Bool}{a:Act}{w:World}
 (h:∀K:Act->World->Prop,Shut (∀a' w',S w'->(S w'->bW P md ops Q S ds fuel l' a' w')->K a' w')->if Region.wanted oi (yielded ops a.tmps)=true then Oper.wp P oi a w K Q else K (a.put N undef) w)
 (hl:l.setIfInBounds i true=l':=by simp only[List.setIfInBounds_toArray,List.set_cons_zero,List.set_cons_succ];rfl)(hi:ops[i]? =some oi:=by rfl)(hN:oi.dst=N:=by rfl)(hc:uS md ops l l' i=true:=by exact PK wY.out (by kernel_rfl))(hd:i∉ds:=by decide):bW P md ops Q S ds (fuel+1) l a w:=Af _ hi hN hc hd h
theorem la{P:Program}{md:Region.Mode}{ops:Array Oper}{Q:Exit->Act->World->Prop}{S:World->Prop}{ds:List Nat}(i:Nat)(N:Option Tmp){oi:Oper}{fuel:Nat}{l l':Array Bool}{a:Act}{w:World}
 (h:∀K:Act->World->Prop,Shut (∀a' w',bW P md ops Q S ds fuel l' a' w'->K a' w')->if Region.wanted oi (yielded ops a.tmps)=true then Oper.wp P oi a w K Q else K (a.put N undef) w)
 (hl:l.setIfInBounds i true=l':=by simp only[List.setIfInBounds_toArray,List.set_cons_zero,List.set_cons_succ];rfl)(hi:ops[i]? =some oi:=by rfl)(hN:oi.dst=N:=by rfl)(hc:uS md ops l l' i=true:=by exact PK wY.out (by kernel_rfl))(hd:i∈ds:=by decide):bW P md ops Q S ds (fuel+1) l a w:=Jq _ hi hN hc hd h
theorem gs{P:Program}{ops:Array Oper}{Q:Exit->Act->World->Prop}{oi:Oper}{N:Option Tmp}{a:Act}{w:World}{K:Act->World->Prop}{f:FuncId}{fn:Func}{us:Array Operand}{ts:Array TypeId}(hf:P.funcs[f]? =some fn)(args:Array Value){R:Ending->World->Prop}
  (h:Calls P f args w R)(k:∀e w',R e w'->∃v,e= .returned v∧K (a.put N v) w')(hop:oi.op= .call {callee:= .value (.func f),args:=us,argTypes:=ts}:=by rfl)(hname:(fn.name== "runtime.NumGoroutine")=false:=by kernel_rfl)(hb:fn.body.isSome=true:=by rfl)
  (hw:Region.wanted oi (yielded ops a.tmps)=true:=by rfl)(hN:oi.dst=N:=by rfl)(hargs:us.map a.eval=args:=by(try simp only[List.map_toArray,List.map_cons,List.map_nil]);first|done|rfl|(simp only[List.length_drop,List.length_take];rfl)):if Region.wanted oi (yielded ops a.tmps)=true then Oper.wp P oi a w K Q else K (a.put N undef) w:=
 Ya hf hname hb args hw hN hop hargs (h.mono k)
theorem nm{P:Program}{md:Region.Mode}{ops:Array Oper}{Q:Exit->Act->World->Prop}{S:World->Prop}{ds:List Nat}{fuel:Nat}{l:Array Bool}{a a':Act}{w:World}(h:bW P md ops Q S ds fuel l a' w)(ha:a=a':=by show Act.put _ _ _=_;simp only[Act.put,List.setIfInBounds_toArray,List.set_cons_zero,List.set_cons_succ,eY,iI];rfl):bW P md ops Q S ds fuel l a w:=Yb ha h
theorem sk{P:Program}{ops:Array Oper}{Q:Exit->Act->World->Prop}{oi:Oper}{a:Act}{w w1:World}{K:Act->World->Prop}(h:K a w1)(hw:Region.wanted oi (yielded ops a.tmps)=true:=by rfl)(hN:oi.dst=none:=by rfl)(hrun:(execOp a.eval oi).run P w= .ok .skip w1:=by go_simp;rfl):if Region.wanted oi (yielded ops a.tmps)=true then Oper.wp P oi a w K Q else K (a.put none undef) w:=Yc hw hN hrun h
theorem dn{P:Program}{md:Region.Mode}{ops:Array Oper}{Q:Exit->Act->World->Prop}{S:World->Prop}{ds:List Nat}{l:Array Bool}{a:Act}{w:World}{n:Nat}(h:Q .normal a w)(hr:(Region.ready md ops l==[])=true:=by exact Uo wY.out (by kernel_rfl)):bW P md ops Q S ds n l a w:=E9 hr h
theorem sc{p q:Prop}(B:q)(t:q->p:=by intro h;repeat(first|exact h|(with_reducible refine Kd.zw ?_ _)|(with_reducible refine Kd.zy ?_ _)|(with_reducible refine Kd.zA ?_))):p:=t B
theorem gc{P:Program}{ops:Array Oper}{Q:Exit->Act->World->Prop}{rest:List Oper}{o:Oper}{a:Act}{W:World}(f:FuncId){us:Array Operand}{ts:Array TypeId}(PL:o.op= .call {callee:= .value (.func f),args:=us,argTypes:=ts})(h:wpList P ops Q (o::rest) a W):wpList P ops Q (o::rest) a W:=h
theorem gd{P:Program}{ops:Array Oper}{Q:Exit->Act->World->Prop}{rest:List Oper}{o:Oper}{a:Act}{W:World}(N:Tmp)(PL:o.dst=some N)(h:wpList P ops Q (o::rest) a W):wpList P ops Q (o::rest) a W:=h
end Go.Proofs.Ct.Q
namespace Go.Proofs.Ct.Q
open Go.RowKit Go.Proofs.aA.ak Go.Proofs.aA.aC Go.Proofs.aA.aG
theorem VW{w0 w:World}{g:Nat}{ty:TypeId}{cs cs':Array Value}(B:ah (w0.heap[g]? =some (.cells cs ty (0,0))))(t:w0.heap[g]? =some (.cells cs ty (0,0))->w.heap[g]? =some (.cells cs' ty (0,0)):=by intro h;(repeat(first|(with_reducible first|exact h|refine fP ?_ _|refine gP ?_|refine dP ?_ _|apply eB|apply bf)));all_goals(try first|(with_reducible assumption)|(simp only[List.setIfInBounds_toArray,List.set_cons_zero,List.set_cons_succ];done)|(simp only[List.setIfInBounds_toArray,List.set_cons_zero,List.set_cons_succ];rfl)|rfl)):w.heap[g]? =some (.cells cs' ty (0,0)):=t B.out
theorem kp{q p:Prop}(B:ah q)(t:q->p:=by intro h;(repeat(first|(with_reducible first|exact h|refine fP ?_ _|refine gP ?_|refine dP ?_ _|apply eB|apply bf)));all_goals(try first|(with_reducible assumption)|rfl|(simp only[List.setIfInBounds_toArray,List.set_cons_zero,List.set_cons_succ];rfl))):p:=t B.out
theorem kq{w w1 W:World}{g:Nat}{ty:TypeId}{cs cs':Array Value}(B:ah (w.heap[g]? =some (.cells cs ty (0,0))))(hw:w1=W)(t:w.heap[g]? =some (.cells cs ty (0,0))->W.heap[g]? =some (.cells cs' ty (0,0)):=by intro h;(repeat(first|(with_reducible first|exact h|refine fP ?_ _|refine gP ?_|refine dP ?_ _|apply eB|apply bf)));all_goals(try first|(with_reducible assumption)|(simp only[List.setIfInBounds_toArray,List.set_cons_zero,List.set_cons_succ];done)|(simp only[List.setIfInBounds_toArray,List.set_cons_zero,List.set_cons_succ];rfl)|rfl)):ah (w1.heap[g]? =some (.cells cs' ty (0,0))):=⟨hw▸t B.out⟩
theorem kv{α:Type}{d:Kd α}{e base base':Nat}{ok ok':Nat->Prop}{v:Value}{xs:List α}{w W:World}(B:ah (Kd.V d e w base ok v xs))(t:Kd.V d e w base ok v xs->Kd.V d e W base' ok v xs:=by intro h;repeat(first|(with_reducible first|exact h|apply Kd.jL|apply Kd.jM|apply Kd.d_)|refine Kd.oU ?_ vt _))(m:∀k,ok k->ok' k:=by exact vt):Kd.V d e W base' ok' v xs:=Kd.bU (t B.out) m
theorem Ik{α:Type}{d:Kd α}{e base base':Nat}{ok ok':Nat->Prop}{v:Value}{xs:List α}{w W:World}(B:ah (Kd.V d e w base ok v xs))(t:Kd.V d e w base ok v xs->Kd.V d e W base ok v xs:=by intro h;repeat(first|(with_reducible first|exact h|apply Kd.jL|apply Kd.jM|apply Kd.d_)|refine Kd.oU ?_ vt _))(m:∀k,ok k->ok' k:=by exact vt):Kd.V d e W base' ok' v xs:=(Kd.bU (t B.out) m:Kd.V d e W base ok' v xs)
theorem ks{α:Type}{d:Kd α}{e base:Nat}{ok:Nat->Prop}{v:Value}{xs:List α}{w w1 W:World}(B:ah (Kd.V d e w base ok v xs))(hw:w1=W)(t:Kd.V d e w base ok v xs->Kd.V d e W base ok v xs:=by intro h;repeat(first|(with_reducible first|exact h|apply Kd.jL|apply Kd.jM|apply Kd.d_)|refine Kd.oU ?_ vt _)):ah (Kd.V d e w1 base ok v xs):=⟨hw▸t B.out⟩
theorem kt{w0 w1 W:World}(hw:w1=W)(h:Below w0.heap.size w0 W:=by exact hB):ah (Below w0.heap.size w0 w1):=⟨hw▸h⟩
theorem kV{α:Type}{d:Kd α}{e base:Nat}{ok:Nat->Prop}{v:Value}{xs:List α}{w w0 w1:World}(B:ah (Kd.V d e w0 base ok v xs))(hb:Below w.heap.size w w1)(t:Kd.V d e w0 base ok v xs->Kd.V d e w base ok v xs:=by intro h;repeat(first|(with_reducible first|exact h|apply Kd.jL|apply Kd.jM|apply Kd.d_)|refine Kd.oU ?_ vt _)):ah (Kd.V d e w1 base ok v xs):=⟨Kd.iA (t B.out) hb⟩
theorem kR{α:Type}{d:Kd α}{e base:Nat}{ok:Nat->Prop}{v:Value}{xs:List α}{w w0 w1:World}(B:ah (Kd.R d e w0 base ok v xs))(hb:Below w.heap.size w w1)(t:Kd.R d e w0 base ok v xs->Kd.R d e w base ok v xs:=by intro h;exact kD h):ah (Kd.R d e w1 base ok v xs):=⟨Kd.pX (t B.out) hb⟩
theorem kW{α:Type}{d:Kd α}{e base g:Nat}{ok:Nat->Prop}{v:Value}{xs:List α}{w w0 w1:World}(B:ah (Kd.V d e w0 base ok v xs))(hg:g=w.heap.size)(hb:Below w.heap.size w w1)(t:Kd.V d e w0 base ok v xs->Kd.V d e w base ok v xs:=by intro h;exact kD h):ah (Kd.V d e w1 base (λ k=>ok k∧k≠g) v xs):=⟨Kd.iA (Kd.RH (t B.out) g (Nat.le_of_eq hg.symm)) hb⟩
theorem kE{α β:Type}{d:Kd α}{d':Kd β}{e base e':Nat}{ok ok':Nat->Prop}{v u:Value}{xs:List α}{ys:List β}{w w0 w1 w2:World}(B:ah (Kd.R d e w0 base ok u xs))(ho:Kd.R d' e' w2 w.heap.size ok' v ys)(hb:Below w.heap.size w w1)(t:Kd.R d e w0 base ok u xs->Kd.R d e w base ok u xs:=by intro h;exact kD h):ah (Kd.R d e w1 base (λ k=>ok k∧some k≠v.ownBlock) u xs):=⟨Kd.RI (t B.out) (Kd.Kc ho) hb⟩
theorem kx{w:World}{g:Nat}{o:Obj}(h:ah (w.heap[g]? =some o)):ah (w.drew.heap[g]? =some o):=⟨h.out⟩
theorem ky{b:Nat}{w W:World}(h:ah (Below b w W)):ah (Below b w W.drew):=⟨h.out.drew⟩
theorem hs{p:Prop}(h:p:=by(try have h_:=hHeld);(repeat(obtain⟨_,h_⟩:=h_));(repeat' apply And.intro)<;>(repeat(with_reducible refine(cq (by assumption)).trans ?_))<;>(first|(with_reducible assumption)|exact(aj (ah.out (by with_reducible assumption)) _).trans rfl|exact(aj (VW (by with_reducible assumption)) _).trans rfl)):p:=h
theorem fr{W:World}{ok:Nat->Prop}(t:∀k,W.heap.size≤k->ok k:=by intro k_ gG;(repeat' apply And.intro)<;>(first|exact Nat.le_trans (bG hB) gG|exact Kd.zB (VW (by assumption)) k_ gG)):∀k,W.heap.size≤k->ok k:=t
theorem fo{W:World}{v:Value}{ok0 ok:Nat->Prop}(h:∀k,v.ownBlock=some k->ok0 k)(m:∀k,ok0 k->ok k:=by exact vt)(t:∀k,W.heap.size≤k->ok k:=by exact fr):∀k,some k=v.ownBlock∨W.heap.size≤k->ok k:=λ k hk=>hk.elim (λ h1=>m k (h k h1.symm)) (t k)
theorem ff{p q:Nat->Prop}(t:∀k,p k->q k:=by intro k_ gG;(repeat' (with_reducible refine Or.elim gG (λ gG=>?_) (λ gG=>?_)))<;>(repeat' apply And.intro)<;>(first|exact gG|exact .inr gG|exact .inl gG|exact .inl (.inl gG)|exact .inl (.inr gG)|omega|exact Nat.le_trans (bG hB) gG|exact .inr (Nat.le_trans (bG hB) gG)|exact Kd.zB (VW (by assumption)) k_ gG|exact λ e_=>Nat.not_le.2 gG (by rw[e_];exact ah.out (by assumption))|omega|grind)):∀k,p k->q k:=t
theorem kw{α:Type}{d:Kd α}{e base:Nat}{ok ok':Nat->Prop}{v:Value}{xs:List α}{w W:World}(B:ah (Kd.R d e w base ok v xs))(t:Kd.R d e w base ok v xs->Kd.R d e W base ok v xs:=by intro h;repeat(first|(with_reducible first|exact h|apply Kd.mh|apply Kd.mo|apply Kd.ow)|refine Kd.jF ?_ vt _))(m:∀k,ok k->ok' k:=by exact vt):Kd.R d e W base ok' v xs:=Kd.gY (t B.out) m
theorem kB{w w1 W:World}{g:Nat}{ty:TypeId}{cs cs':Array Value}(B:ah (w.heap[g]? =some (.cells cs ty (0,0))))(hb:Below W.heap.size W w1)(t:w.heap[g]? =some (.cells cs ty (0,0))->W.heap[g]? =some (.cells cs' ty (0,0)):=by intro h;(repeat(first|(with_reducible first|exact h|refine fP ?_ _|refine gP ?_|refine dP ?_ _|apply eB|apply bf)));all_goals(try first|(with_reducible assumption)|(simp only[List.setIfInBounds_toArray,List.set_cons_zero,List.set_cons_succ];done)|(simp only[List.setIfInBounds_toArray,List.set_cons_zero,List.set_cons_succ];rfl)|rfl)):ah (w1.heap[g]? =some (.cells cs' ty (0,0))):=⟨bY (t B.out) hb⟩
end Go.Proofs.Ct.Q
namespace Go.Proofs.Ct.Q
open Go.RowKit Go.Proofs.aA.ak Go.Proofs.aA.aC Go.Proofs.aA.aG
theorem gy{α β:Type}{e:α}{f:α->Option β}{r:β}{G:Prop}(h:∀y,ah (y=e)->f y=some r->G):(some e).bind f=some r->G:=λ H=>h e ⟨rfl⟩ H
theorem kU{α β:Type}{d:Kd α}{d':Kd β}{e base e':Nat}{ok ok':Nat->Prop}{v u:Value}{xs:List α}{ys:List β}{w w0 w1 w2:World}(B:ah (Kd.V d e w0 base ok v xs))(ho:Kd.R d' e' w2 w.heap.size ok' u ys)(hb:Below w.heap.size w w1)(t:Kd.V d e w0 base ok v xs->Kd.V d e w base ok v xs:=by intro h;exact kD h):ah (Kd.V d e w1 base (λ k=>ok k∧some k≠u.ownBlock) v xs):=⟨Kd.RJ (t B.out) (Kd.Kc ho) hb⟩
theorem kN{α:Type}{d:Kd α}{e:Nat}{ok:Nat->Prop}{v:Value}{xs:List α}{w W w1:World}(h:d.R e w1 W.heap.size ok v xs)(hb:Below w.heap.size w W:=by exact hB):ah (d.R e w1 w.heap.size (λ k=>w.heap.size≤k∧ok k) v xs):=⟨Kd.tO (Kd.BN (M:=λ k_=>(w.heap.size≤k_)) h (bG hb) (λ _ h_=>h_)) (bG hb)⟩
theorem kO{α:Type}{d:Kd α}{e:Nat}{ok:Nat->Prop}{v:Value}{xs:List α}{w W w1:World}(h:d.R e w1 W.heap.size ok v xs)(hb:Below w.heap.size w W:=by exact hB):ah (d.R e w1 w.heap.size ok v xs):=⟨Kd.tO h (bG hb)⟩
theorem kL{α:Type}{d:Kd α}{e:Nat}{ok:Nat->Prop}{v:Value}{xs:List α}{w W w1:World}(ok':Nat->Prop)(h:Kd.V d e w1 W.heap.size ok v xs)(m:∀k,ok k->ok' k:=by exact ff)(hb:Below w.heap.size w W:=by exact hB):ah (Kd.V d e w1 w.heap.size ok' v xs):=⟨Kd.lM (Kd.bU h m) (bG hb)⟩
theorem st{P:Program}{ops:Array Oper}{rest:List Oper}{o:Oper}{a:Act}{Q:Exit->Act->World->Prop}{W:World}{t:TypeId}{p:Tmp}{v:Operand}(w1:World)(h:∀w',w'=w1->wpList P ops Q rest a w')(ho:o.op= .store t (.tmp p) v:=by rfl)(hN:o.dst=none:=by rfl)(hgd:o.guard=none:=by rfl)(hrun:(execOp a.eval o).run P W= .ok .skip w1:=by first|(go_simp;done)|(go_simp;rfl)):wpList P ops Q (o::rest) a W:=mX hgd ho hN hrun h
theorem gt{P:Program}{ops:Array Oper}{Q:Exit->Act->World->Prop}{rest:List Oper}{o:Oper}{a:Act}{W:World}{v:Operand}(t:TypeId)(p:Tmp)(PL:o.op= .store t (.tmp p) v)(h:wpList P ops Q (o::rest) a W):wpList P ops Q (o::rest) a W:=h
theorem kP{α:Type}{d:Kd α}{e base:Nat}{ok:Nat->Prop}{v:Value}{xs ys:List α}{W w1:World}{p:Prop}(h:Kd.R d e W base ok v xs∧p)(N:ah (ys=xs))(hw:w1=W):ah (Kd.R d e w1 base ok v ys):=⟨hw▸N.out▸h.1⟩
end Go.Proofs.Ct.Q
namespace Go.Proofs.Ct.Q
open Go.RowKit Go.Proofs.aA.ak Go.Proofs.aA.aC Go.Proofs.aA.aG
theorem kJ{α:Type}{d:Kd α}{e g base:Nat}{v:Value}{xs:List α}{W w1:World}{o:Obj}(B:ah (W.heap[g]? =some o))(h:Kd.V d e w1 base (λ k=>W.heap.size≤k) v xs):ah (Kd.V d e w1 base (λ k=>g≤k∧k≠g) v xs):=⟨Kd.bU h λ k hk=>by have:=gT B.out;omega⟩
theorem kI{α:Type}{d:Kd α}{e g base:Nat}{ok:Nat->Prop}{v:Value}{xs:List α}{W w1:World}{o:Obj}(B:ah (W.heap[g]? =some o))(h:Kd.R d e w1 W.heap.size ok v xs):ah (Kd.V d e w1 base (λ k=>g≤k∧k≠g) v xs):=⟨Kd.kC (Kd.gY (Kd.jV h) λ k hk=>by have:=gT B.out;have:=hk.2.1;omega)⟩
end Go.Proofs.Ct.Q
end
namespace Go.Proofs.Ct.Q
open Go.RowKit Go.Proofs.aA.ak Go.Proofs.aA.aC Go.Proofs.aA.aG Go.Proofs.bO
def strings_Compare.f(a0 a1:ByteArray):Option Int:=some (Lib.compareBytes a0.data.toList a1.data.toList)
theorem strings_Compare.calls(a0:ByteArray)(a1:ByteArray)(r:Int)(w:World)(h:strings_Compare.f a0 a1=some r):
  Calls Tryz.prog 244 #[.string a0,.string a1] w λ e w'=>e= .returned (.int .i64 r)∧aM w w':=by
 obtain rfl:=Option.some.inj h;exact(Tryz.strings_Compare a0 a1 w).mono λ e w' hh=>⟨hh.1,by rw[hh.2];exact aM.refl _⟩
def cZ.f(l0:List Int):Option (List Int):=if l0.length<35184372088832 then some l0 else none
set_option maxHeartbeats 8000000 in
set_option maxRecDepth 100000 in
theorem cZ.some_(ad:Addr)(c0:Nat)(l0:List Int)(r:List Int)(w:World)(hr0:Kd.C (Kd.int .u32) w (some ad) l0.length l0)(hc0:l0.length≤c0)(h:cZ.f l0=some r):
 Calls Tryz.prog 407 #[.slice (some ad) l0.length c0] w λ e w'=>∃T:Value,e= .returned (T)∧Kd.R (Kd.int .u32) 328 w' w.heap.size (λ _=>True) T r∧Below w.heap.size w w':=by
 have Y:=ah.mk hr0;have HC0:=ah.mk hc0;clear hr0 hc0;have HB:=ah.mk (Below.refl w.heap.size w);have H:((some (([]:List Int):List Int)).bind λ s=>(if s.length+l0.length<35184372088832 then(some (s++l0))else(none)))=some r:=by simpa[cZ.f]using h
 clear h;first|(revert H;with_reducible refine gy λ s z H=>?_)|(generalize E:((([]:List Int)):List Int)=s at H;have z:=ah.mk E.symm;clear E)
 revert H;refine cn λ c2 H=>?_;have U:=ah.mk c2;clear c2;first|(revert H;with_reducible refine gy λ X F H=>?_)|(generalize I:((s++l0):List Int)=X at H;have F:=ah.mk I.symm;clear I)
 obtain rfl:=Option.some.inj H;have hnl:∀W:World,(binOp .eql 62 (.slice (some ad) l0.length c0) (.slice none 0 0)).run Tryz.prog W= .ok (.bool false) W:=λ W=>Lib.run_eql_slice_nil W 62 328 (some ad) _ _ 0 0 Tryz.underlying62;go_enter Tryz.func407,Tryz.ntmps407
 go_wp2_with (first|((with_reducible refine gV (N:=5) rfl ?_);refine Kd.C_ (Kd.int .u32) _ 328 ?hg (N:=5) ?hd (xs:=([]:List Int)) (inner:=[]) (ok:=λ _=>True) (kZ:=λ _=>True) ?hr ?hp (λ _ hk=>hk) trivial (Below.refl _ _) (Nat.le_refl _) (by simp) ?_;(case hd=>rfl);(case hg=>rfl);(case hr=>first|(go_simp;done)|(go_simp;rfl));(case hp=>exact(dY.none _ _));intro v145 w3 D hb Z L;clear Z L;(first|rw[<-z.out]at D|(simp only[Int.reduceToNat]at D;rw[<-z.out]at D));have J:=kO D;replace HB:=kh hb;clear hb D)|((with_reducible refine eX (b:= .append) (xs:= #[.tmp 5,.tmp 6]) rfl ?_);at_builtin;refine Kd.Bc (Kd.int .u32) (w0:=w) w.heap.size rfl (.tmp 5) (.tmp 6) 62 328 (.int .u32 0) 4 rfl Tryz.underlying62 iR rfl (by decide) (by omega) v145 s l0 _ _ _ (λ _=>True) (λ _=>False) rfl rfl ?aa ?ab (λ _ _ h=>h) (λ _ h=>h.elim) ?ac ?ae ?af ?ag ?_;(case ab=>repeat(first|exact(Kd.eH Y.out HB.out)|(with_reducible refine Kd.zw ?_ _)|(with_reducible refine Kd.zy ?_ _)|(with_reducible refine Kd.zA ?_)));(case ae=>exact hB);(case ac=>exact(λ _ _=>trivial));(case aa=>exact(kd J));(case af=>exact(bG hB));(case ag=>have:=U.out;omega);intro v148 w5 ho hb hg hat;rw[<-F.out]at ho;replace HB:=ah.mk (hb);have O:=ah.mk (ho);clear J ho hb hg hat))
 go_ret;exact⟨_,rW,kd O,hB⟩
set_option maxHeartbeats 400000 in
theorem cZ.calls(A0:Option Addr)(c0:Nat)(l0:List Int)(r:List Int)(w:World)(hr0:Kd.C (Kd.int .u32) w A0 l0.length l0)(hc0:l0.length≤c0)(h:cZ.f l0=some r):
 Calls Tryz.prog 407 #[.slice A0 l0.length c0] w λ e w'=>∃s:Value,e= .returned (s)∧Kd.R (Kd.int .u32) 328 w' w.heap.size (λ _=>True) s r∧Below w.heap.size w w':=by
 cases A0 with
 |some ad=>exact cZ.some_ ad c0 l0 r w hr0 hc0 h
 |none=>
  obtain rfl:l0=[]:=by
   rcases Nat.eq_zero_or_pos l0.length with h0|h0
   .exact List.eq_nil_of_length_eq_zero h0
   .obtain⟨ad,e,_⟩:=Kd.E5 hr0 0 (by omega) (by omega)
    exact absurd e (by simp)
  obtain rfl:r=[]:=by simpa[cZ.f]using h.symm
  have hnl:∀W:World,(binOp .eql 62 (.slice none 0 c0) (.slice none 0 0)).run Tryz.prog W= .ok (.bool true) W:=λ W=>Lib.run_eql_slice_nil W 62 328 none _ _ 0 0 Tryz.underlying62;clear hr0 hc0 h;show Calls Tryz.prog 407 #[.slice none 0 c0] w _;go_enter Tryz.func407,Tryz.ntmps407;go_wp2;go_ret;exact⟨_,rfl,Kd.mZ _ _ _ _ _,Below.refl _ _⟩
set_option maxHeartbeats 2000000 in
set_option maxRecDepth 100000 in
theorem Yk(s:ByteArray)(w:World)(hs:s.size<4294967281):
 Calls Tryz.prog 227 #[.string s,.string ⟨#[47]⟩] w λ e w'=>e= .returned (.tuple #[.string ⟨(Lib.cut s.data.toList [47]).1.toArray⟩,.string ⟨(Lib.cut s.data.toList [47]).2.1.toArray⟩,.bool (Lib.cut s.data.toList [47]).2.2])∧∃n,w'=w.drewN n:=by
 have hone:Lib.indexByte s.data.toList 47=Lib.index s.data.toList [47]:=(Lib.index_one _ _).symm;rcases Lib.indexB_cases s ⟨#[47]⟩with hix|⟨i,hix,hroom⟩
 .obtain⟨e1,e2,e3⟩:=Lib.cutB_miss s ⟨#[47]⟩ hix
  rw[show Lib.cut s.data.toList [47]=Lib.cut s.data.toList (⟨#[47]⟩:ByteArray).data.toList from rfl,e1,e2,e3];go_enter Tryz.func227,Tryz.ntmps227
  go_wp2_with (go_at_call 308;refine(Tryz.stringslite_Index_one _ 47 _).mono ?_;rintro e w' ⟨rfl,rfl⟩;rw[hone,show Lib.index s.data.toList [47]=_ from hix])
  go_ret3;exact⟨rfl,0,rfl⟩
 .obtain⟨e1,e2,e3⟩:=Lib.cutB_hit s ⟨#[47]⟩ i hix
  rw[show Lib.cut s.data.toList [47]=Lib.cut s.data.toList (⟨#[47]⟩:ByteArray).data.toList from rfl,e1,e2,e3];have c0:(⟨#[47]⟩:ByteArray).size=1:=rfl;have c1:(0:Int)≤ ↑i:=by omega
  have c2:(↑i:Int)≤ ↑s.size:=by omega
  have c3:(0:Int)≤ ↑i+1:=by omega
  have c4:(↑i+1:Int)≤ ↑s.size:=by omega
  clear c0;go_enter Tryz.func227,Tryz.ntmps227
  go_wp2_with (go_at_call 308;refine(Tryz.stringslite_Index_one _ 47 _).mono ?_;rintro e w' ⟨rfl,rfl⟩;rw[hone,show Lib.index s.data.toList [47]=_ from hix])
  go_region;go_wp2;go_ret3;exact⟨rfl,1,rfl⟩
def strings_Cut.f(a0 a1:ByteArray):Option (ByteArray×ByteArray×Bool):=
 if a1=⟨#[47]⟩∧a0.size<4294967281 then some (⟨(Lib.cut a0.data.toList [47]).1.toArray⟩,⟨(Lib.cut a0.data.toList [47]).2.1.toArray⟩,(Lib.cut a0.data.toList [47]).2.2)else none
set_option maxHeartbeats 1000000 in
theorem strings_Cut.calls(a0:ByteArray)(a1:ByteArray)(r1:ByteArray)(r2:ByteArray)(r3:Bool)(w:World)(h:strings_Cut.f a0 a1=some (r1,r2,r3)):
 Calls Tryz.prog 125 #[.string a0,.string a1] w λ e w'=>e= .returned (.tuple #[.string r1,.string r2,.bool r3])∧aM w w':=by
 unfold strings_Cut.f at h;split at h
 .rename_i hc
  obtain⟨rfl,hs⟩:=hc;simp only[Option.some.injEq,Prod.mk.injEq]at h;obtain⟨rfl,rfl,rfl⟩:=h;go_enter Tryz.func125,Tryz.ntmps125
  go_wp2_with (go_at_call 227;refine(Yk _ _ hs).mono ?_;rintro e w' ⟨rfl,n,rfl⟩)
  go_ret3;exact⟨rfl,⟨⟨n,rfl⟩⟩⟩
 .simp at h
theorem Ir{i:TypeInfo}(hi:Tryz.prog.info? 328=some i)(hz:i.zero=some (.int .u32 0))(h1:i.size=1)(h4:i.bytes=4)(c:Nat)(hc:c≤17592186044416)(w:World):
 (Instr.makeSlice 62 (.int .i64 0) (.int .i64 (c:Int))).run Tryz.prog w= .ok (.slice (some ⟨w.heap.size,0,none⟩) 0 c) (w.alloc (.cells (madeCells (Value.int .u32 0).cells c) 328)):=by
 have hr:=run_make (P:=Tryz.prog) w 62 328 i (.int .u32 0) Tryz.underlying62 hi hz .i64 .i64 0 c (by omega) (by omega) (by rw[h4];omega) (by omega);simp only[Int.toNat_natCast,h1,Nat.mul_one]at hr;exact hr
theorem ML(W:World)(base c:Nat)(hb:base≤W.heap.size)(hm:c≤maxLen):
 Kd.R (Kd.int .u32) 328 (W.alloc (.cells (madeCells (Value.int .u32 0).cells c) 328)) base (λ _=>True) (.slice (some ⟨W.heap.size,0,none⟩) 0 c) []:=
 ⟨λ _ _=>trivial,[],World.ownsRow_made W _ c hb hm (by rw[size_madeCells];simp[Kd.int,Kd.scalar,Value.cells]),dY.none _ _⟩
def dG.l0:Nat->List Int->List Int->Int->List Int->Int->Int->Option (List Int)
 |0,_,_,_,_,_,_=>none
 |k+1,x1,x5,x6,x21,s,x23=>if x23<s then(if 0≤x23 then(if x23<(x21.length:Int)then(if x23<(x1.length:Int)then(if x5.length<35184372088832 then(dG.l0 k x1 (x5++[((((rd x21 x23)+x6)+(rd x1 x23))% 4294967296)% 1000000000]) (((((rd x21 x23)+x6)+(rd x1 x23))% 4294967296)/1000000000) x21 s (wrap64 (x23+1)))else(none))else(if x5.length<35184372088832 then(dG.l0 k x1 (x5++[(((rd x21 x23)+x6)% 4294967296)% 1000000000]) ((((rd x21 x23)+x6)% 4294967296)/1000000000) x21 s (wrap64 (x23+1)))else(none)))else(none))else(none))else(if x5.length<35184372088832 then(some (x5++[x6]))else(none))
def dG.f(k:Nat)(l0:List Int)(l1:List Int):Option (List Int):=if l0.length<17592186044416∧l1.length<17592186044416 then(if l0.length<l1.length then dG.l0 k l0 [] 0 l1 (l1.length:Int) 0 else dG.l0 k l1 [] 0 l0 (l0.length:Int) 0)else none
set_option maxHeartbeats 8000000 in
set_option maxRecDepth 100000 in
theorem dG.ge(k:Nat)(A0:Option Addr)(c0:Nat)(l0:List Int)(A1:Option Addr)(c1:Nat)(l1:List Int)(r:List Int)(w:World)(hr0:Kd.C (Kd.int .u32) w A0 l0.length l0)(hc0:l0.length≤c0)(hr1:Kd.C (Kd.int .u32) w A1 l1.length l1)(hc1:l1.length≤c1)(hge:¬l0.length<l1.length)(hlen:l0.length<17592186044416)(h:dG.l0 k l1 ([]:List Int) 0 l0 (l0.length:Int) 0=some r):
 Calls Tryz.prog 404 #[.slice A0 l0.length c0,.slice A1 l1.length c1] w λ e w'=>∃av:Value,e= .returned (av)∧Kd.R (Kd.int .u32) 328 w' w.heap.size (λ _=>True) av r∧Below w.heap.size w w':=by
 have aw:=ah.mk hr0;have HC0:=ah.mk hc0;clear hr0 hc0;have HR1:=ah.mk hr1;have HC1:=ah.mk hc1;clear hr1 hc1;have HB:=ah.mk (Below.refl w.heap.size w);have H:(dG.l0 k l1 ([]:List Int) 0 l0 (l0.length:Int) 0)=some r:=h;clear h;have H':=ah.mk H;clear H;have ay:decide (l0.length<l1.length)=false:=decide_eq_false hge;have az:decide ((l0.length:Int)<(l1.length:Int))=false:=decide_eq_false (by omega);have ax:wrap64 ((l0.length:Int)+1)=((l0.length+1:Nat):Int):=by unfold wrap64;omega
 obtain⟨i0,hi0,hz0,hz1,hz2⟩:=info_parts iR;have hmk:∀W:World,(Instr.makeSlice 62 (.int .i64 0) (.int .i64 (wrap64 ((l0.length:Int)+1)))).run Tryz.prog W= .ok (.slice (some ⟨W.heap.size,0,none⟩) 0 (l0.length+1)) (W.alloc (.cells (madeCells (Value.int .u32 0).cells (l0.length+1)) 328)):=λ W=>by
  rw[ax];have h_:=@Ir i0 hi0 hz0 hz1 hz2 (l0.length+1) (by omega) W;exact h_
 have aS:=ah.mk hlen;clear ax hlen hi0 hz0 hz1 hz2;go_enter Tryz.func404,Tryz.ntmps404;go_wp2;clear hmk ay az;go_loopg [5,6,23] k (λ kq v5 v6 v23 w'=>∃(E:List Int)(z:Int)(s:Int),v6= .int .u32 z∧v23= .int .i64 s∧ah (dG.l0 kq l1 E z l0 (l0.length:Int) s=some r)∧ah (kq≤k)∧ah (Kd.R (Kd.int .u32) 328 w' w.heap.size (λ _=>True) v5 E)∧ah (Below w.heap.size w w'))
 case atStart=>exact⟨(([]:List Int)),(0),(0),rS,rS,H',⟨Nat.le_refl _⟩,⟨ML w w.heap.size (l0.length+1) (Nat.le_refl _) (by have:=aS.out;unfold maxLen;omega)⟩,⟨hB⟩⟩
 case round=>
  clear H';obtain⟨E,z,s,rfl,rfl,HA,L,F,HB⟩:=hrel;cases gk with
  |zero=>exact absurd HA.out (by simp[dG.l0])
  |succ k1=>
   have H:=HA.out;clear HA;simp only[dG.l0]at H;revert H;refine ci (λ c3 H=>?_) λ c3 H=>?_
   .have aB:=decide_eq_true c3
    clear c3;revert H;refine cn λ c4 H=>?_;have c4b0:=decide_eq_true c4;clear c4;revert H;refine cn λ c5 H=>?_;have c5b0:=decide_eq_true c5;clear c5;revert H;refine ci (λ c6 H=>?_) λ c6 H=>?_
    .have aD:=decide_eq_true c6
     clear c6;revert H;refine cn λ c7 H=>?_;have aE:=ah.mk c7;clear c7;first|(revert H;with_reducible refine gy λ aa O H=>?_)|(generalize T:((E++[((((rd l0 s)+z)+(rd l1 s))% 4294967296)% 1000000000]):List Int)=aa at H;have O:=ah.mk T.symm;clear T)
     have H':=ah.mk H;clear H;obtain⟨an,J,D,aF,aL⟩:=ai aw.out s;cases J;replace D:=hc D;obtain⟨ad134,aO,I,p134,q134⟩:=ai HR1.out s;cases aO;replace I:=hc I
     go_wp2_with (first|((with_reducible refine eX (b:= .append) (xs:= #[.tmp 41,.tmp 44]) rfl ?_);at_builtin;refine Kd.jl (Kd.int .u32) (w0:=w) w.heap.size rfl (.tmp 41) (.tmp 44) 62 328 (.int .u32 0) 4 rfl Tryz.underlying62 iR rfl (by decide) (by omega) u5 E (((((rd l0 s)+z)+(rd l1 s))% 4294967296)% 1000000000) [.int .u32 (((((rd l0 s)+z)+(rd l1 s))% 4294967296)% 1000000000)] (λ _=>True) (λ _=>False) rfl rfl ?ab (λ _ hk=>hk.elim) ?ac ?ae ?af ?ag ?al ?_;(case ab=>exact rfl);(case af=>exact hB);(case ac=>exact(λ _ _=>trivial));(case ae=>exact(kd F));(case ag=>exact(bG hB));(case al=>have:=aE.out;omega);intro v136 w8 ho hb hg hat;rw[<-O.out]at ho;replace HB:=ah.mk (hb);have ao:=ah.mk (ho);clear F ho hb hg hat))
     go_roundg k1
     case measure=>have:=L.out;omega
     case rel=>exact⟨(aa),(((((rd l0 s)+z)+(rd l1 s))% 4294967296)/1000000000),(wrap64 (s+1)),rS,rS,H',⟨by have:=L.out;omega⟩,⟨kd ao⟩,⟨hB⟩⟩
    .have aD:=decide_eq_false c6
     clear c6;revert H;refine cn λ c9 H=>?_;have aP:=ah.mk c9;clear c9;first|(revert H;with_reducible refine gy λ am U H=>?_)|(generalize X:((E++[(((rd l0 s)+z)% 4294967296)% 1000000000]):List Int)=am at H;have U:=ah.mk X.symm;clear X)
     have H':=ah.mk H;clear H;obtain⟨an,J,D,aF,aL⟩:=ai aw.out s;cases J;replace D:=hc D
     go_wp2_with (first|((with_reducible refine eX (b:= .append) (xs:= #[.tmp 41,.tmp 44]) rfl ?_);at_builtin;refine Kd.jl (Kd.int .u32) (w0:=w) w.heap.size rfl (.tmp 41) (.tmp 44) 62 328 (.int .u32 0) 4 rfl Tryz.underlying62 iR rfl (by decide) (by omega) u5 E ((((rd l0 s)+z)% 4294967296)% 1000000000) [.int .u32 ((((rd l0 s)+z)% 4294967296)% 1000000000)] (λ _=>True) (λ _=>False) rfl rfl ?ab (λ _ hk=>hk.elim) ?ac ?ae ?af ?ag ?al ?_;(case ab=>exact rfl);(case af=>exact hB);(case ac=>exact(λ _ _=>trivial));(case ae=>exact(kd F));(case ag=>exact(bG hB));(case al=>have:=aP.out;omega);intro v139 w10 ho hb hg hat;rw[<-U.out]at ho;replace HB:=ah.mk (hb);have ap:=ah.mk (ho);clear F ho hb hg hat))
     go_roundg k1
     case measure=>have:=L.out;omega
     case rel=>exact⟨(am),((((rd l0 s)+z)% 4294967296)/1000000000),(wrap64 (s+1)),rS,rS,H',⟨by have:=L.out;omega⟩,⟨kd ap⟩,⟨hB⟩⟩
   .have aB:=decide_eq_false c3
    clear c3;revert H;refine cn λ c11 H=>?_;have aq:=ah.mk c11;clear c11;first|(revert H;with_reducible refine gy λ aR Y H=>?_)|(generalize Z:((E++[z]):List Int)=aR at H;have Y:=ah.mk Z.symm;clear Z)
    obtain rfl:=Option.some.inj H
    go_wp2_with (first|((with_reducible refine eX (b:= .append) (xs:= #[.tmp 49,.tmp 51]) rfl ?_);at_builtin;refine Kd.jl (Kd.int .u32) (w0:=w) w.heap.size rfl (.tmp 49) (.tmp 51) 62 328 (.int .u32 0) 4 rfl Tryz.underlying62 iR rfl (by decide) (by omega) u5 E z [.int .u32 z] (λ _=>True) (λ _=>False) rfl rfl ?ab (λ _ hk=>hk.elim) ?ac ?ae ?af ?ag ?al ?_;(case ab=>exact rfl);(case af=>exact hB);(case ac=>exact(λ _ _=>trivial));(case ae=>exact(kd F));(case ag=>exact(bG hB));(case al=>have:=aq.out;omega);intro v142 w12 ho hb hg hat;rw[<-Y.out]at ho;replace HB:=ah.mk (hb);have ar:=ah.mk (ho);clear F ho hb hg hat))
    go_ret;exact⟨_,rW,kd ar,hB⟩
set_option maxHeartbeats 8000000 in
set_option maxRecDepth 100000 in
theorem dG.lt(k:Nat)(A0:Option Addr)(c0:Nat)(l0:List Int)(A1:Option Addr)(c1:Nat)(l1:List Int)(r:List Int)(w:World)(hr0:Kd.C (Kd.int .u32) w A0 l0.length l0)(hc0:l0.length≤c0)(hr1:Kd.C (Kd.int .u32) w A1 l1.length l1)(hc1:l1.length≤c1)(hlt:l1.length<l0.length)(hlen:l0.length<17592186044416)(h:dG.l0 k l1 ([]:List Int) 0 l0 (l0.length:Int) 0=some r):
 Calls Tryz.prog 404 #[.slice A1 l1.length c1,.slice A0 l0.length c0] w λ e w'=>∃av:Value,e= .returned (av)∧Kd.R (Kd.int .u32) 328 w' w.heap.size (λ _=>True) av r∧Below w.heap.size w w':=by
 have aw:=ah.mk hr0;have HC0:=ah.mk hc0;clear hr0 hc0;have HR1:=ah.mk hr1;have HC1:=ah.mk hc1;clear hr1 hc1;have HB:=ah.mk (Below.refl w.heap.size w);have H:(dG.l0 k l1 ([]:List Int) 0 l0 (l0.length:Int) 0)=some r:=h;clear h;have H':=ah.mk H;clear H;have ay:decide (l1.length<l0.length)=true:=decide_eq_true hlt;have az:decide ((l1.length:Int)<(l0.length:Int))=true:=decide_eq_true (by omega);have ax:wrap64 ((l0.length:Int)+1)=((l0.length+1:Nat):Int):=by unfold wrap64;omega
 obtain⟨i0,hi0,hz0,hz1,hz2⟩:=info_parts iR;have hmk:∀W:World,(Instr.makeSlice 62 (.int .i64 0) (.int .i64 (wrap64 ((l0.length:Int)+1)))).run Tryz.prog W= .ok (.slice (some ⟨W.heap.size,0,none⟩) 0 (l0.length+1)) (W.alloc (.cells (madeCells (Value.int .u32 0).cells (l0.length+1)) 328)):=λ W=>by
  rw[ax];have h_:=@Ir i0 hi0 hz0 hz1 hz2 (l0.length+1) (by omega) W;exact h_
 have aS:=ah.mk hlen;clear ax hlen hi0 hz0 hz1 hz2;go_enter Tryz.func404,Tryz.ntmps404;go_wp2;clear hmk ay az;go_loopg [5,6,23] k (λ kq v5 v6 v23 w'=>∃(E:List Int)(z:Int)(s:Int),v6= .int .u32 z∧v23= .int .i64 s∧ah (dG.l0 kq l1 E z l0 (l0.length:Int) s=some r)∧ah (kq≤k)∧ah (Kd.R (Kd.int .u32) 328 w' w.heap.size (λ _=>True) v5 E)∧ah (Below w.heap.size w w'))
 case atStart=>exact⟨(([]:List Int)),(0),(0),rS,rS,H',⟨Nat.le_refl _⟩,⟨ML w w.heap.size (l0.length+1) (Nat.le_refl _) (by have:=aS.out;unfold maxLen;omega)⟩,⟨hB⟩⟩
 case round=>
  clear H';obtain⟨E,z,s,rfl,rfl,HA,L,F,HB⟩:=hrel;cases gk with
  |zero=>exact absurd HA.out (by simp[dG.l0])
  |succ k1=>
   have H:=HA.out;clear HA;simp only[dG.l0]at H;revert H;refine ci (λ c3 H=>?_) λ c3 H=>?_
   .have aB:=decide_eq_true c3
    clear c3;revert H;refine cn λ c4 H=>?_;have c4b0:=decide_eq_true c4;clear c4;revert H;refine cn λ c5 H=>?_;have c5b0:=decide_eq_true c5;clear c5;revert H;refine ci (λ c6 H=>?_) λ c6 H=>?_
    .have aD:=decide_eq_true c6
     clear c6;revert H;refine cn λ c7 H=>?_;have aE:=ah.mk c7;clear c7;first|(revert H;with_reducible refine gy λ aa O H=>?_)|(generalize T:((E++[((((rd l0 s)+z)+(rd l1 s))% 4294967296)% 1000000000]):List Int)=aa at H;have O:=ah.mk T.symm;clear T)
     have H':=ah.mk H;clear H;obtain⟨an,J,D,aF,aL⟩:=ai aw.out s;cases J;replace D:=hc D;obtain⟨ad134,aO,I,p134,q134⟩:=ai HR1.out s;cases aO;replace I:=hc I
     go_wp2_with (first|((with_reducible refine eX (b:= .append) (xs:= #[.tmp 41,.tmp 44]) rfl ?_);at_builtin;refine Kd.jl (Kd.int .u32) (w0:=w) w.heap.size rfl (.tmp 41) (.tmp 44) 62 328 (.int .u32 0) 4 rfl Tryz.underlying62 iR rfl (by decide) (by omega) u5 E (((((rd l0 s)+z)+(rd l1 s))% 4294967296)% 1000000000) [.int .u32 (((((rd l0 s)+z)+(rd l1 s))% 4294967296)% 1000000000)] (λ _=>True) (λ _=>False) rfl rfl ?ab (λ _ hk=>hk.elim) ?ac ?ae ?af ?ag ?al ?_;(case ab=>exact rfl);(case af=>exact hB);(case ac=>exact(λ _ _=>trivial));(case ae=>exact(kd F));(case ag=>exact(bG hB));(case al=>have:=aE.out;omega);intro v136 w8 ho hb hg hat;rw[<-O.out]at ho;replace HB:=ah.mk (hb);have ao:=ah.mk (ho);clear F ho hb hg hat))
     go_roundg k1
     case measure=>have:=L.out;omega
     case rel=>exact⟨(aa),(((((rd l0 s)+z)+(rd l1 s))% 4294967296)/1000000000),(wrap64 (s+1)),rS,rS,H',⟨by have:=L.out;omega⟩,⟨kd ao⟩,⟨hB⟩⟩
    .have aD:=decide_eq_false c6
     clear c6;revert H;refine cn λ c9 H=>?_;have aP:=ah.mk c9;clear c9;first|(revert H;with_reducible refine gy λ am U H=>?_)|(generalize X:((E++[(((rd l0 s)+z)% 4294967296)% 1000000000]):List Int)=am at H;have U:=ah.mk X.symm;clear X)
     have H':=ah.mk H;clear H;obtain⟨an,J,D,aF,aL⟩:=ai aw.out s;cases J;replace D:=hc D
     go_wp2_with (first|((with_reducible refine eX (b:= .append) (xs:= #[.tmp 41,.tmp 44]) rfl ?_);at_builtin;refine Kd.jl (Kd.int .u32) (w0:=w) w.heap.size rfl (.tmp 41) (.tmp 44) 62 328 (.int .u32 0) 4 rfl Tryz.underlying62 iR rfl (by decide) (by omega) u5 E ((((rd l0 s)+z)% 4294967296)% 1000000000) [.int .u32 ((((rd l0 s)+z)% 4294967296)% 1000000000)] (λ _=>True) (λ _=>False) rfl rfl ?ab (λ _ hk=>hk.elim) ?ac ?ae ?af ?ag ?al ?_;(case ab=>exact rfl);(case af=>exact hB);(case ac=>exact(λ _ _=>trivial));(case ae=>exact(kd F));(case ag=>exact(bG hB));(case al=>have:=aP.out;omega);intro v139 w10 ho hb hg hat;rw[<-U.out]at ho;replace HB:=ah.mk (hb);have ap:=ah.mk (ho);clear F ho hb hg hat))
     go_roundg k1
     case measure=>have:=L.out;omega
     case rel=>exact⟨(am),((((rd l0 s)+z)% 4294967296)/1000000000),(wrap64 (s+1)),rS,rS,H',⟨by have:=L.out;omega⟩,⟨kd ap⟩,⟨hB⟩⟩
   .have aB:=decide_eq_false c3
    clear c3;revert H;refine cn λ c11 H=>?_;have aq:=ah.mk c11;clear c11;first|(revert H;with_reducible refine gy λ aR Y H=>?_)|(generalize Z:((E++[z]):List Int)=aR at H;have Y:=ah.mk Z.symm;clear Z)
    obtain rfl:=Option.some.inj H
    go_wp2_with (first|((with_reducible refine eX (b:= .append) (xs:= #[.tmp 49,.tmp 51]) rfl ?_);at_builtin;refine Kd.jl (Kd.int .u32) (w0:=w) w.heap.size rfl (.tmp 49) (.tmp 51) 62 328 (.int .u32 0) 4 rfl Tryz.underlying62 iR rfl (by decide) (by omega) u5 E z [.int .u32 z] (λ _=>True) (λ _=>False) rfl rfl ?ab (λ _ hk=>hk.elim) ?ac ?ae ?af ?ag ?al ?_;(case ab=>exact rfl);(case af=>exact hB);(case ac=>exact(λ _ _=>trivial));(case ae=>exact(kd F));(case ag=>exact(bG hB));(case al=>have:=aq.out;omega);intro v142 w12 ho hb hg hat;rw[<-Y.out]at ho;replace HB:=ah.mk (hb);have ar:=ah.mk (ho);clear F ho hb hg hat))
    go_ret;exact⟨_,rW,kd ar,hB⟩
theorem dG.calls(k:Nat)(A0:Option Addr)(c0:Nat)(l0:List Int)(A1:Option Addr)(c1:Nat)(l1:List Int)(r:List Int)(w:World)(hr0:Kd.C (Kd.int .u32) w A0 l0.length l0)(hc0:l0.length≤c0)(hr1:Kd.C (Kd.int .u32) w A1 l1.length l1)(hc1:l1.length≤c1)(h:dG.f k l0 l1=some r):
 Calls Tryz.prog 404 #[.slice A0 l0.length c0,.slice A1 l1.length c1] w λ e w'=>∃s:Value,e= .returned (s)∧Kd.R (Kd.int .u32) 328 w' w.heap.size (λ _=>True) s r∧Below w.heap.size w w':=by
 unfold dG.f at h;split at h
 .rename_i hl
  split at h
  .rename_i hlt
   exact dG.lt k A1 c1 l1 A0 c0 l0 r w hr1 hc1 hr0 hc0 hlt hl.2 h
  .rename_i hge
   exact dG.ge k A0 c0 l0 A1 c1 l1 r w hr0 hc0 hr1 hc1 hge hl.1 h
 .simp at h
theorem V_:∀k:Fin 128,(Utf8.encode ((128+k.val:Nat):Int)).data.toList.length=2∧((Utf8.encode ((128+k.val:Nat):Int)).data.toList.getD 1 0).toNat≥128:=by decide+kernel
theorem Uy(r:Int)(h0:128≤r)(h1:r<256):∃x y:UInt8,Utf8.encode r=⟨#[x,y]⟩∧128≤y.toNat:=by
 obtain⟨k,hk,rfl⟩:∃k:Nat,k<128∧r=((128+k:Nat):Int):=⟨(r-128).toNat,by omega,by omega⟩;obtain⟨h2,h3⟩:=V_ ⟨k,hk⟩;generalize Utf8.encode ((128+k:Nat):Int)=z at h2 h3;obtain⟨⟨l⟩⟩:=z
 match l,h2,h3 with
 |[x,y],_,h3=>exact⟨x,y,rfl,h3⟩
theorem Wd(y:UInt8)(h:128≤y.toNat):Lib.indexByte [91,93,44,39] y= -1:=by
 have h':∀c:UInt8,c.toNat<128->(c==y)=false:=λ c hc=>by
  rw[beq_eq_false_iff_ne];rintro rfl;omega
 simp[Lib.indexByte,h' 91 (by decide),h' 93 (by decide),h' 44 (by decide),h' 39 (by decide)]
set_option maxHeartbeats 2000000 in
set_option maxRecDepth 100000 in
theorem R7(r:Int)(w:World)(h0:128≤r)(h1:r<256):
 Calls Tryz.prog 133 #[.string ⟨#[95,46,91,93,44,39]⟩,.int .i32 r] w λ e w'=>e= .returned (.int .i64 (-1))∧aM w w':=by
 obtain⟨x,y,henc,hy⟩:=Uy r h0 h1;have hn:=Lib.hid (Wd y hy);have hcv:∀W:World,(convert 21 9 (.int .i32 r)).run Tryz.prog W= .ok (.string ⟨#[x,y]⟩) W:=λ W=>by
  rw[<-henc];kernel_rfl
 have t1:decide (0≤r)=true:=by simp;omega
 have t2:decide (r<128)=false:=by simp;omega
 have t3:(r==65533)=false:=by rw[beq_eq_false_iff_ne];omega
 have t4:Lib.validRune r=true:=by unfold Lib.validRune;simp;omega
 have t5:((((⟨#[95,46,91,93,44,39]⟩:ByteArray)[1]'(by decide)).toNat:Int) !=(((⟨#[x,y]⟩:ByteArray)[1]'(Nat.lt_succ_self 1)).toNat:Int))=true:=by
  rw[bne_iff_ne];show(46:Int)≠(y.toNat:Int);omega
 have t6:(((⟨#[x,y]⟩:ByteArray)[1]'(Nat.lt_succ_self 1)).toNat:Int).toNat.toUInt8=y:=by
  show((y.toNat:Int)).toNat.toUInt8=y;simp
 have hn2:=Lib.hid t6;clear t6;have hy2:=y.toNat_lt;go_enter Tryz.func133,Tryz.ntmps133
 go_wp2_with (go_at_call 236;refine(Tryz.utf8_ValidRune _ _).mono ?_;rintro e w' ⟨rfl,rfl⟩;rw[t4])
 refine wp_scope_straight ?_;go_wp2;refine wp_loop_rounds 1 ?_;rw[rounds_succ];go_wp2;refine wp_scope_straight ?_;go_wp2;go_quiet (fail);go_wp2;have hd:aM w' (w'.drewN nq):=⟨⟨nq,rfl⟩⟩;have hd:=Lib.hid hd;generalize World.drewN w' nq=w2 at hd|-
 have hcall:∀W:World,Calls Tryz.prog 235 #[.string ((⟨#[95,46,91,93,44,39]⟩:ByteArray).extract 2 6),.int .u8 (((⟨#[x,y]⟩:ByteArray)[1]'(Nat.lt_succ_self 1)).toNat:Int)] W λ e w'=>e= .returned (.int .i64 (-1))∧w'=W:=λ W=>(Tryz.strings_IndexByte _ _ _).mono (λ e w' h=>⟨by rw[h.1,hn2.out,show(ByteArray.extract ⟨#[95,46,91,93,44,39]⟩ 2 6).data.toList=[91,93,44,39]from rfl,hn.out],h.2⟩);have hcall:=Lib.hid hcall;go_quiet ((go_at_call 235;exact Calls.quiet_of_same (hcall.out _)));go_wp2;rw[Exit.noGoto_ret];go_wp2;rw[Exit.noGoto_ret];go_ret;exact⟨rfl,hd.out.step _⟩
def yx(r:Int):Bool:=[95,46,91,93,44,39].contains r.toNat.toUInt8
theorem NR(y:UInt8):decide (0≤Lib.indexByte [95,46,91,93,44,39] y)=[95,46,91,93,44,39].contains y:=by
 have:∀k:Fin 256,decide (0≤Lib.indexByte [95,46,91,93,44,39] (UInt8.ofNat k.val))=[95,46,91,93,44,39].contains (UInt8.ofNat k.val):=by decide+kernel
 have h:=this ⟨y.toNat,y.toNat_lt⟩;simpa using h
theorem Uz(r:Int)(h0:128≤r)(h1:r<256):yx r=false:=by
 obtain⟨k,hk,rfl⟩:∃k:Nat,k<128∧r=((128+k:Nat):Int):=⟨(r-128).toNat,by omega,by omega⟩;have:∀k:Fin 128,yx ((128+k.val:Nat):Int)=false:=by decide+kernel
 exact this ⟨k,hk⟩
set_option maxHeartbeats 400000 in
theorem qP(r:Int)(w:World)(h0:0≤r)(h1:r<256):
 Calls Tryz.prog 59 #[.string ⟨#[95,46,91,93,44,39]⟩,.int .i32 r] w λ e w'=>e= .returned (.bool (yx r))∧aM w w':=by
 by_cases h:r<128
 .exact(Tryz.strings_ContainsRune_ascii _ _ _ h0 h).mono (λ e w' hh=>⟨by rw[hh.1];exact congrArg (λ b=>Ending.returned (.bool b)) (NR _),by rw[hh.2];exact aM.refl _⟩)
 .rw[Uz r (by omega) h1]
  go_enter Tryz.func59,Tryz.ntmps59
  go_wp2_with (go_at_call 133;refine(R7 _ _ (by omega) h1).mono ?_;rintro e w' ⟨rfl,hd⟩)
  go_ret;exact⟨rfl,hd⟩
def xD(c:Int):Bool:=decide (97≤c)&&decide (c≤122)||decide (65≤c)&&decide (c≤90)
set_option maxHeartbeats 400000 in
theorem mK(c:Int)(w:World):Calls Tryz.prog 58 #[.int .u8 c] w λ e w'=>e= .returned (.bool (xD c))∧w'=w:=by
 unfold xD;cases h1:decide (97≤c)<;>cases h2:decide (c≤122)<;>cases h3:decide (65≤c)<;>cases h4:decide (c≤90)<;>
  (go_enter Tryz.func58,Tryz.ntmps58;go_wp2;go_ret;exact⟨rfl,rfl⟩)
def nX(c:Int):Bool:=xD c||(decide (48≤c)&&decide (c≤57))||yx c
def iP(s:ByteArray):Bool:=decide (0<s.size)&&decide (s.size≤80)&&xD (bt s 0)&&(List.range s.size).all (λ i=>nX (bt s i))
theorem P8{s:ByteArray}(h0:0<s.size)(h1:s.size≤80)(h2:xD (bt s 0)=true)(h3:∀j:Nat,j<s.size->nX (bt s j)=true):iP s=true:=by
 unfold iP;rw[decide_eq_true h0,decide_eq_true h1,h2,Bool.and_self,Bool.and_self,Bool.true_and,List.all_eq_true];intro x hx;exact h3 x (List.mem_range.1 hx)
theorem P9{s:ByteArray}{j:Nat}(hj:j<s.size)(h3:nX (bt s j)=false):iP s=false:=by
 unfold iP;rw[Bool.and_eq_false_iff];refine .inr ?_;rw[List.all_eq_false];exact⟨j,List.mem_range.2 hj,by rw[h3];decide⟩
set_option maxHeartbeats 1000000 in
theorem R8(s:ByteArray)(w:World):Calls Tryz.prog 17 #[.string s] w λ e w'=>e= .returned (.bool (iP s))∧aM w w':=by
 by_cases h0:s.size=0
 .have hn:iP s=false:=by unfold iP;simp[h0]
  rw[hn];have e1:s.toList=[]:=List.eq_nil_of_length_eq_zero (by rw[Lib.toList_data,<-Lib.size_eq];exact h0);have e2:(s.toList==([]:List UInt8))=true:=by rw[e1];rfl
  have e3:s.toList.isEmpty=true:=by rw[e1];rfl
  go_enter Tryz.func17,Tryz.ntmps17;go_wp2;go_ret;exact⟨rfl,aM.refl _⟩
 have e1:¬s.toList=[]:=λ h=>h0 (by rw[Lib.size_eq,<-Lib.toList_data,h];rfl);have e2:(s.toList==([]:List UInt8))=false:=beq_eq_false_iff_ne.2 e1;have e3:s.toList.isEmpty=false:=by cases h:s.toList with|nil=>exact absurd h e1|cons=>rfl
 by_cases h1:80<s.size
 .have hn:iP s=false:=by unfold iP;simp[show¬s.size≤80 by omega]
  rw[hn];have e4:decide (80<s.size)=true:=decide_eq_true h1;have e5:decide ((80:Int)<(s.size:Int))=true:=decide_eq_true (by omega);go_enter Tryz.func17,Tryz.ntmps17;go_wp2;go_ret;exact⟨rfl,aM.refl _⟩
 have e4:decide (80<s.size)=false:=decide_eq_false h1;have e5:decide ((80:Int)<(s.size:Int))=false:=decide_eq_false (by omega);have e6:0<s.size:=by omega
 cases h2:xD (bt s 0)with
 |false=>
  have hn:iP s=false:=by unfold iP;rw[h2];simp
  rw[hn];have hb:=Lib.hid h2;have hbt:∀h:0<s.size,((s[0]'h).toNat:Int)=bt s 0:=iX s 0;clear h2;go_enter Tryz.func17,Tryz.ntmps17
  go_wp2_with (go_at_call 58;refine(mK _ _).mono ?_;rintro e w' ⟨rfl,rfl⟩;rw[hb.out])
  go_ret;exact⟨rfl,aM.refl _⟩
 |true=>
  have hb:=Lib.hid h2;have hbt:∀(j:Nat)(h:j<s.size),((s[j]'h).toNat:Int)=bt s j:=λ j h=>iX s j (by simpa using h);have D:∀h:0<s.size,((s[0]'h).toNat:Int)=bt s 0:=iX s 0;have hfin:=λ h3=>P8 e6 (by omega) h2 h3;have hfin:=Lib.hid hfin;clear h2;go_enter Tryz.func17,Tryz.ntmps17
  go_wp2_with (go_at_call 58;refine(mK _ _).mono ?_;rintro e w' ⟨rfl,rfl⟩;rw[hb.out])
  clear D;go_loopw [22] (λ i wr=>∃k:Nat,k≤s.size∧i= .int .i64 k∧Hid (∀j:Nat,j<k->nX (bt s j)=true)∧aM w' wr) (λ i _=>s.size-(intOf i).toNat)
  case atStart=>exact⟨0,Nat.zero_le _,rfl,Lib.hid (λ j hj=>absurd hj (Nat.not_lt_zero _)),aM.refl _⟩
  case round=>
   obtain⟨k,hk,rfl,hall,hd⟩:=hrel;by_cases hlt:k<s.size
   .obtain⟨hr0,hr1⟩:=Ko s k
    generalize hc:bt s (k:Int)=c at hr0 hr1;have hbk:∀h:k<s.size,((s[k]'h).toNat:Int)=c:=λ h=>(hbt k h).trans hc;clear hbt;have hnext:nX c=true->Hid (∀j:Nat,j<k+1->nX (bt s j)=true):=λ hh=>Lib.hid (λ j hj=>by
     by_cases e:j=k
     .subst e;rw[hc];exact hh
     .exact hall.out j (by omega))
    have hnot:nX c=false->iP s=false:=λ hh=>P9 hlt (by rw[hc];exact hh);have hnext:=Lib.hid hnext;have hnot:=Lib.hid hnot;clear hc hall hfin;cases h5:xD c with
    |true=>
     have hn:=hnext.out (by unfold nX;rw[h5];rfl);have H5:=Lib.hid h5;clear h5 hnext hnot
     go_wp2_with (go_at_call 58;refine(mK _ _).mono ?_;rintro e w'' ⟨rfl,rfl⟩;rw[H5.out])
     go_roundw
     case rel=>exact⟨k+1,by omega,by go_num,hn,hd⟩
     case measure=>simp[intOf];omega
    |false=>
     by_cases h6:48≤c∧c≤57
     .have hn:=hnext.out (by unfold nX;rw[h5,decide_eq_true h6.1,decide_eq_true h6.2];rfl)
      have h7:decide (c<48)=false:=decide_eq_false (by omega);have h8:decide (57<c)=false:=decide_eq_false (by omega);have H5:=Lib.hid h5;clear h5 hnext hnot h6
      go_wp2_with (go_at_call 58;refine(mK _ _).mono ?_;rintro e w'' ⟨rfl,rfl⟩;rw[H5.out])
      go_roundw
      case rel=>exact⟨k+1,by omega,by go_num,hn,hd⟩
      case measure=>simp[intOf];omega
     .have e6:(decide (48≤c)&&decide (c≤57))=false:=by
       rw[<-Bool.decide_and];exact decide_eq_false h6
      have H5:=Lib.hid h5;clear h5;by_cases h7:c<48
      .have h8:decide (c<48)=true:=decide_eq_true h7
       cases h9:yx c with
       |true=>
        have hn:=hnext.out (by unfold nX;rw[H5.out,e6,h9];rfl);have z:=Lib.hid h9;clear h9 hnext hnot e6 h6
        go_wp2_with (first|(go_at_call 58;refine(mK _ _).mono ?_;rintro e w'' ⟨rfl,rfl⟩;rw[H5.out])|(go_at_call 59;refine(qP _ _ (by omega) (by omega)).mono ?_;rintro e w'' ⟨rfl,⟨nd,rfl⟩⟩;rw[z.out]))
        go_roundw
        case rel=>exact⟨k+1,by omega,by go_num,hn,hd.step _⟩
        case measure=>simp[intOf];omega
       |false=>
        have hn:=Lib.hid (hnot.out (by unfold nX;rw[H5.out,e6,h9];rfl));have z:=Lib.hid h9;clear h9 hnext hnot e6 h6
        go_wp2_with (first|(go_at_call 58;refine(mK _ _).mono ?_;rintro e w'' ⟨rfl,rfl⟩;rw[H5.out])|(go_at_call 59;refine(qP _ _ (by omega) (by omega)).mono ?_;rintro e w'' ⟨rfl,⟨nd,rfl⟩⟩;rw[z.out]))
        go_ret;exact⟨by rw[hn.out];rfl,hd.step _⟩
      .have h7':decide (c<48)=false:=decide_eq_false h7
       have h8:decide (57<c)=true:=decide_eq_true (by omega);cases h9:yx c with
       |true=>
        have hn:=hnext.out (by unfold nX;rw[H5.out,e6,h9];rfl);have z:=Lib.hid h9;clear h9 hnext hnot e6 h6 h7
        go_wp2_with (first|(go_at_call 58;refine(mK _ _).mono ?_;rintro e w'' ⟨rfl,rfl⟩;rw[H5.out])|(go_at_call 59;refine(qP _ _ (by omega) (by omega)).mono ?_;rintro e w'' ⟨rfl,⟨nd,rfl⟩⟩;rw[z.out]))
        go_roundw
        case rel=>exact⟨k+1,by omega,by go_num,hn,hd.step _⟩
        case measure=>simp[intOf];omega
       |false=>
        have hn:=Lib.hid (hnot.out (by unfold nX;rw[H5.out,e6,h9];rfl));have z:=Lib.hid h9;clear h9 hnext hnot e6 h6 h7
        go_wp2_with (first|(go_at_call 58;refine(mK _ _).mono ?_;rintro e w'' ⟨rfl,rfl⟩;rw[H5.out])|(go_at_call 59;refine(qP _ _ (by omega) (by omega)).mono ?_;rintro e w'' ⟨rfl,⟨nd,rfl⟩⟩;rw[z.out]))
        go_ret;exact⟨by rw[hn.out];rfl,hd.step _⟩
   .have hfin:=Lib.hid (hfin.out (λ j hj=>hall.out j (by omega)))
    go_wp2;go_ret;exact⟨by rw[hfin.out];rfl,hd⟩
def lG.f(a0:ByteArray):Option Bool:=some (iP a0)
theorem lG.calls(a0:ByteArray)(r:Bool)(w:World)(h:lG.f a0=some r):
 Calls Tryz.prog 17 #[.string a0] w λ e w'=>e= .returned (.bool r)∧Below w.heap.size w w':=by
 obtain rfl:=Option.some.inj h;exact(R8 a0 w).mono λ e w' hh=>⟨hh.1,hh.2.below⟩
end Go.Proofs.Ct.Q
