/- Part of the proof of CheckTexts (see the last text). -/
import Derived.Laws.StructEq
import Derived.Lib.Hide
import Derived.Shelf.Strings.SlTrimAscii
import Derived.Test.YtcclielbggpoaaaGreatDoorA00
import Derived.Test.YtcclielbggpoaaaGreatDoorA01
import Derived.Test.YtcclielbggpoaaaGreatDoorA02
set_option linter.all false
section
namespace Go.Proofs.g_
open Go Go.RowKit
section
variable {P:Program} {ops:Array Oper} {Q:Exit->Act->World->Prop} {F:Nat->Value->World->Prop} {S:Act->World->Prop} {X:World->World->Prop} {a0:Act}
theorem Kh{n N:Nat}{l:Array Bool}(hd:sG ops N=true)(hsz:l.size=ops.size)(hn:n<ops.size)(hlt:∀j,j<n->l.getD j false=true)(hln:l.getD n false=false):n∈Region.ready .any ops l:=by
 have ho:ops[n]? =some ops[n]:=by simp[hn]
 obtain⟨_,hb⟩:=rC hd ho ho;exact mem_ready.2 ⟨by simp[hsz,hn]at hln|-;exact hln,ops[n],ho,λ e he hbd=>hlt e.on (hb e he hbd)⟩
theorem Fe{n N fuel:Nat}{l:Array Bool}{a:Act}{w:World}(hd:sG ops N=true)(hc:Closed ops l)(hsz:l.size=ops.size)(hn:n<ops.size)(hlt:∀j,j<n->l.getD j false=true)(hge:∀j,n≤j->l.getD j false=false)
  (s:∀j,n<j->j<ops.size->((masks ops.toList []).getD j 0).testBit n=true)(h:wpOp P ops Q n (λ a w=>wpAny P .any ops Q fuel (l.setIfInBounds n true) a w) a w):wpAny P .any ops Q (fuel+1) l a w:=by
 refine⟨λ hr=>?_,λ i hi=>?_⟩
 .have:=Kh hd hsz hn hlt (hge n (Nat.le_refl _))
  rw[hr]at this;cases this
 .obtain⟨hun,o,ho,_⟩:=mem_ready.1 hi
  have hil:i<l.size:=by rw[hsz];exact(Array.getElem?_eq_some_iff.1 ho).1
  by_cases hin:i=n
  .subst hin;exact h
  .exfalso
   by_cases hlt':i<n
   .have:=hlt i hlt'
    simp[hil]at hun this;rw[this]at hun;cases hun
   .have hb:=s i (by omega) (by omega)
    have:=uU (ops:=ops) _ (pY hc hi) i (by simp[hil]) n hb;rw[getD_set_ne false hin,hge n (Nat.le_refl _)]at this;cases this
theorem Io{n:Nat}{o:Oper}{rest:List Oper}{K:Act->World->Prop}{a:Act}{w:World}(ho:ops[n]? =some o)(h:wpList P ops Q (o::rest) a w)(hK:∀a w,wpList P ops Q rest a w->K a w):wpOp P ops Q n K a w:=by
 refine wpOp_mono (K:=λ a w=>wpList P ops Q rest a w) (λ a w h=>hK a w h) ?_;unfold wpOp;rw[ho];unfold wpList at h;exact h
theorem PV{n:Nat}(hd:sG ops a0.tmps.size=true)(O:∀w w' j u,X w w'->F j u w->F j u w')(hn:ops.size=n+2)(hlast:lastB ops n=true)(D:lastB ops (n+1)=true)(hstep:∀i o,i<n->ops[i]? =some o->Fb P ops F S X a0 i o)
  (o1 o2:Oper)(ho1:ops[n]? =some o1)(ho2:ops[n+1]? =some o2)
  (hend:∀l a w,Mid ops F S a0 l a w->(∀i,i<n->l.getD i false=true)->l.getD n false=false->l.getD (n+1) false=false->wpList P ops Q [o1,o2] a w):
  ∀(fuel:Nat)(l:Array Bool)(a:Act)(w:World),Mid ops F S a0 l a w->l.getD n false=false->l.getD (n+1) false=false->cntF l.toList≤fuel->wpAny P .any ops Q fuel l a w:=by
 intro fuel;induction fuel with
 |zero=>
  intro l a w hm hln z hc;exfalso;have hlt:n<l.size:=by rw[hm.lsize];omega
  refine uV l.toList n (by omega) ?_;simp[hlt]at hln|-
  exact hln
 |succ fuel ih=>
  intro l a w hm hln z hc;by_cases hall:∀j,j<n->l.getD j false=true
  .have hbig:∀j,n≤j->l.getD j false=false:=λ j hj=>by
    by_cases h1:j=n
    .rw[h1];exact hln
    .by_cases h2:j=n+1
     .rw[h2];exact z
     .have:l.size≤j:=by rw[hm.lsize];omega
      simp[Array.getD,Nat.not_lt.2 this]
   have hrn:=Kh hd hm.lsize (by omega) hall hln;have hc2:=pY hm.closed hrn;have hcn:cntF (l.setIfInBounds n true).toList+1=cntF l.toList:=by
    have hlt:n<l.size:=by rw[hm.lsize];omega
    rw[Array.toList_setIfInBounds];exact w_ l.toList n (by simp[hlt]at hln|-;exact hln)
   have E:(l.setIfInBounds n true).getD (n+1) false=false:=by rw[getD_set_ne false (by omega)];exact z
   have hs2:(l.setIfInBounds n true).size=ops.size:=by simp[hm.lsize]
   have hpos:0<fuel:=by
    refine Nat.pos_of_ne_zero λ e=>?_;have hlt:n+1<(l.setIfInBounds n true).size:=by rw[hs2];omega
    refine uV (l.setIfInBounds n true).toList (n+1) (by omega) ?_;simp only[Array.getD_eq_getD_getElem?]at E;rw[Array.getElem?_toList];rw[Array.getElem?_eq_getElem hlt]at E|-
    simpa using E
   obtain⟨f,rfl⟩:∃f,fuel=f+1:=⟨fuel-1,by omega⟩;refine Fe hd hm.closed hm.lsize (by omega) hall hbig (λ j hj hj2=>?_) (Io ho1 (hend l a w hm hall hln z) λ a' w' h2=>?_)
   .have:j=n+1:=by omega
    rw[this];exact List.all_eq_true.1 D n (List.mem_range.2 (by omega))
   .have I:∀j,j<n+1->(l.setIfInBounds n true).getD j false=true:=λ j hj=>by
     by_cases h1:j=n
     .subst h1
      have hlt:j<l.size:=by rw[hm.lsize];omega
      simp[hlt]
     .rw[getD_set_ne false (Ne.symm h1)];exact hall j (by omega)
    have hbig2:∀j,n+1≤j->(l.setIfInBounds n true).getD j false=false:=λ j hj=>by rw[getD_set_ne false (by omega)];exact hbig j (by omega)
    refine Fe hd hc2 hs2 (by omega) I hbig2 (λ j hj hj2=>by omega) (Io ho2 h2 λ a3 w3 h3=>?_);refine wpAny_done (List.eq_nil_iff_forall_not_mem.2 λ j hj=>?_) h3 f;obtain⟨h4,oj,hoj,_⟩:=mem_ready.1 hj;have hj':j<n+2:=by rw[<-hn];exact(Array.getElem?_eq_some_iff.1 hoj).1
    have hfull:((l.setIfInBounds n true).setIfInBounds (n+1) true).getD j true=true:=by
     by_cases h1:j=n+1
     .subst h1
      have hlt:n+1<l.size:=by rw[hm.lsize];omega
      simp[hlt]
     .rw[getD_set_ne true (Ne.symm h1)]
      have:=I j (by omega);have hlt:j<(l.setIfInBounds n true).size:=by rw[hs2];omega
      simp only[Array.getD_eq_getD_getElem?,Array.getElem?_eq_getElem hlt,Option.getD_some]at this|-
      exact this
    rw[hfull]at h4;cases h4
  .refine⟨λ hr=>?_,λ i hi=>?_⟩
   .have:=ready_nil hd hm.lsize hr n (by omega)
    rw[hln]at this;cases this
   obtain⟨hun,o,ho,_⟩:=mem_ready.1 hi;have hlt:i<l.size:=by rw[hm.lsize];exact(Array.getElem?_eq_some_iff.1 ho).1
   have hin:i<n:=by
    refine Nat.lt_of_not_le λ hge=>hall λ j hj=>?_;have hb:((masks ops.toList []).getD i 0).testBit j=true:=by
     by_cases h1:i=n
     .rw[h1];exact List.all_eq_true.1 hlast j (List.mem_range.2 hj)
     .have:i=n+1:=by rw[hm.lsize]at hlt;omega
      rw[this];exact List.all_eq_true.1 D j (List.mem_range.2 (by omega))
    have:=uU (ops:=ops) _ (pY hm.closed hi) i (by simp[hlt]) j hb;rwa[getD_set_ne false (by omega)]at this
   have hcnt:cntF (l.setIfInBounds i true).toList≤fuel:=by
    rw[Array.toList_setIfInBounds];have:=w_ l.toList i (by simp[hlt]at hun|-;exact hun);omega
   have L:(l.setIfInBounds i true).getD n false=false:=by rw[getD_set_ne false (by omega)];exact hln
   have J:(l.setIfInBounds i true).getD (n+1) false=false:=by rw[getD_set_ne false (by omega)];exact z
   have hst:=hstep i o hin ho a w hm.size hm.s (BO hd hm hi ho);unfold wpOp;rw[ho];simp only;split
   .rename_i hw
    rw[if_pos hw]at hst;refine .inl (Ea (λ a' w' h=>?_) hst);obtain⟨v,rfl,hF,hS,hX⟩:=h;exact ih _ _ _ (wF hd (λ j u=>O w w' j u hX) hm hi ho hF hS) L J hcnt
   .rename_i hw
    rw[if_neg hw]at hst;exact ih _ _ _ (wF hd (λ j u h=>h) hm hi ho hst.1 hst.2) L J hcnt
theorem PX{n:Nat}{l:Array Bool}{a:Act}{w:World}(hn:ops.size=n+2)(hm:Mid ops F S a0 l a w)(hln:l.getD n false=false)(s:l.getD (n+1) false=false):a=eU a a0 (ops.toList.take n):=by
 have hs:=uI a (ops.toList.take n) a0;have hg:∀d,(eU a a0 (ops.toList.take n)).tmps.getD d undef=a.tmps.getD d undef:=λ d=>by
  refine vV a d (ops.toList.take n) a0 hm.size ?_;by_cases h:∃o∈ops.toList.take n,o.dst=some d
  .exact .inr h
  .refine .inl (hm.rest d λ i o ho hod=>?_).symm
   by_cases hin:i<n
   .exact absurd ⟨o,List.mem_of_getElem? (i:=i) (by rw[List.getElem?_take_of_lt hin,Array.getElem?_toList];exact ho),hod⟩ h
   .have h1:=(Array.getElem?_eq_some_iff.1 ho).1
    by_cases h2:i=n
    .rw[h2];exact hln
    .have:i=n+1:=by omega
     rw[this];exact s
 have ht:a.tmps=(eU a a0 (ops.toList.take n)).tmps:=by
  refine Array.ext (by rw[hs,hm.size]) λ i h1 h2=>?_;have:=hg i;simp[h1,h2]at this;exact this.symm
 have hdf:a.defers=(eU a a0 (ops.toList.take n)).defers:=by rw[vU,hm.defers]
 cases a;cases h:eU _ a0 (ops.toList.take n);simp only[h]at ht hdf;subst ht hdf;rfl
def StepT(P:Program)(ops:Array Oper)(F:Nat->Value->World->Prop)(T:Act->World->Prop)(W0:World)(a0:Act)(i:Nat)(o:Oper):Prop:=
 ∀(a:Act)(w:World),a.tmps.size=a0.tmps.size->Below W0.heap.size W0 w->T a w->Reads ops F a0 i o a w->
  if Region.wanted o (yielded ops a.tmps)=true then o.wp P a w (λ a' w'=>∃v,a'=a.put o.dst v∧F i v w'∧Below w.heap.size w w'∧T a' w') (λ _ _ _=>False)else F i undef w∧T (a.put o.dst undef) w
theorem StepT.of{T:Act->World->Prop}{W0:World}{i:Nat}{o:Oper}(h:StepB P ops F W0 a0 i o)(hk:∀a w v w',T a w->Below w.heap.size w w'->T (a.put o.dst v) w'):StepT P ops F T W0 a0 i o:=by
 intro a w _ hb ht hr;have h2:=h a w hb hr;split
 .rename_i hw
  rw[if_pos hw]at h2;exact Oper.wp_mono (λ a' w' hh=>by obtain⟨v,h3,h4,h5⟩:=hh;exact⟨v,h3,h4,h5,by rw[h3];exact hk a w v w' ht h5⟩) h2
 .rename_i hw
  rw[if_neg hw]at h2;exact⟨h2,hk a w undef w ht (Below.refl _ _)⟩
theorem Dj{id:Nat}{w:World}(T:Act->World->Prop)(n:Nat)(o1 o2:Oper)(hm:P.follows .mixedOrders=true)(hd:sG ops a0.tmps.size=true)(hn:ops.size=n+2)(hlast:lastB ops n=true)(z:lastB ops (n+1)=true)(ho1:ops[n]? =some o1)(ho2:ops[n+1]? =some o2)(D:∀w w' j u,Below w.heap.size w w'->F j u w->F j u w')
  (hT:T a0 w.drew)(hsteps:∀i o,i<n->ops[i]? =some o->StepT P ops F T w.drew a0 i o)
  (hend:∀a w',(∀i o d,i<n->ops[i]? =some o->o.dst=some d->F i (a.tmps.getD d undef) w')->a=eU a a0 (ops.toList.take n)->Below w.drew.heap.size w.drew w'->T a w'->wpList P ops Q [o1,o2] a w'):(Code.region id ops true).wp P Q a0 w:=by
 refine wp_region_any hm (PV (S:=λ a' w'=>Below w.drew.heap.size w.drew w'∧T a' w') (X:=λ w w'=>Below w.heap.size w w') (n:=n) hd (λ w w' j u h=>D w w' j u h) hn hlast z (λ i o hi ho a w' hsz hS hr=>?_) o1 o2 ho1 ho2 (λ l a w' hmid hl hln E=>hend a w' (λ i o d hi ho hod=>hmid.done i o d ho hod (hl i hi)) (PX hn hmid hln E) hmid.s.1 hmid.s.2) ops.size (Array.replicate ops.size false) a0 w.drew ⟨rfl,rfl,⟨Below.refl _ _,hT⟩,by simp,?_,?_,λ _ _=>rfl⟩ ?_ ?_ ?_)
 .have h2:=hsteps i o hi ho a w' hsz hS.1 hS.2 hr
  split
  .rename_i hw
   rw[if_pos hw]at h2;exact Oper.wp_mono (λ a' w'' hh=>by obtain⟨v,h3,h4,h5,h6⟩:=hh;exact⟨v,h3,h4,⟨uJ hS.1 h5,h6⟩,h5⟩) h2
  .rename_i hw
   rw[if_neg hw]at h2;exact⟨h2.1,hS.1,h2.2⟩
 .intro i o _ hl
  simp[Array.getD]at hl
 .intro i o d _ _ hl
  simp[Array.getD]at hl
 .simp[Array.getD]
 .simp[Array.getD]
 .rw[Array.toList_replicate,D_];exact Nat.le_refl _
def jO(P:Program)(ops:Array Oper)(F:Nat->Value->World->Prop)(T:Act->World->Prop)(W0:World)(a0:Act):Nat->List Oper->Prop
 |_,[]=>True
 |i,o::r=>StepT P ops F T W0 a0 i o∧jO P ops F T W0 a0 (i+1) r
theorem jO.at{T:Act->World->Prop}{W0:World}:∀(r:List Oper)(n:Nat),jO P ops F T W0 a0 n r->∀i o,r[i]? =some o->StepT P ops F T W0 a0 (n+i) o
 |[],_,_,i,o,h=>by simp at h
 |o'::r,n,h,0,o,ho=>by
  simp at ho;subst ho;exact h.1
 |o'::r,n,h,i+1,o,ho=>by
  have:=jO.at r (n+1) h.2 i o (by simpa using ho);rwa[show n+1+i=n+(i+1) by omega]at this
theorem jO.nil{T:Act->World->Prop}{W0:World}{n:Nat}:jO P ops F T W0 a0 n []:=trivial
theorem jO.cons{T:Act->World->Prop}{W0:World}{n:Nat}{o:Oper}{r:List Oper}(h:StepT P ops F T W0 a0 n o)(t:jO P ops F T W0 a0 (n+1) r):jO P ops F T W0 a0 n (o::r):=⟨h,t⟩
theorem jO.step{T:Act->World->Prop}{W0:World}{n:Nat}(h:jO P ops F T W0 a0 0 (ops.toList.take n)):∀i o,i<n->ops[i]? =some o->StepT P ops F T W0 a0 i o:=λ i o hi ho=>by
 have:=jO.at _ 0 h i o (by rw[List.getElem?_take_of_lt hi,Array.getElem?_toList];exact ho);rwa[Nat.zero_add]at this
end
end Go.Proofs.g_
end
namespace Go.Proofs
open Go.Shelf Go.RowKit
theorem Tryz.trim_any(s cutset:ByteArray)(w:World)(hs:s.size≤9223372036854775807)(hcs:cutset.size<4294967281)(hascii:∀(j:Nat) b,cutset.data.toList[j]? =some b->b.toNat<128):
 Calls Tryz.prog 229 #[.string s,.string cutset] w λ e w'=>e= .returned (.string ⟨(Lib.trimS s.data.toList cutset.data.toList).toArray⟩)∧Below w.heap.size w w':=Any.strings_Trim_laid Tryz.lays160 (by kernel_rfl) s cutset w hs hcs hascii
theorem Tryz.trimLeft_any(s cutset:ByteArray)(w:World)(hcs:cutset.size<4294967281)(hascii:∀(j:Nat) b,cutset.data.toList[j]? =some b->b.toNat<128):
 Calls Tryz.prog 246 #[.string s,.string cutset] w λ e w'=>e= .returned (.string ⟨(Lib.trimLeftS s.data.toList cutset.data.toList).toArray⟩)∧Below w.heap.size w w':=Any.strings_TrimLeft_laid Tryz.lays161 (by kernel_rfl) s cutset w hcs hascii
end Go.Proofs
section
namespace Go.Proofs.aA.ak
open Go.RowKit
namespace Kd
def tag{α:Type}(f:Nat->Nat)(d:Kd α):Kd (α×Nat)where
 sz:=d.sz
 E:=d.E
 K:=λ w x cs=>d.K w x.1 cs
 M:=λ w base ok x cs=>d.M w base (λ k=>ok k∧f k=x.2) x.1 cs
 ql:=λ h=>d.ql h
 qm:=λ h=>d.qm h
 nJ:=λ hb h=>d.nJ hb h
 jU:=λ h=>d.jU h
 jv:=λ hok h=>d.jv (λ k hk=>⟨hok k hk.1,hk.2⟩) h
 jN:=λ h=>d.jv (λ _ hk=>⟨⟨hk.1.1,hk.2⟩,hk.1.2⟩) (d.jN h)
 mV:=λ hm h=>d.mV (λ k hk=>hm k hk.1) h
 nK:=λ hb h=>d.nK hb h
def raw(sz:Nat):Kd (List Value)where
 sz:=sz
 E:=[]
 K:=λ _ x cs=>cs=x∧cs.length=sz∧∀u∈cs,u.oneCell'=true
 M:=λ _ _ _ x cs=>cs=x∧cs.length=sz∧∀u∈cs,u.oneCell'=true
 ql:=λ h=>h.2.1
 qm:=λ h=>h.2.2
 nJ:=λ _ h=>h
 jU:=λ h=>h
 jv:=λ _ h=>h
 jN:=λ h=>h
 mV:=λ _ h=>h
 nK:=λ _ h=>h
def S{α:Type}(d:Kd α)(e:Nat)(w:World)(base:Nat)(ok:Nat->Prop)(v:Value)(xs:List α):Prop:=∃f,(tag f d).R e w base ok v xs.zipIdx
section
variable {α β:Type} {d:Kd α} {d':Kd β} {e e':Nat} {w w1 W:World} {base b:Nat} {ok ok' okv oku:Nat->Prop} {u v:Value} {xs:List α} {ys:List β}
theorem jr(hE:d.E=[])(h:d.R e w base ok v xs):d.R e w base (λ k=>some k=v.ownBlock) v xs:=by
 obtain⟨h0,inner,ho,hr⟩:=h;refine⟨λ k hk=>hk.symm,inner,ho,hr.qZ (λ p c hp=>d.jv (λ k hk=>?_) (d.jN hp))⟩;obtain⟨_,_,_,q,hq,_⟩:=hk;rw[hE]at hq;cases hq
theorem F5(d:Kd α)(e:Nat)(w:World)(base:Nat)(ok:Nat->Prop):S d e w base ok (.slice none 0 0) []:=⟨λ _=>0,mZ _ _ _ _ _⟩
end
end Kd
end Go.Proofs.aA.ak
end
section
namespace Go.Proofs.aA.ak
open Go.RowKit
section
variable {P:Program} {d:Nat} {xs ys:Array Value} {f:Field} {fs:List Field} {a b:Value} {r s:Bool} {w:World}
theorem SQ(hn:(f.name== "_")=false)(ha:(part f.type xs f.offset).run P w= .ok a w)(hb:(part f.type ys f.offset).run P w= .ok b w)(he:(Op.equalIn d f.type a b).run P w= .ok r w):(Op.eqFields d xs ys [f]).run P w= .ok r w:=by
 have hn':f.name≠ "_":=by simpa using hn
 simp only[Op.eqFields,if_pos hn',Sem.run_bind,ha,hb,he,Result.andThen_ok];cases r<;>simp
theorem KV(hn:(f.name== "_")=false)(ha:(part f.type xs f.offset).run P w= .ok a w)(hb:(part f.type ys f.offset).run P w= .ok b w)(he:(Op.equalIn d f.type a b).run P w= .ok r w)(hr:(Op.eqFields d xs ys fs).run P w= .ok s w):(Op.eqFields d xs ys (f::fs)).run P w= .ok (r&&s) w:=by
 have hn':f.name≠ "_":=by simpa using hn
 rw[Op.eqFields];simp only[if_pos hn',Sem.run_bind,ha,hb,he,Result.andThen_ok];cases r
 .simp
 .simpa using hr
theorem Xt{t:TypeId}{fs:Array Field}(hu:P.underlying t=some (.struct fs))(hp:P.stoodInHeld t=false)(h:(Op.eqFields d xs ys fs.toList).run P w= .ok r w):(Op.equalIn (d+1) t (.agg xs) (.agg ys)).run P w= .ok r w:=by
 have hf:P.fieldsOf t=fs:=by simp[Program.fieldsOf,hu]
 rw[run_equalIn_struct (P:=P) w d t xs ys (by rw[hf];exact hu) hp,hf];exact h
end
end Go.Proofs.aA.ak
end
section
namespace Go.Proofs.aA.ak
open Go.RowKit
section
variable {P:Program} {ops:Array Oper} {rest:List Oper} {o:Oper} {a:Act} {Q:Exit->Act->World->Prop} {W:World}
theorem sS(hw:Region.wanted o (yielded ops a.tmps)=true)(h:wpList P ops Q ({o with guard:=none}::rest) a W):wpList P ops Q (o::rest) a W:=by
 have h1:Region.wanted {o with guard:=none} (yielded ops a.tmps)=true:=rfl;unfold wpList at h|-
 rw[if_pos h1]at h;rw[if_pos hw];exact h
end
end Go.Proofs.aA.ak
end
namespace Go.Proofs.aA.ak
theorem dY.one{α:Type}{R:α->List Value->Prop}{ps:List α}{cs:List Value}{p:α}{v:Value}(hp:R p [v])(h:dY R 1 ps cs):dY R 1 (p::ps) (v::cs):=by
 refine⟨by simp[h.1],λ j q hq=>?_⟩;cases j with
 |zero=>
  simp only[List.getElem?_cons_zero,Option.some.injEq]at hq;subst hq;simpa using hp
 |succ j=>
  simp only[List.getElem?_cons_succ]at hq;have h1:=h.2 j q hq;simpa[Nat.mul_one]using h1
end Go.Proofs.aA.ak
section
namespace Go.Proofs.aA.aC
open Go.Proofs.aA.ak (ah)
def wH(md:Region.Mode)(o:Oper):List Nat:=(o.after.toList.filter (λ e=>Region.binds md e)).map (λ e=>e.on)
def Hg(md:Region.Mode)(ops:Array Oper)(i:Nat)(oi:Oper):List Nat:=(List.range ops.size).filter λ j=> !(j==i)&&match ops[j]? with
 |some oj=> !(oj.after.any (λ e=>Region.binds md e&&e.on==i)||oi.apart ops oj)
 |none=>false
def jQ(md:Region.Mode)(ops:Array Oper):Bool×List (List Nat×List Nat):=(Region.noSelect ops,(List.range ops.size).map λ i=>match ops[i]? with
 |some o=>(wH md o,Hg md ops i o)
 |none=>([],[]))
def rG(T:List (List Nat×List Nat))(l:List Bool)(i:Nat):Bool:= !l.getD i true&&match T[i]? with
 |some r=>r.1.all (λ j=>l.getD j false)
 |none=>false
def Cu(T:List (List Nat×List Nat))(l:List Bool):List Nat:=(List.range T.length).filter (rG T l)
def Gn(T:List (List Nat×List Nat))(l:List Bool)(i:Nat):Bool:=match T[i]? with
 |some r=>r.2.all (λ j=>l.getD j true)
 |none=>false
def Dh(T:List (List Nat×List Nat))(l:List Bool):Bool:=(List.range T.length).all λ j=> !l.getD j false||match T[j]? with
 |some r=>r.1.all (λ k=>l.getD k false)
 |none=>true
def zL(T:List (List Nat×List Nat))(i:Nat):Nat->Nat->Bool
 |0,_=>false
 |fuel+1,d=>match T[d]? with
  |some r=>r.1.any λ j=>j==i||zL T i fuel j
  |none=>false
def lastT(T:List (List Nat×List Nat))(l:List Bool)(ds:List Nat)(i:Nat):Bool:=ds.all λ d=>l.getD d true||zL T i T.length d
section
variable {md:Region.Mode} {ops:Array Oper} {T:Bool×List (List Nat×List Nat)} {l l' li lj lk:Array Bool} {ds:List Nat} {i j k:Nat}
theorem gd(l:Array Bool)(j:Nat)(b:Bool):l.getD j b=l.toList.getD j b:=by simp[Array.getD_eq_getD_getElem?,List.getD_eq_getElem?_getD]
theorem IX(o:Oper)(p:Nat->Bool):o.after.all (λ e=> !Region.binds md e||p e.on)=(wH md o).all p:=by
 unfold wH;rw[<-Array.all_toList];induction o.after.toList with
 |nil=>rfl
 |cons e r ih=>
  rw[List.all_cons,ih,List.filter_cons];cases h:Region.binds md e<;>simp
theorem Q7(o:Oper)(p:Nat->Bool):o.after.any (λ e=>Region.binds md e&&p e.on)=(wH md o).any p:=by
 unfold wH;rw[<-Array.any_toList];induction o.after.toList with
 |nil=>rfl
 |cons e r ih=>
  rw[List.any_cons,ih,List.filter_cons];cases h:Region.binds md e<;>simp
theorem uK:(jQ md ops).2.length=ops.size:=by simp[jQ]
theorem yJ{o:Oper}(h:ops[i]? =some o):(jQ md ops).2[i]? =some (wH md o,Hg md ops i o):=by
 have hi:=(Array.getElem?_eq_some_iff.1 h).1;unfold jQ;rw[List.getElem?_map,List.getElem?_range hi,Option.map_some,h]
theorem yK(h:ops[i]? =none):(jQ md ops).2[i]? =none:=by
 have hi:ops.size≤i:=Array.getElem?_eq_none_iff.1 h;exact List.getElem?_eq_none (by rw[uK];exact hi)
theorem Oj:rG (jQ md ops).2 l.toList i=(!l.getD i true&&((ops[i]?).map (·.after.all λ e=> !Region.binds md e||l.getD e.on false)).getD false):=by
 unfold rG;rw[gd];cases h:ops[i]? with
 |none=>rw[yK h];rfl
 |some o=>
  rw[yJ h];simp only[Option.map_some,Option.getD_some];rw[<-IX];simp only[gd]
theorem ready_eq:Region.ready md ops l=Cu (jQ md ops).2 l.toList:=by
 unfold Region.ready Cu;rw[uK];refine List.filter_congr (λ i _=>?_);rw[Oj]
theorem free_eq:Region.free md ops l i=Gn (jQ md ops).2 l.toList i:=by
 unfold Region.free Gn;cases h:ops[i]? with
 |none=>rw[yK h]
 |some oi=>
  rw[yJ h];simp only[Hg];rw[List.all_filter];congr 1;funext j;rw[gd];cases hj:ops[j]? with
  |none=>cases(j==i)<;>cases(l.toList.getD j true)<;>simp
  |some oj=>
   cases(j==i)<;>cases(l.toList.getD j true)<;>cases(oj.after.any (λ e=>Region.binds md e&&e.on==i)||oi.apart ops oj)<;>simp_all
theorem Q8:Region.zK md ops l=Dh (jQ md ops).2 l.toList:=by
 unfold Region.zK Dh;rw[uK];congr 1;funext j;rw[gd];cases h:ops[j]? with
 |none=>rw[yK h]
 |some o=>
  rw[yJ h];simp only;rw[<-IX];simp only[gd]
theorem K_:∀(fuel d:Nat),Region.oC md ops i fuel d=zL (jQ md ops).2 i fuel d
 |0,_=>rfl
 |fuel+1,d=>by
  unfold Region.oC zL;cases h:ops[d]? with
  |none=>rw[yK h]
  |some o=>
   rw[yJ h];simp only;rw[<-Q7];congr 1;funext e;rw[K_ fuel]
theorem Vi:Region.lastB md ops l ds i=lastT (jQ md ops).2 l.toList ds i:=by
 unfold Region.lastB lastT;rw[uK];congr 1;funext d;rw[gd,K_]
theorem DV(h:rG T.2 l.toList i=true)(hT:jQ md ops=T):(Region.ready md ops l).contains i=true:=by
 subst hT;rw[ready_eq];unfold Cu;rw[List.contains_iff_mem,List.mem_filter,List.mem_range];refine⟨?_,h⟩;unfold rG at h;rw[Bool.and_eq_true]at h;cases hq:(jQ md ops).2[i]? with
 |none=>rw[hq]at h;simp at h
 |some r=>exact(List.getElem?_eq_some_iff.1 hq).1
theorem La(h:(l.toList.set i true==l'.toList)=true):(l.setIfInBounds i true==l')=true:=by
 rw[beq_iff_eq]at h|-
 apply Array.ext';rw[Array.toList_setIfInBounds];exact h
def XK(T:Bool×List (List Nat×List Nat))(l l':List Bool)(i:Nat):Bool:=T.1&&Gn T.2 l i&&rG T.2 l i&&(l.set i true==l')
theorem PI(hT:jQ md ops=T)(h:XK T l.toList l'.toList i=true):GQ md ops l l' i=true:=by
 simp only[XK,Bool.and_eq_true]at h;obtain⟨⟨⟨h1,h2⟩,h3⟩,h4⟩:=h;have h5:=DV h3 hT;have h6:=La h4;subst hT;simp only[GQ,Bool.and_eq_true];exact⟨⟨⟨h1,by rw[free_eq];exact h2⟩,h5⟩,h6⟩
def Ol(T:Bool×List (List Nat×List Nat))(ds:List Nat)(l l':List Bool)(i:Nat):Bool:=T.1&&Gn T.2 l i&&rG T.2 l i&&Dh T.2 l&&lastT T.2 l ds i&&(l.set i true==l')
theorem Vj(hT:jQ md ops=T)(h:Ol T ds l.toList l'.toList i=true):takeB md ops ds l l' i=true:=by
 simp only[Ol,Bool.and_eq_true]at h;obtain⟨⟨⟨⟨⟨h1,h2⟩,h3⟩,h4⟩,h5⟩,h6⟩:=h;have h7:=DV h3 hT;have h8:=La h6;subst hT;simp only[takeB,Bool.and_eq_true];exact⟨⟨⟨⟨⟨h1,by rw[free_eq];exact h2⟩,h7⟩,by rw[Q8];exact h4⟩,by rw[Vi];exact h5⟩,h8⟩
theorem PK(hT:jQ md ops=T)(h:(Cu T.2 l.toList==[i]&&l.toList.set i true==l'.toList)=true):uS md ops l l' i=true:=by
 simp only[Bool.and_eq_true]at h;obtain⟨h1,h2⟩:=h;subst hT;simp only[uS,Bool.and_eq_true];exact⟨by rw[ready_eq];exact h1,La h2⟩
theorem Uo(hT:jQ md ops=T)(h:(Cu T.2 l.toList==[])=true):(Region.ready md ops l==[])=true:=by
 subst hT;rw[ready_eq];exact h
def Lb(B:List Nat)(d:Nat):List Nat->Nat
 |[]=>0
 |n::r=>(2^n|||(if n<d then B.getD n 0 else 0))|||Lb B d r
def mF(T:List (List Nat×List Nat))(B:List Nat):Bool:=(List.range T.length).all λ d=>match T[d]? with
 |some r=>(B.getD d 0|||Lb B d r.1)==Lb B d r.1
 |none=>false
theorem MZ{B:List Nat}{d i:Nat}:∀{ns:List Nat},(Lb B d ns).testBit i=true->∃n∈ns,n=i∨(n<d∧(B.getD n 0).testBit i=true)
 |[],h=>by simp[Lb]at h
 |n::r,h=>by
  unfold Lb at h;rw[Nat.testBit_or,Nat.testBit_or,Bool.or_eq_true,Bool.or_eq_true]at h;rcases h with(h|h)|h
  .rw[Nat.testBit_two_pow]at h
   exact⟨n,List.mem_cons_self,.inl (by simpa using h)⟩
  .by_cases hn:n<d
   .rw[if_pos hn]at h
    exact⟨n,List.mem_cons_self,.inr ⟨hn,h⟩⟩
   .rw[if_neg hn]at h
    simp at h
  .obtain⟨m,hm,h2⟩:=MZ h
   exact⟨m,List.mem_cons_of_mem _ hm,h2⟩
theorem IY{T:List (List Nat×List Nat)}{B:List Nat}(hB:mF T B=true):∀(fuel d:Nat),d<fuel->d<T.length->(B.getD d 0).testBit i=true->zL T i fuel d=true
 |0,d,h,_,_=>by omega
 |fuel+1,d,h,hd,hb=>by
  have h1:=List.all_eq_true.1 hB d (List.mem_range.2 hd);cases hr:T[d]? with
  |none=>rw[hr]at h1;simp at h1
  |some r=>
   rw[hr]at h1;simp only[beq_iff_eq]at h1;have h2:(Lb B d r.1).testBit i=true:=by rw[<-h1,Nat.testBit_or,hb,Bool.true_or]
   obtain⟨n,hn,h3⟩:=MZ h2;unfold zL;rw[hr];simp only;rw[List.any_eq_true];refine⟨n,hn,?_⟩;rcases h3 with rfl|⟨h4,h5⟩
   .simp
   .rw[IY hB fuel n (by omega) (by omega) h5,Bool.or_true]
def TW(T:List (List Nat×List Nat))(B:List Nat)(l:List Bool)(ds:List Nat)(i:Nat):Bool:=ds.all λ d=>l.getD d true||(decide (d<T.length)&&(B.getD d 0).testBit i)
def TY(T:Bool×List (List Nat×List Nat))(B:List Nat)(ds:List Nat)(l l':List Bool)(i:Nat):Bool:=T.1&&Gn T.2 l i&&rG T.2 l i&&Dh T.2 l&&TW T.2 B l ds i&&(l.set i true==l')
theorem RG{B:List Nat}(hT:jQ md ops=T)(hB:mF T.2 B=true)(h:TY T B ds l.toList l'.toList i=true):takeB md ops ds l l' i=true:=by
 refine Vj hT ?_;simp only[TY,Ol,Bool.and_eq_true]at h|-
 obtain⟨⟨⟨⟨⟨h1,h2⟩,h3⟩,h4⟩,h5⟩,h6⟩:=h;refine⟨⟨⟨⟨⟨h1,h2⟩,h3⟩,h4⟩,?_⟩,h6⟩;unfold TW at h5;unfold lastT;rw[List.all_eq_true]at h5|-
 intro d hd;have h7:=h5 d hd;rw[Bool.or_eq_true,Bool.and_eq_true,decide_eq_true_eq]at h7;rcases h7 with h7|⟨h8,h9⟩
 .rw[h7,Bool.true_or]
 .rw[IY hB _ d h8 h8 h9,Bool.or_true]
theorem lI{P:Program}{Q:Exit->Act->World->Prop}{S:World->Prop}{n:Nat}{a:Act}{w:World}{B:List Nat}(hT:jQ md ops=T)(hB:mF T.2 B=true)(h:ah (jQ md ops=T)->ah (mF T.2 B=true)->bW P md ops Q S ds n l a w):bW P md ops Q S ds n l a w:=h ⟨hT⟩ ⟨hB⟩
end
def uL:Code->Nat->Option (Array Oper)
 | .region id ops _,k=>if id==k then some ops else none
 | .seq a b,k=>match uL a k with
   |some o=>some o
   |none=>uL b k
 | .cond _ a b,k=>match uL a k with
   |some o=>some o
   |none=>uL b k
 | .block _ c,k=>uL c k
 | .loop c,k=>uL c k
 | .scope c,k=>uL c k
 | .rangeFunc _ _ a b,k=>match uL a k with
   |some o=>some o
   |none=>uL b k
 |_,_=>none
def opsOf(f:Func)(k:Nat):Array Oper:=((f.body.bind λ c=>uL c k)).getD #[]
end Go.Proofs.aA.aC
end
namespace Go.Proofs.aA.ak
namespace Kd
open Go.RowKit
structure Heap{α:Type}(d:Kd α):Prop where
 K:∀{w w1:World}{x:α}{cs:List Value},(∀k,k<w.heap.size->w1.heap[k]? =w.heap[k]?)->d.K w x cs->d.K w1 x cs
theorem QZ{w w1:World}(hb:∀k,k<w.heap.size->w1.heap[k]? =w.heap[k]?){a:Addr}{v:Value}(h:w.cell? a=some v):w1.cell? a=some v:=by
 have:=hb a.block (World.block_lt_of_cell? w a h);simpa[World.cell?,this]using h
theorem Heap.C{α:Type}{d:Kd α}(hd:Heap d){w w1:World}{A:Option Addr}{n:Nat}{xs:List α}(hb:∀k,k<w.heap.size->w1.heap[k]? =w.heap[k]?)(h:d.C w A n xs):d.C w1 A n xs:=
 ⟨h.1,h.2.1,λ hn=>by
  obtain⟨ad,e,hc⟩:=h.2.2 hn;refine⟨ad,e,λ j p hj=>?_⟩;obtain⟨c,hs,hr,hcell⟩:=hc j p hj;exact⟨c,hs,hd.K hb hr,λ i u hu=>QZ hb (hcell i u hu)⟩⟩
theorem KW(k:IntKind):Heap (Kd.int k):=⟨λ _ h=>h⟩
end Kd
end Go.Proofs.aA.ak
section
namespace Go.Proofs.aA.ak
open Go.RowKit
def Kept(w W:World)(S:Nat->Prop):Prop:=w.heap.size≤W.heap.size∧∀i,i<w.heap.size->¬S i->W.heap[i]? =w.heap[i]?
section
variable {w W W2:World} {S S2 S':Nat->Prop}
theorem Kept.refl(w:World)(S:Nat->Prop):Kept w w S:=⟨Nat.le_refl _,λ _ _ _=>rfl⟩
theorem Kept.then_(h:Kept w W S)(k:Kept W W2 S2)(hs:∀k,S2 k->S k∨w.heap.size≤k):Kept w W2 S:=
 ⟨Nat.le_trans h.1 k.1,λ i hi hn=>(k.2 i (Nat.lt_of_lt_of_le hi h.1) (λ h2=>(hs i h2).elim hn (λ h3=>by omega))).trans (h.2 i hi hn)⟩
theorem Kept.drew(h:Kept w W S):Kept w W.drew S:=h
theorem Kept.setCell(h:Kept w W S){p:Addr}(hp:S p.block∨w.heap.size≤p.block)(u:Value):Kept w (W.setCell p u) S:=
 h.then_ (S2:=λ k=>k=p.block) ⟨by simp[World.setCell],λ i _ hn=>Below.heap_setCell W p u i hn⟩ (λ k hk=>by rw[hk];exact hp)
end
end Go.Proofs.aA.ak
end
section
namespace Go.Proofs.aA.ak
open Go.RowKit
def mg(P:World->Prop)(W:World)(ok:Nat->Prop):Prop:=∀W':World,(∀k,ok k->k<W.heap.size->W'.heap[k]? =W.heap[k]?)->P W'
theorem MJ{W W1:World}{k:Nat}(h:W1.heap[k]? =W.heap[k]?)(hlt:k<W.heap.size):k<W1.heap.size:=by
 rw[Array.getElem?_eq_getElem hlt]at h;exact(Array.getElem?_eq_some_iff.1 h).1
namespace mg
variable {P Q:World->Prop} {W W1:World} {ok ok':Nat->Prop}
theorem now(h:mg P W ok):P W:=h W (λ _ _ _=>rfl)
theorem mono(h:mg P W ok)(hok:∀k,ok k->ok' k):mg P W ok':=λ W' hW=>h W' (λ k hk hlt=>hW k (hok k hk) hlt)
theorem bound(h:mg P W ok):mg P W (λ k=>ok k∧k<W.heap.size):=λ W' hW=>h W' (λ k hk hlt=>hW k ⟨hk,hlt⟩ hlt)
theorem step(h:mg P W ok)(hm:∀k,ok k->k<W.heap.size->W1.heap[k]? =W.heap[k]?):mg P W1 ok:=λ W' hW=>h W' (λ k hk hlt=>(hW k hk (MJ (hm k hk hlt) hlt)).trans (hm k hk hlt))
theorem imp(h:mg P W ok)(hi:∀W',P W'->Q W'):mg Q W ok:=λ W' hW=>hi W' (h W' hW)
theorem old(h:mg P W ok)(hb:Below W.heap.size W W1):mg P W1 (λ k=>ok k∧k<W.heap.size):=(h.bound).step (λ k _ hlt=>hb.block k hlt)
end mg
namespace Kd
def F{α:Type}(d:Kd α)(W:World)(ok:Nat->Prop)(A:Option Addr)(n:Nat)(xs:List α):Prop:=mg (λ W=>d.C W A n xs) W ok
def FK{α:Type}(d:Kd α)(W:World)(ok:Nat->Prop)(x:α)(c:List Value):Prop:=mg (λ W=>d.K W x c) W ok
section
variable {α β:Type} {d:Kd α} {e base n n' cc g N:Nat} {ok ok' kZ S:Nat->Prop} {w w0 w1 W W1:World} {A A':Option Addr} {u v v1:Value} {xs:List α} {xs':List β} {d':Kd β} {x:α} {c:List Value}
theorem TH(h:F d W ok A n xs):d.C W A n xs:=mg.now h
theorem Gj(h:F d W ok A n xs)(hok:∀k,ok k->ok' k):F d W ok' A n xs:=mg.mono h hok
theorem He(h:F d W ok A n xs):F d W (λ k=>ok k∧k<W.heap.size) A n xs:=mg.bound h
theorem Gl(h:F d W ok A n xs)(hm:∀k,ok k->k<W.heap.size->W1.heap[k]? =W.heap[k]?):F d W1 ok A n xs:=mg.step h hm
theorem TV(h:F d W ok A n xs)(hi:∀W',d.C W' A n xs->d'.C W' A' n' xs'):F d' W ok A' n' xs':=mg.imp h hi
theorem wG(h:F d W ok A n xs)(hb:Below W.heap.size W W1):F d W1 ok A n xs:=Gl h (λ k _ hlt=>hb.block k hlt)
theorem Vb(h:F d W ok A n xs)(o:Obj):F d (W.alloc o) ok A n xs:=wG h (fA (Below.refl _ _) o)
theorem XH(h:F d W ok A n xs):F d W.drew ok A n xs:=wG h (AO (Below.refl _ _))
theorem Vd(h:F d W ok A n xs)(m:Nat):F d (W.drewN m) ok A n xs:=wG h (lK (Below.refl _ _) m)
theorem Ve(h:F d W ok A n xs){row:Option Nat}(hg:W.grownBy W1 row)(hok:∀k,ok k->some k≠row):F d W1 ok A n xs:=Gl h (λ k hk hlt=>hg.block k hlt (hok k hk))
theorem YF(h:F d W ok A n xs){p:Addr}(hok:∀k,ok k->k≠p.block)(u:Value):F d (W.setCell p u) ok A n xs:=Gl h (λ k hk _=>Below.heap_setCell W p u k (hok k hk))
theorem YE(d:Kd α)(W:World)(ok:Nat->Prop):F d W ok none ([]:List α).length []:=λ W' _=>YG d W'
theorem Tc(h:F d W ok A n xs)(hbase:∀k,v.ownBlock=some k->W.heap.size≤k)(hb:Below W.heap.size W W1):F d W1 (λ k=>ok k∧some k≠v.ownBlock) A n xs:=
 Gj (mg.old h hb) (λ k hk=>⟨hk.1,λ he=>by have:=hbase k he.symm;have:=hk.2;omega⟩)
theorem Td(h:F d W ok A n xs)(a:Nat)(ha:W.heap.size≤a):F d W (λ k=>ok k∧k≠a) A n xs:=Gj (He h) (λ k hk=>⟨hk.1,by have:=hk.2;omega⟩)
theorem Vg(h:F d W (λ k=>ok k∧some k≠v.ownBlock) A n xs)(hg:W.grownBy W1 v.ownBlock)(hat:v1.ownBlock=v.ownBlock∨∃b,v1.ownBlock=some b∧W.heap.size≤b):F d W1 (λ k=>ok k∧some k≠v1.ownBlock) A n xs:=by
 refine Gj (mg.step (He h) (λ k hk hlt=>hg.block k hlt hk.1.2)) (λ k hk=>⟨hk.1.1,?_⟩);rcases hat with hat|⟨b,hb,hle⟩
 .rw[hat];exact hk.1.2
 .rw[hb]
  intro he;injection he with he;have:=hk.2;omega
theorem YN(hd:Heap d)(h:d.C w A n xs):F d w (λ k=>k<w.heap.size) A n xs:=λ _ hW=>hd.C (λ k hlt=>hW k hlt hlt) h
theorem R_F(h:d.R e W base ok (.slice A n cc) xs):F d W ok A n xs:=λ W' hW=>by
 have h2:=d9 (K9 h hW);rw[h2.1];exact h2.2.2
theorem Vh(h:d.M W base ok x c):FK d W ok x c:=λ _ hW=>d.jU (Q6 h hW)
end
end Kd
end Go.Proofs.aA.ak
end
section
namespace Go.Proofs.aA.ak
open Go.RowKit
namespace Kd
def chunks(sz:Nat)(n:Nat)(inner:List Value):List (List Value):=(List.range n).map λ j=>(inner.drop (j*sz)).take sz
theorem oD(sz n:Nat)(inner:List Value):(chunks sz n inner).length=n:=by simp[chunks]
theorem Q5{sz n:Nat}{inner:List Value}{j:Nat}(hj:j<n):(chunks sz n inner)[j]? =some ((inner.drop (j*sz)).take sz):=by simp[chunks,hj]
theorem Gm{sz n:Nat}{inner:List Value}{j:Nat}{c:List Value}(h:(chunks sz n inner)[j]? =some c):c=(inner.drop (j*sz)).take sz:=by
 have hj:j<n:=by have:=(List.getElem?_eq_some_iff.1 h).1;rwa[oD]at this
 rw[Q5 hj]at h;injection h with h;exact h.symm
theorem Tf{α:Type}{Rr:α->List Value->Prop}{sz:Nat}{xs:List α}{inner:List Value}(h:dY Rr sz xs inner)(hR:∀x c,Rr x c->c.length=sz∧∀u∈c,u.oneCell'=true):dY (λ x cs=>cs=x∧cs.length=sz∧∀u∈cs,u.oneCell'=true) sz (chunks sz xs.length inner) inner:=by
 refine⟨by rw[oD];exact h.1,λ j p hj=>?_⟩;have hjl:j<xs.length:=by have:=(List.getElem?_eq_some_iff.1 hj).1;rwa[oD]at this
 have hp:=Gm hj;exact⟨hp.symm,hR _ _ (h.2 j _ (List.getElem?_eq_getElem hjl))⟩
section
variable {α:Type} {d:Kd α} {e base n cc g:Nat} {ok ok' kZ S:Nat->Prop} {w w1 W W1:World} {A:Option Addr} {u v v1:Value} {xs:List α} {x:α} {c:List Value}
def N{α:Type}(d:Kd α)(e:Nat)(w:World)(base:Nat)(ok:Nat->Prop)(v:Value)(xs:List α):Prop:=
 (∀k,v.ownBlock=some k->ok k)∧∃rows:List (List Value),rows.length=xs.length∧(raw d.sz).R e w base (λ k=>some k=v.ownBlock) v rows∧∀(j:Nat)(x:α)(c:List Value),xs[j]? =some x->rows[j]? =some c->FK d w (λ k=>ok k∧some k≠v.ownBlock) x c
theorem R_N(h:d.R e w base ok v xs):N d e w base ok v xs:=by
 obtain⟨h0,inner,ho,hr⟩:=h;refine⟨h0,chunks d.sz xs.length inner,oD _ _ _,⟨λ k hk=>hk.symm,inner,by rw[oD];exact ho,Tf hr (λ x c hp=>⟨d.ql (d.jU hp),d.qm (d.jU hp)⟩)⟩,λ j x c hx hc=>?_⟩;rw[Gm hc];exact Vh (hr.2 j x hx)
theorem F3(d:Kd α)(e:Nat)(w:World)(base:Nat)(ok:Nat->Prop):N d e w base ok (.slice none 0 0) []:=R_N (mZ _ _ _ _ _)
end
end Kd
end Go.Proofs.aA.ak
end
section
namespace Go.Proofs.aA.ak
open Go.RowKit
section
variable {w w' u:World} {m B g:Nat} {o:Obj} {row:Option Nat} {S:Nat->Prop} {a:Addr} {v:Value}
theorem um(hq:w.drewN m=w')(h:Below B u w):Below B u w':=by subst hq;exact lK h m
end
namespace Kd
section
variable {α:Type} {d:Kd α} {e base n m:Nat} {ok:Nat->Prop} {w w':World} {v:Value} {A:Option Addr} {xs:List α}
theorem G5(hq:w.drewN m=w')(h:d.R e w base ok v xs):d.R e w' base ok v xs:=by subst hq;exact mo h m
end
end Kd
end Go.Proofs.aA.ak
end
section
namespace Go.Proofs.aA.aG
open Go.RowKit Go.Proofs.aA.ak
theorem aW(k k':IntKind)(x y:Int):Builtin.max2 (.int k x) (.int k' y)=pure (.int k (if x<y then y else x)):=by simp only[Builtin.max2,gt_iff_lt]
theorem aX(k k':IntKind)(x y:Int):Builtin.min2 (.int k x) (.int k' y)=pure (.int k (if y<x then y else x)):=by simp only[Builtin.min2]
theorem bA(ats:Array TypeId)(ty:TypeId)(a b:Value):Builtin.max_ ats ty #[a,b]=(Builtin.max2 a b>>=λ s=>pure s):=by simp only[Builtin.max_,List.foldlM_cons,List.foldlM_nil]
theorem bB(ats:Array TypeId)(ty:TypeId)(a b:Value):Builtin.min_ ats ty #[a,b]=(Builtin.min2 a b>>=λ s=>pure s):=by simp only[Builtin.min_,List.foldlM_cons,List.foldlM_nil]
end Go.Proofs.aA.aG
namespace Go.Proofs.aA.ak
open Go.RowKit
section
variable {P:Program} {ops:Array Oper} {rest:List Oper} {o:Oper} {a:Act} {Q:Exit->Act->World->Prop} {W:World}
theorem eX{b:Builtin}{xs:Array Operand}{ts:Array TypeId}(PL:o.op= .call {callee:= .builtin b,args:=xs,argTypes:=ts})(h:wpList P ops Q (o::rest) a W):wpList P ops Q (o::rest) a W:=h
end
def mx(a b:Int):Int:=if a<b then b else a
def mn(a b:Int):Int:=if b<a then b else a
theorem qj(w:World)(n:Nat):w.drewN n=w.drewN n:=rfl
end Go.Proofs.aA.ak
namespace Go.Proofs.aA.ak
open Go.RowKit
namespace Kd
def V{α:Type}(d:Kd α)(_e:Nat)(W:World)(_base:Nat)(ok:Nat->Prop)(v:Value)(xs:List α):Prop:=∃A c,v= .slice A xs.length c∧xs.length≤c∧F d W ok A xs.length xs
section
variable {α β:Type} {d:Kd α} {e base base' n m c g N' lo hi:Nat} {ok ok' S:Nat->Prop} {w W w1:World} {A:Option Addr} {ad:Addr} {u v v1:Value} {xs:List α}
theorem qU(h:V d e W base ok v xs)(hF:∀A,F d W ok A xs.length xs->F d w1 ok' A xs.length xs):V d e w1 base' ok' v xs:=by
 obtain⟨A,c,hv,hl,hf⟩:=h;exact⟨A,c,hv,hl,hF A hf⟩
theorem BS(hl:xs.length≤c)(hf:F d W ok A xs.length xs):V d e W base ok (.slice A xs.length c) xs:=⟨A,c,rfl,hl,hf⟩
theorem aY(h:V d e W base ok v xs):∃A c,v= .slice A xs.length c:=by
 obtain⟨A,c,hv,_⟩:=h;exact⟨A,c,hv⟩
theorem Aq(h:V d e W base ok (.slice A n c) xs):n=xs.length∧n≤c∧F d W ok A xs.length xs:=by
 obtain⟨A',c',hv,hl,hf⟩:=h;injection hv with ha hn hc;subst ha;subst hc;exact⟨hn,by rw[hn];exact hl,hf⟩
theorem aH(h:V d e W base ok (.slice A n c) xs):n=xs.length∧n≤c∧d.C W A xs.length xs:=⟨(Aq h).1,(Aq h).2.1,TH (Aq h).2.2⟩
theorem lu(d:Kd α)(e:Nat)(W:World)(base:Nat)(ok:Nat->Prop):V d e W base ok (.slice none 0 0) []:=⟨none,0,rfl,Nat.le_refl _,YE d W ok⟩
theorem kC(h:d.R e W base ok v xs):V d e W base' ok v xs:=by
 obtain⟨A,c,rfl⟩:=dR h;exact⟨A,c,rfl,(d9 h).2.1,R_F h⟩
theorem bU(h:V d e W base ok v xs)(hok:∀k,ok k->ok' k):V d e W base ok' v xs:=qU h (λ _ hf=>Gj hf hok)
theorem zG(h:V d e W base ok v xs):V d e W base (λ k=>ok k∧k<W.heap.size) v xs:=qU h (λ _ hf=>He hf)
theorem lM(h:V d e W base ok v xs)(_:base'≤base):V d e W base' ok v xs:=h
theorem BR(h:V d e W base ok v xs)(hm:∀k,ok k->k<W.heap.size->w1.heap[k]? =W.heap[k]?):V d e w1 base ok v xs:=qU h (λ _ hf=>Gl hf hm)
theorem iA(h:V d e W base ok v xs)(hb:Below W.heap.size W w1):V d e w1 base ok v xs:=qU h (λ _ hf=>wG hf hb)
theorem jL(h:V d e W base ok v xs)(o:Obj):V d e (W.alloc o) base ok v xs:=qU h (λ _ hf=>Vb hf o)
theorem d_(h:V d e W base ok v xs):V d e W.drew base ok v xs:=qU h (λ _ hf=>XH hf)
theorem jM(h:V d e W base ok v xs)(m:Nat):V d e (W.drewN m) base ok v xs:=qU h (λ _ hf=>Vd hf m)
theorem MK(h:V d e W base ok v xs){row:Option Nat}(hg:W.grownBy w1 row)(hok:∀k,ok k->some k≠row):V d e w1 base ok v xs:=qU h (λ _ hf=>Ve hf hg hok)
theorem oU(h:V d e W base ok v xs){p:Addr}(hok:∀k,ok k->k≠p.block)(u:Value):V d e (W.setCell p u) base ok v xs:=qU h (λ _ hf=>YF hf hok u)
theorem Vf(h:V d e W base (λ k=>ok k∧some k≠u.ownBlock) v xs)(hg:W.grownBy w1 u.ownBlock)(hat:v1.ownBlock=u.ownBlock∨∃b,v1.ownBlock=some b∧W.heap.size≤b):V d e w1 base (λ k=>ok k∧some k≠v1.ownBlock) v xs:=qU h (λ _ hf=>Vg hf hg hat)
theorem pR(h:V d e W base (λ k=>ok k∧some k≠v.ownBlock) u xs)(hg:W.grownBy w1 v.ownBlock)(hat:v1.ownBlock=v.ownBlock∨∃b,v1.ownBlock=some b∧W.heap.size≤b):V d e w1 base (λ k=>ok k∧some k≠v1.ownBlock) u xs:=Vf h hg hat
theorem RJ(h:V d e W base ok v xs)(hbase:∀k,u.ownBlock=some k->W.heap.size≤k)(hb:Below W.heap.size W w1):V d e w1 base (λ k=>ok k∧some k≠u.ownBlock) v xs:=qU h (λ _ hf=>Tc hf hbase hb)
theorem RH(h:V d e W base ok v xs)(a:Nat)(ha:W.heap.size≤a):V d e W base (λ k=>ok k∧k≠a) v xs:=qU h (λ _ hf=>Td hf a ha)
theorem Fj(h:F d W ok A xs.length xs)(hm:m≤xs.length):F d W ok A (xs.take m).length (xs.take m):=TV h (λ _ hC=>XI hC hm)
theorem TI(h:F d W ok A xs.length xs)(hm:m≤xs.length)(hc:xs.length≤c):F d W ok (if c=m then A else A.map (·.add (m*d.sz))) (xs.drop m).length (xs.drop m):=TV h (λ _ hC=>XJ hC hm hc)
theorem BN{M:Nat->Prop}(h:d.R e w1 W.heap.size ok v xs)(hle:w.heap.size≤W.heap.size)(hM:∀k,w.heap.size≤k->M k):d.R e w1 W.heap.size (λ k=>M k∧ok k) v xs:=gY (jV h) (λ k hk=>⟨hM k (Nat.le_trans hle hk.2.1),hk.1⟩)
end
end Kd
end Go.Proofs.aA.ak
end
namespace Go.Proofs.Ct.Q
open Go.RowKit Go.Proofs.aA.ak Go.Proofs.aA.aC Go.Proofs.aA.aG
attribute [local go_sem] aW aX bA bB
def Xn:Option Int->Value
 |none=> .nilIface
 |some c=> .iface 0 (.int .i64 c)
theorem eP:Xn none= .nilIface:=rfl
theorem eT(c:Int):Xn (some c)= .iface 0 (.int .i64 c):=rfl
theorem info3:(Tryz.prog.info? 3).map (λ i=>(i.zero,i.size,i.bytes))=some (some (.int .i64 0),1,8):=by kernel_rfl
theorem info5:(Tryz.prog.info? 5).map (λ i=>(i.zero,i.size,i.bytes))=some (some (.int .u8 0),1,1):=by kernel_rfl
theorem TQ:(Tryz.prog.info? 9).map (λ i=>(i.zero,i.size,i.bytes))=some (some (.string ⟨#[]⟩),1,16):=by kernel_rfl
theorem iR:(Tryz.prog.info? 328).map (λ i=>(i.zero,i.size,i.bytes))=some (some (.int .u32 0),1,4):=by kernel_rfl
structure iY where
 f0:Int
 f1:Int
 f2:ByteArray
 f3:ByteArray
def z28:iY:=⟨(0:Int),(0:Int),(⟨#[]⟩:ByteArray),(⟨#[]⟩:ByteArray)⟩
def k28:Kd iY:=Kd.QC (Kd.pair (Kd.int .i64) (Kd.pair (Kd.int .i64) (Kd.pair Kd.string Kd.string))) (λ x:iY=>(x.f0,x.f1,x.f2,x.f3))
theorem SG{w:World}{x:iY}{cs:List Value}(h:k28.K w x cs):cs=[.int .i64 x.f0,.int .i64 x.f1,.string x.f2,.string x.f3]:=by
 obtain⟨_,_,rfl,rfl,⟨_,_,rfl,rfl,⟨_,_,rfl,rfl,rfl⟩⟩⟩:=h;exact rfl
theorem Wv(w:World)(x:iY):k28.K w x [.int .i64 x.f0,.int .i64 x.f1,.string x.f2,.string x.f3]:=⟨[.int .i64 x.f0],[.int .i64 x.f1,.string x.f2,.string x.f3],rfl,rfl,⟨[.int .i64 x.f1],[.string x.f2,.string x.f3],rfl,rfl,⟨[.string x.f2],[.string x.f3],rfl,rfl,rfl⟩⟩⟩
def lZ(xs:List iY)(i:Int):iY:=xs.getD i.toNat z28
theorem KC{w:World}{A:Option Addr}{n:Nat}{xs:List iY}(h:Kd.C k28 w A n xs)(i:Int)(h0:0≤i)(h1:i<n):∃ad,A=some ad∧w.cell? (ad.add (i.toNat*4))=some (.int .i64 (lZ xs i).f0)∧w.cell? ⟨(ad.add (i.toNat*4)).block,(ad.add (i.toNat*4)).off+1,none⟩=some (.int .i64 (lZ xs i).f1)∧w.cell? ⟨(ad.add (i.toNat*4)).block,(ad.add (i.toNat*4)).off+2,none⟩=some (.string (lZ xs i).f2)∧w.cell? ⟨(ad.add (i.toNat*4)).block,(ad.add (i.toNat*4)).off+3,none⟩=some (.string (lZ xs i).f3):=by
 obtain⟨ad,c,e,_,hK,hc0⟩:=Kd.Ju h z28 i h0 h1;have hc:∀j u,c[j]? =some u->w.cell? (ad.add (i.toNat*4+j))=some u:=hc0;obtain rfl:=SG hK;exact⟨ad,e,hc 0 _ rfl,by rw[<-mQ _ _ 1 (by omega)];exact hc 1 _ rfl,by rw[<-mQ _ _ 2 (by omega)];exact hc 2 _ rfl,by rw[<-mQ _ _ 3 (by omega)];exact hc 3 _ rfl⟩
structure zI where
 f0:ByteArray
 f1:Int
 f2:Bool
def z25:zI:=⟨(⟨#[]⟩:ByteArray),(0:Int),false⟩
def k25:Kd zI:=Kd.QC (Kd.pair Kd.string (Kd.pair (Kd.int .i64) Kd.bool)) (λ x:zI=>(x.f0,x.f1,x.f2))
theorem SH{w:World}{x:zI}{cs:List Value}(h:k25.K w x cs):cs=[.string x.f0,.int .i64 x.f1,.bool x.f2]:=by
 obtain⟨_,_,rfl,rfl,⟨_,_,rfl,rfl,rfl⟩⟩:=h;exact rfl
theorem Xo(w:World)(x:zI):k25.K w x [.string x.f0,.int .i64 x.f1,.bool x.f2]:=⟨[.string x.f0],[.int .i64 x.f1,.bool x.f2],rfl,rfl,⟨[.int .i64 x.f1],[.bool x.f2],rfl,rfl,rfl⟩⟩
structure f_ where
 f0:zI
 f1:ByteArray
def z56:f_:=⟨z25,(⟨#[]⟩:ByteArray)⟩
def nG:Kd f_:=Kd.QC (Kd.pair k25 Kd.string) (λ x:f_=>(x.f0,x.f1))
theorem SI{w:World}{x:f_}{cs:List Value}(h:nG.K w x cs):cs=[.string x.f0.f0,.int .i64 x.f0.f1,.bool x.f0.f2,.string x.f1]:=by
 obtain⟨_,_,rfl,s0,rfl⟩:=h;obtain rfl:=SH s0;exact rfl
theorem Ws(w:World)(x:f_):nG.K w x [.string x.f0.f0,.int .i64 x.f0.f1,.bool x.f0.f2,.string x.f1]:=⟨[.string x.f0.f0,.int .i64 x.f0.f1,.bool x.f0.f2],[.string x.f1],rfl,(Xo w x.f0),rfl⟩
def bQ(xs:List f_)(i:Int):f_:=xs.getD i.toNat z56
theorem xA{w:World}{A:Option Addr}{n:Nat}{xs:List f_}(h:Kd.C nG w A n xs)(i:Int)(h0:0≤i)(h1:i<n):∃ad,A=some ad∧w.cell? (ad.add (i.toNat*4))=some (.string (bQ xs i).f0.f0)∧w.cell? ⟨(ad.add (i.toNat*4)).block,(ad.add (i.toNat*4)).off+1,none⟩=some (.int .i64 (bQ xs i).f0.f1)∧w.cell? ⟨(ad.add (i.toNat*4)).block,(ad.add (i.toNat*4)).off+2,none⟩=some (.bool (bQ xs i).f0.f2)∧w.cell? ⟨(ad.add (i.toNat*4)).block,(ad.add (i.toNat*4)).off+3,none⟩=some (.string (bQ xs i).f1):=by
 obtain⟨ad,c,e,_,hK,hc0⟩:=Kd.Ju h z56 i h0 h1;have hc:∀j u,c[j]? =some u->w.cell? (ad.add (i.toNat*4+j))=some u:=hc0;obtain rfl:=SI hK;exact⟨ad,e,hc 0 _ rfl,by rw[<-mQ _ _ 1 (by omega)];exact hc 1 _ rfl,by rw[<-mQ _ _ 2 (by omega)];exact hc 2 _ rfl,by rw[<-mQ _ _ 3 (by omega)];exact hc 3 _ rfl⟩
structure Kw where
 f0:ByteArray
 f1:Bool
 f2:(List f_)
def z31:Kw:=⟨(⟨#[]⟩:ByteArray),false,([]:List f_)⟩
def Ba:Kd Kw:=Kd.QC (Kd.pair Kd.string (Kd.pair Kd.bool (Kd.slice 56 nG))) (λ x:Kw=>(x.f0,x.f1,x.f2))
theorem SK{w:World}{x:Kw}{cs:List Value}(h:Ba.K w x cs):∃A2 c2,cs=[.string x.f0,.bool x.f1,.slice A2 x.f2.length c2]∧x.f2.length≤c2∧nG.C w A2 x.f2.length x.f2:=by
 obtain⟨_,_,rfl,rfl,⟨_,_,rfl,rfl,⟨A2,c2,rfl,l2,g2⟩⟩⟩:=h;exact⟨A2,c2,rfl,l2,g2⟩
theorem Xp(w:World)(x:Kw){A2:Option Addr}{c2:Nat}(l2:x.f2.length≤c2)(g2:nG.C w A2 x.f2.length x.f2):Ba.K w x [.string x.f0,.bool x.f1,.slice A2 x.f2.length c2]:=⟨[.string x.f0],[.bool x.f1,.slice A2 x.f2.length c2],rfl,rfl,⟨[.bool x.f1],[.slice A2 x.f2.length c2],rfl,rfl,⟨A2,c2,rfl,l2,g2⟩⟩⟩
structure nP where
 f0:Int
 f1:Kw
def z33:nP:=⟨(0:Int),z31⟩
def sU:Kd nP:=Kd.QC (Kd.pair (Kd.int .i64) Ba) (λ x:nP=>(x.f0,x.f1))
theorem SL{w:World}{x:nP}{cs:List Value}(h:sU.K w x cs):∃A3 c3,cs=[.int .i64 x.f0,.string x.f1.f0,.bool x.f1.f1,.slice A3 x.f1.f2.length c3]∧x.f1.f2.length≤c3∧nG.C w A3 x.f1.f2.length x.f1.f2:=by
 obtain⟨_,_,rfl,rfl,s1⟩:=h;obtain⟨A3,c3,rfl,l3,g3⟩:=SK s1;exact⟨A3,c3,rfl,l3,g3⟩
theorem Wu(w:World)(x:nP){A3:Option Addr}{c3:Nat}(l3:x.f1.f2.length≤c3)(g3:nG.C w A3 x.f1.f2.length x.f1.f2):sU.K w x [.int .i64 x.f0,.string x.f1.f0,.bool x.f1.f1,.slice A3 x.f1.f2.length c3]:=⟨[.int .i64 x.f0],[.string x.f1.f0,.bool x.f1.f1,.slice A3 x.f1.f2.length c3],rfl,rfl,(Xp w x.f1 l3 g3)⟩
def nE(xs:List nP)(i:Int):nP:=xs.getD i.toNat z33
theorem Fv{w:World}{A:Option Addr}{n:Nat}{xs:List nP}(h:Kd.C sU w A n xs)(i:Int)(h0:0≤i)(h1:i<n):∃ad A3 c3,A=some ad∧w.cell? (ad.add (i.toNat*4))=some (.int .i64 (nE xs i).f0)∧w.cell? ⟨(ad.add (i.toNat*4)).block,(ad.add (i.toNat*4)).off+1,none⟩=some (.string (nE xs i).f1.f0)∧w.cell? ⟨(ad.add (i.toNat*4)).block,(ad.add (i.toNat*4)).off+2,none⟩=some (.bool (nE xs i).f1.f1)∧w.cell? ⟨(ad.add (i.toNat*4)).block,(ad.add (i.toNat*4)).off+3,none⟩=some (.slice A3 (nE xs i).f1.f2.length c3)∧(nE xs i).f1.f2.length≤c3∧nG.C w A3 (nE xs i).f1.f2.length (nE xs i).f1.f2:=by
 obtain⟨ad,c,e,_,hK,hc0⟩:=Kd.Ju h z33 i h0 h1;have hc:∀j u,c[j]? =some u->w.cell? (ad.add (i.toNat*4+j))=some u:=hc0;obtain⟨A3,c3,rfl,l3,g3⟩:=SL hK;exact⟨ad,A3,c3,e,hc 0 _ rfl,by rw[<-mQ _ _ 1 (by omega)];exact hc 1 _ rfl,by rw[<-mQ _ _ 2 (by omega)];exact hc 2 _ rfl,by rw[<-mQ _ _ 3 (by omega)];exact hc 3 _ rfl,l3,g3⟩
end Go.Proofs.Ct.Q
section
namespace Go.Proofs.Ct.Q
open Go.Proofs.g_ Go.RowKit Go.Proofs.aA.ak Go.Proofs.aA.aC Go.Proofs.aA.aG
section
variable {P:Program} {ops:Array Oper} {F:Nat->Value->World->Prop} {a0 a:Act} {i:Nat} {o:Oper} {w:World}
theorem gq(hr:Reads ops F a0 i o a w)(d:Tmp)(j:Nat){oj:Oper}(hl:(looks ops o).contains d=true:=by kernel_rfl)(hj:ops[j]? =some oj:=by rfl)(hd:oj.dst=some d:=by rfl)(hji:j<i:=by decide):F j (a.eval (.tmp d)) w:=hr.got d j hl hj hd hji
theorem gw(hr:Reads ops F a0 i o a w){d:Tmp}{v:Value}(ha:a0.eval (.tmp d)=v)(hl:(looks ops o).contains d=true:=by kernel_rfl)(hn:Ka ops i d=true:=by kernel_rfl):a.eval (.tmp d)=v:=(hr.was d hl hn).trans ha
theorem dN{v:Value}(hF:F i v w:=by rfl)(hrun:(execOp a.eval o).run P w= .ok (.value v) w:=by simp only[execOp,bT, *,cond_true,cond_false,Bool.not_true,Bool.not_false,Bool.and_true,Bool.and_false,Bool.true_and,Bool.false_and,Bool.or_true,Bool.or_false,Bool.true_or,Bool.false_or];go_simp)(hw:Region.wanted o (yielded ops a.tmps)=true:=by exact dL rfl):
 if Region.wanted o (yielded ops a.tmps)=true then o.wp P a w (λ a' w'=>∃v,a'=a.put o.dst v∧F i v w'∧Below w.heap.size w w') (λ _ _ _=>False)else F i undef w:=gu hw hF hrun
theorem nO{g:Nat}{b t:Bool}{d:Tmp}{s:Oper}{v:Value}(ht:a.eval (.tmp d)= .bool t)(hg:o.guard=some (g,b):=by rfl)(ho:ops[g]? =some s:=by rfl)(hd:s.dst=some d:=by rfl)(hn:(t==b)=true:=by rfl)(hF:F i v w:=by rfl)(hrun:(execOp a.eval o).run P w= .ok (.value v) w:=by simp only[execOp,bT, *,cond_true,cond_false,Bool.not_true,Bool.not_false,Bool.and_true,Bool.and_false,Bool.true_and,Bool.false_and,Bool.or_true,Bool.or_false,Bool.true_or,Bool.false_or];go_simp):
 if Region.wanted o (yielded ops a.tmps)=true then o.wp P a w (λ a' w'=>∃v,a'=a.put o.dst v∧F i v w'∧Below w.heap.size w w') (λ _ _ _=>False)else F i undef w:=gu ((eO hg ho hd ht).trans hn) hF hrun
theorem jD{g:Nat}{b t:Bool}{d:Tmp}{s:Oper}(ht:a.eval (.tmp d)= .bool t)(hg:o.guard=some (g,b):=by rfl)(ho:ops[g]? =some s:=by rfl)(hd:s.dst=some d:=by rfl)(hn:(t==b)=false:=by rfl)(hF:F i undef w:=by first|rfl|nofun):
 if Region.wanted o (yielded ops a.tmps)=true then o.wp P a w (λ a' w'=>∃v,a'=a.put o.dst v∧F i v w'∧Below w.heap.size w w') (λ _ _ _=>False)else F i undef w:=qF ((eO hg ho hd ht).trans hn) hF
theorem jE{g:Nat}{b:Bool}{d:Tmp}{s:Oper}(ht:a.eval (.tmp d)=undef)(hg:o.guard=some (g,b):=by rfl)(ho:ops[g]? =some s:=by rfl)(hd:s.dst=some d:=by rfl)(hF:F i undef w:=by first|rfl|nofun):
 if Region.wanted o (yielded ops a.tmps)=true then o.wp P a w (λ a' w'=>∃v,a'=a.put o.dst v∧F i v w'∧Below w.heap.size w w') (λ _ _ _=>False)else F i undef w:=qF (pF hg ho hd ht) hF
theorem gQ{v:Value}(hr:Reads ops F a0 i o a w)(d:Tmp)(j:Nat){oj:Oper}(hl:(looks ops o).contains d=true:=by kernel_rfl)(hj:ops[j]? =some oj:=by rfl)(hd:oj.dst=some d:=by rfl)(hji:j<i:=by decide)(e:F j (a.eval (.tmp d)) w=(a.eval (.tmp d)=v):=by rfl):a.eval (.tmp d)=v:=e.mp (hr.got d j hl hj hd hji)
theorem sx{p q:Prop}(h:q)(t:q->p:=by intro h;first|exact jD h|exact jE h|exact nO h):p:=t h
end
end Go.Proofs.Ct.Q
end
namespace Go.Proofs.Ct.Q
open Go.RowKit Go.Proofs.aA.ak Go.Proofs.aA.aC Go.Proofs.aA.aG
theorem au{w W:World}{p:Addr}{v:Value}(hb:Below w.heap.size w W)(h:w.cell? p=some v):W.cell? p=some v:=(hb.cell (World.block_lt_of_cell? w _ h)).trans h
end Go.Proofs.Ct.Q
