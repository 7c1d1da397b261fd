/- Part of the proof of CheckTexts (see the last text). -/
import Derived.LaidEqlPtr
import Derived.Laws.BytesString
import Derived.Laws.Concat
import Derived.Laws.StructEq
import Derived.Test.YtcclielbggpoaaaGreatDoorA21
set_option linter.all false
section
namespace Go.cK
theorem toNat_inj{a b:List UInt8}(h:a.map UInt8.toNat=b.map UInt8.toNat):a=b:=by
 induction a generalizing b with
 |nil=>cases b<;>simp_all
 |cons x a ih=>
  cases b with
  |nil=>simp at h
  |cons y b=>
   simp at h;rw[UInt8.toNat_inj.1 h.1,ih h.2]
theorem Gr{a b:Nat}(h:a≠b):Nat.beq a b=false:=by
 cases hb:Nat.beq a b with
 |false=>rfl
 |true=>exact absurd (Nat.eq_of_beq_eq_true hb) h
theorem Cw:∀(a b:List Nat),seqB a b=decide (a=b)
 |[],[]=>rfl
 |[],_::_=>rfl
 |_::_,[]=>rfl
 |x::a,y::b=>by
  show cond (Nat.beq x y) (seqB a b) false=_;rw[Cw a b];by_cases h:x=y
  .subst h;rw[show Nat.beq x x=true from Nat.beq_refl x];simp
  .rw[Gr h];simp[h]
theorem rH(s:ByteArray):s.toList=s.data.toList:=ByteArray.toList_eq s
theorem Cx(a b:ByteArray):(a.toList==b.toList)=seqB (a.data.toList.map UInt8.toNat) (b.data.toList.map UInt8.toNat):=by
 rw[Cw,rH,rH,Bool.eq_iff_iff];simp only[beq_iff_eq,decide_eq_true_eq];exact⟨λ h=>by rw[h],toNat_inj⟩
theorem Ox:∀(a b:List UInt8),Op.bytesLess a b=sW (a.map UInt8.toNat) (b.map UInt8.toNat)
 |[],[]=>rfl
 |[],_::_=>rfl
 |_::_,[]=>rfl
 |x::a,y::b=>by
  show(x<y||(x==y&&Op.bytesLess a b))=cond (Nat.blt x.toNat y.toNat) true (cond (Nat.beq x.toNat y.toNat) (sW (a.map UInt8.toNat) (b.map UInt8.toNat)) false);rw[Ox a b];by_cases h:x<y
  .have:Nat.blt x.toNat y.toNat=true:=by rw[Nat.blt_eq];exact UInt8.lt_iff_toNat_lt.1 h
   rw[this];simp[h]
  .have:Nat.blt x.toNat y.toNat=false:=by
    cases hb:Nat.blt x.toNat y.toNat with
    |false=>rfl
    |true=>rw[Nat.blt_eq]at hb;exact absurd (UInt8.lt_iff_toNat_lt.2 hb) h
   rw[this];by_cases he:x=y
   .subst he;rw[show Nat.beq x.toNat x.toNat=true from Nat.beq_refl _];simp
   .have:Nat.beq x.toNat y.toNat=false:=by
     cases hb:Nat.beq x.toNat y.toNat with
     |false=>rfl
     |true=>exact absurd (UInt8.toNat_inj.1 (Nat.eq_of_beq_eq_true hb)) he
    rw[this];simp[h,he]
theorem sZ(a b:Int):wK a b=(a==b):=by
 cases a<;>cases b<;>simp only[wK]
 .rename_i a b
  rw[Bool.eq_iff_iff,beq_iff_eq];exact⟨λ h=>by rw[Nat.eq_of_beq_eq_true h],λ h=>by cases h;exact Nat.beq_refl _⟩
 .rfl
 .rfl
 .rename_i a b
  rw[Bool.eq_iff_iff,beq_iff_eq];exact⟨λ h=>by rw[Nat.eq_of_beq_eq_true h],λ h=>by cases h;exact Nat.beq_refl _⟩
theorem wB(a b:Int):vB a b=decide (a<b):=by
 cases a<;>cases b<;>simp only[vB]
 .rename_i a b
  rw[Bool.eq_iff_iff,Nat.blt_eq,decide_eq_true_eq];simp
 .rename_i a b
  symm;rw[decide_eq_false_iff_not];simp only[Int.ofNat_eq_natCast,Int.negSucc_eq];omega
 .rename_i a b
  symm;rw[decide_eq_true_eq];simp only[Int.ofNat_eq_natCast,Int.negSucc_eq];omega
 .rename_i a b
  rw[Bool.eq_iff_iff,Nat.blt_eq,decide_eq_true_eq];simp only[Int.negSucc_eq];omega
theorem oW(k:IntKind)(n:Int):oQ k n=k.wrap n:=by
 have key:∀k:IntKind,jC k=(if k.signed then 2^(k.bits-1)else 2^k.bits):=by intro k;cases k<;>rfl
 cases n with
 |ofNat m=>
  simp only[oQ];cases h:Nat.blt m (jC k)with
  |false=>rfl
  |true=>
   simp only[cond_true];rw[Nat.blt_eq]at h;symm;have hb:(m:Int)<jC k:=by exact_mod_cast h
   cases k<;>simp only[jC]at hb
   .exact IntWalk.i8_in _ (by simp only[Int.ofNat_eq_natCast];omega)
   .exact IntWalk.i16_in _ (by simp only[Int.ofNat_eq_natCast];omega)
   .exact IntWalk.i32_in _ (by simp only[Int.ofNat_eq_natCast];omega)
   .exact IntWalk.i64_in _ (by simp only[Int.ofNat_eq_natCast];omega)
   .exact IntWalk.u8_in _ (by simp only[Int.ofNat_eq_natCast];omega)
   .exact IntWalk.u16_in _ (by simp only[Int.ofNat_eq_natCast];omega)
   .exact IntWalk.u32_in _ (by simp only[Int.ofNat_eq_natCast];omega)
   .exact IntWalk.u64_in _ (by simp only[Int.ofNat_eq_natCast];omega)
 |negSucc m=>
  simp only[oQ];cases h:(k.signed&&Nat.blt m (jC k))with
  |false=>rfl
  |true=>
   simp only[cond_true];rw[Bool.and_eq_true,Nat.blt_eq]at h;obtain⟨hs,h⟩:=h;symm;have hb:(m:Int)<jC k:=by exact_mod_cast h
   cases k<;>simp only[IntKind.signed]at hs<;>simp only[jC]at hb
   .exact IntWalk.i8_in _ (by simp only[Int.negSucc_eq];omega)
   .exact IntWalk.i16_in _ (by simp only[Int.negSucc_eq];omega)
   .exact IntWalk.i32_in _ (by simp only[Int.negSucc_eq];omega)
   .exact IntWalk.i64_in _ (by simp only[Int.negSucc_eq];omega)
   all_goals cases hs
section
variable {P:Program} {T:Te} {H:Hp} {id:Nat} {k:AV->Hp->Bool}
variable {dst:Option Tmp} {ty:TypeId} {pos:String} {after:Array Edge} {guard:Option (Nat×Bool)}
theorem Lg{t:TypeId}{x i:Operand}(h:cu P bn ⟨dst,.indexAddr t x i,ty,pos,after,guard⟩ T H id k=true):
  QS P ⟨dst,.indexAddr t x i,ty,pos,after,guard⟩ T H id k:=by
 simp only[cu]at h;obtain⟨xv,h1,e1,r1⟩:=bR h;obtain⟨iv,h2,e2,r2⟩:=bR h1;unfold uq at h2;split at h2
 .rename_i kd E
  split at h2
  .rename_i len elem b off hu
   split at h2
   .rename_i s hs
    cases hb:Nat.blt E len with
    |false=>rw[hb]at h2;exact Bool.noConfusion h2
    |true=>
     rw[hb]at h2;simp only[cond_true,dO]at h2;rw[Nat.blt_eq]at hb;refine gM h2 λ ι a w ht=>?_;have hr:=r1 ι a ht;have hi:=r2 ι a ht;generalize hx:a.eval x=z at hr;generalize hy:a.eval i=y at hi;cases hi;cases hr with
     |ptr off D=>
      rename_i κ δ C;refine⟨_,?_,.ptr _ D⟩;simp[Gives,execOp,Instr.indexAt,run_underlying hu,hx,hy,asIntOf,Instr.sureAddr,hb,jo hs,addr_add,Nat.add_assoc]
   .cases h2
  .rename_i elem b off len sz cap hu
   split at h2
   .rename_i s hs
    cases hb:(Nat.blt E len&&Nat.beq s sz)with
    |false=>rw[hb]at h2;exact Bool.noConfusion h2
    |true=>
     rw[hb]at h2;simp only[cond_true,dO]at h2;rw[Bool.and_eq_true,Nat.blt_eq]at hb;obtain⟨hb,hsz⟩:=hb;replace hsz:=Nat.eq_of_beq_eq_true hsz;subst hsz;refine gM h2 λ ι a w ht=>?_;have hr:=r1 ι a ht;have hi:=r2 ι a ht;generalize hx:a.eval x=z at hr;generalize hy:a.eval i=y at hi;cases hi;cases hr with
     |full D hl hcc ha=>
      rename_i κ δ C c ad
      have had:ad=⟨κ,δ+off,none⟩:=by rcases ha with h0|h0;·omega
                                     .exact h0
      subst had;refine⟨_,?_,.ptr _ D⟩;simp[Gives,execOp,Instr.indexAt,run_underlying hu,hx,hy,asIntOf,hb,jo hs,addr_add,Nat.add_assoc]
     |exact D hl hcc ha=>
      rename_i κ δ C c ad
      have had:ad=⟨κ,δ+off,none⟩:=by rcases ha with h0|h0;·omega
                                     .exact h0
      subst had;refine⟨_,?_,.ptr _ D⟩;simp[Gives,execOp,Instr.indexAt,run_underlying hu,hx,hy,asIntOf,hb,jo hs,addr_add,Nat.add_assoc]
   .cases h2
  .cases h2
 .cases h2
theorem Ua{t:TypeId}{x i:Operand}(h:cu P bn ⟨dst,.index t x i,ty,pos,after,guard⟩ T H id k=true):
  QS P ⟨dst,.index t x i,ty,pos,after,guard⟩ T H id k:=by
 simp only[cu]at h;obtain⟨xv,h1,e1,r1⟩:=bR h;obtain⟨iv,h2,e2,r2⟩:=bR h1;unfold Cy at h2;split at h2
 .rename_i kd D
  split at h2
  .rename_i len elem cs hu
   have fin:∀v s,fD P elem=some s->D<len->k v H=true->((∃s',iE P elem=some true∧fD P elem=some s'∧v= .agg ((cs.drop (D*s)).take s')∧((cs.drop (D*s)).take s').length=s')∨(iE P elem=some false∧cs[D*s]? =some v))->
     QS P ⟨dst,.index t x i,ty,pos,after,guard⟩ T H id k:=λ v s hs hlt hk hv=>by
    refine gM hk λ ι a w ht=>?_;have hr:=r1 ι a ht;have hi:=r2 ι a ht;generalize hx:a.eval x=z at hr;generalize hy:a.eval i=y at hi;cases hi;cases hr with
    |agg hl ho=>
     obtain⟨y,hy',E⟩:=Bh (w:=w) hl ho hv;exact⟨y,by simp[Gives,execOp,Instr.index,run_underlying hu,hx,hy,asIntOf,hlt,jo hs,hy'],E⟩
   split at h2
   .rename_i s ha hs
    cases hb:Nat.blt D len with
    |false=>rw[hb]at h2;exact Bool.noConfusion h2
    |true=>
     rw[hb]at h2;simp only[cond_true,lJ]at h2;rw[Nat.blt_eq]at hb;cases hb2:Nat.beq (fE ((cs.drop (D*s)).take s)) s with
     |false=>rw[hb2]at h2;exact Bool.noConfusion h2
     |true=>
      rw[hb2]at h2;exact fin _ s hs hb h2 (.inl ⟨s,ha,hs,rfl,by rw[<-fO];exact Nat.eq_of_beq_eq_true hb2⟩)
   .rename_i s ha hs
    cases hb:Nat.blt D len with
    |false=>rw[hb]at h2;exact Bool.noConfusion h2
    |true=>
     rw[hb]at h2;simp only[cond_true]at h2;rw[Nat.blt_eq]at hb;split at h2
     .rename_i v hv
      exact fin v s hs hb h2 (.inr ⟨ha,hv⟩)
     .cases h2
   .cases h2
  .rename_i s hu
   split at h2
   .rename_i b hb
    refine gM h2 λ ι a w ht=>?_;have hr:=r1 ι a ht;have hi:=r2 ι a ht;generalize hx:a.eval x=z at hr;generalize hy:a.eval i=y at hi;cases hi;cases hr with
    |str st=>
     rw[List.getElem?_map]at hb;cases hg:st.data.toList[D]? with
     |none=>simp[hg]at hb
     |some u=>
      simp[hg]at hb;subst hb;have hlt:D<st.size:=by
       have:=(List.getElem?_eq_some_iff.1 hg).1;simpa using this
      have F:st[D]=u:=by
       have:=(List.getElem?_eq_some_iff.1 hg).2;rw[<-this];rfl
      refine⟨.int .u8 u.toNat,?_,.int _ _⟩;have hge:st[D]? =some u:=by rw[getElem?_pos st D hlt,F]
      simp[Gives,execOp,Instr.index,run_underlying hu,hx,hy,asIntOf,hge]
   .cases h2
  .cases h2
 .cases h2
theorem DX{ι:Pl}{t:TypeId}{cs:List AV}{off:Nat}{v:AV}{arr:Array Value}{w:World}(hl:dV ι cs arr.toList)(h1:∀c∈cs,c.one=true)
  (hv:(∃s,iE P t=some true∧fD P t=some s∧v= .agg ((cs.drop off).take s))∨(iE P t=some false∧cs[off]? =some v)):
  ∃y,(part t arr off).run P w= .ok y w∧VR ι v y:=by
 rcases hv with⟨s,p1,p2,rfl⟩|hv
 .refine⟨.agg (arr.extract off (off+s)),?_,.agg ?_ λ c hc=>h1 c (List.mem_of_mem_drop (List.mem_of_mem_take hc))⟩
  .simp[part,za p1,jo p2]
  .have:(arr.extract off (off+s)).toList=(arr.toList.drop off).take s:=by
    rw[Array.toList_extract];simp[List.extract_eq_take_drop]
   rw[this];exact(hl.drop _).take s
 .exact Bh hl h1 (.inr hv)
theorem AP{ι:Pl}{rec:TypeId->AV->AV->Option Bool}{m:Nat}{xs ys:List AV}{xa ya:Array Value}{w:World}
  (hrec:∀t x y r X Y,rec t x y=some r->VR ι x X->VR ι y Y->(Op.equalIn m t X Y).run P w= .ok r w)
  (hxl:dV ι xs xa.toList)(hx1:∀c∈xs,c.one=true)(hyl:dV ι ys ya.toList)(hy1:∀c∈ys,c.one=true){f:Field}{fs:List Field}{r:Bool}(hn:f.name≠ "_")
  (ih:eqFields P rec fs xs ys=some r->(Op.eqFields m xa ya fs).run P w= .ok r w){a b:AV}
  (ha:(∃s,iE P f.type=some true∧fD P f.type=some s∧a= .agg ((xs.drop f.offset).take s))∨(iE P f.type=some false∧xs[f.offset]? =some a))
  (hb:(∃s,iE P f.type=some true∧fD P f.type=some s∧b= .agg ((ys.drop f.offset).take s))∨(iE P f.type=some false∧ys[f.offset]? =some b))
  (hm:(match rec f.type a b with|some true=>eqFields P rec fs xs ys|r=>r)=some r):(Op.eqFields m xa ya (f::fs)).run P w= .ok r w:=by
 obtain⟨X1,p1,q1⟩:=DX (w:=w) hxl hx1 ha;obtain⟨Y1,p2,q2⟩:=DX (w:=w) hyl hy1 hb;simp only[Op.eqFields,if_pos hn,Sem.run_bind,p1,p2,Result.andThen_ok];cases he:rec f.type a b with
 |none=>simp[he]at hm
 |some r1=>
  rw[hrec _ _ _ _ _ _ he q1 q2];simp only[Result.andThen_ok];cases r1 with
  |false=>simp[he]at hm;subst hm;simp
  |true=>
   simp[he]at hm;simp only[Bool.not_true,Bool.false_eq_true,if_false];exact ih hm
theorem AQ{ι:Pl}{rec:TypeId->AV->AV->Option Bool}{m:Nat}{xs ys:List AV}{xa ya:Array Value}{w:World}
  (hrec:∀t x y r X Y,rec t x y=some r->VR ι x X->VR ι y Y->(Op.equalIn m t X Y).run P w= .ok r w)
  (hxl:dV ι xs xa.toList)(hx1:∀c∈xs,c.one=true)(hyl:dV ι ys ya.toList)(hy1:∀c∈ys,c.one=true):
  ∀{fs:List Field}{r:Bool},eqFields P rec fs xs ys=some r->(Op.eqFields m xa ya fs).run P w= .ok r w
 |[],r,h=>by cases h;simp[Op.eqFields]
 |f::fs,r,h=>by
  have ih:=λ h=>AQ hrec hxl hx1 hyl hy1 (fs:=fs) (r:=r) h;unfold eqFields at h;split at h
  .cases h
  .rename_i hn
   split at h
   .rename_i hagg
    split at h
    .rename_i a b ha hb
     exact AP hrec hxl hx1 hyl hy1 hn ih (.inr ⟨hagg,ha⟩) (.inr ⟨hagg,hb⟩) h
    .cases h
   .rename_i hagg
    split at h
    .rename_i s hs
     exact AP hrec hxl hx1 hyl hy1 hn ih (.inl ⟨s,hagg,hs,rfl⟩) (.inl ⟨s,hagg,hs,rfl⟩) h
    .cases h
   .cases h
set_option maxHeartbeats 1000000 in
theorem wL:∀(d:Nat){t:TypeId}{x y:AV}{r:Bool},Dr P d t x y=some r->∀(ι:Pl)(d':Nat)(w:World)(X Y:Value),d≤d'->VR ι x X->VR ι y Y->
  (Op.equalIn d' t X Y).run P w= .ok r w
 |0,t,x,y,r,h,_,_,_,_,_,_,_,_=>by cases h
 |d+1,t,x,y,r,h,ι,d',w,X,Y,hd,hX,hY=>by
  obtain⟨m,rfl⟩:∃m,d'=m+1:=⟨d'-1,by omega⟩;have z:d≤m:=by omega
  have ih:=λ t x y r X Y h hx hy=>wL d (t:=t) (x:=x) (y:=y) (r:=r) h ι m w X Y z hx hy;clear hd z;unfold Dr at h;split at h;all_goals try(cases h;done)
  all_goals first
   |(clear ih;cases h;cases hX<;>cases hY<;>simp[Op.equalIn,run_underlying (by assumption)];done)
   |skip
  .rename_i hu
   cases hX;cases hY;split at h
   .rename_i hk;cases h;subst hk
    simp[Op.equalIn,run_underlying hu,sZ]
   .cases h
  .rename_i hu
   cases h;cases hX;cases hY;rw[run_equalIn_string w m t _ _ hu,Cx]
  .rename_i e b o b' o' hu
   cases hc:(Nat.beq b b'&&Nat.beq o o'&&(P.info? e).isSome)with
   |false=>rw[hc]at h;cases h
   |true=>
    rw[hc]at h;cases h;simp only[Bool.and_eq_true]at hc;obtain⟨⟨h1,h2⟩,h3⟩:=hc;obtain⟨j,hj⟩:=Option.isSome_iff_exists.1 h3;have h1:=Nat.eq_of_beq_eq_true h1;have h2:=Nat.eq_of_beq_eq_true h2;subst h1 h2;cases hX with
    |ptr _ D=>
     cases hY with
     |ptr _ s=>
      rw[D]at s;cases s;simp[Op.equalIn,run_underlying hu,sizeOf,typeInfo,hj,run_sameAddr_same]
  .rename_i fields xs ys hu
   split at h
   .cases h
   .rename_i hst
    cases hX with
    |agg hxl hx1=>
     cases hY with
     |agg hyl hy1=>
      have hf:P.fieldsOf t=fields:=by simp[Program.fieldsOf,hu]
      rw[run_equalIn_struct w m t _ _ (by rw[hf];exact hu) (by simpa using hst),hf];exact AQ ih hxl hx1 hyl hy1 h
end
end Go.cK
end
section
namespace Go.cK
section
variable {P:Program} {T:Te} {H:Hp} {id:Nat} {k:AV->Hp->Bool}
variable {dst:Option Tmp} {ty:TypeId} {pos:String} {after:Array Edge} {guard:Option (Nat×Bool)}
theorem lT{v:Option AV}{d m:Nat}{kk:Nat->Bool}(h:bnd bn v d m kk=true):
  ∃i,kk i=true∧((v=none∧i=d)∨∃kd,v=some (.int kd (.ofNat i))∧i≤m):=by
 unfold bnd at h;split at h
 .exact⟨d,h,.inl ⟨rfl,rfl⟩⟩
 .rename_i kd i
  cases hb:Nat.ble i m with
  |false=>rw[hb]at h;exact Bool.noConfusion h
  |true=>rw[hb]at h;exact⟨i,h,.inr ⟨kd,rfl,Nat.le_of_ble_eq_true hb⟩⟩
 .cases h
def OV(ι:Pl)(v:Option AV)(x:Option Value):Prop:=(x=none∧v=none)∨∃a b,x=some a∧v=some b∧VR ι b a
theorem OV.of{ι:Pl}{o:Option Operand}{v:Option AV}{a:Act}(h:(o=none∧v=none)∨∃x y,o=some x∧v=some y∧VR ι y (a.eval x)):OV ι v (o.map a.eval):=by
 rcases h with⟨rfl,rfl⟩|⟨x,y,rfl,rfl,hr⟩
 .exact .inl ⟨rfl,rfl⟩
 .exact .inr ⟨_,_,rfl,rfl,hr⟩
theorem OV.none{ι:Pl}{x:Option Value}(h:OV ι .none x):x= .none:=by
 rcases h with⟨h,_⟩|⟨a,b,_,h,_⟩
 .exact h
 .cases h
theorem OV.some{ι:Pl}{x:Option Value}{kd:IntKind}{n:Int}(h:OV ι (.some (.int kd n)) x):x= .some (.int kd n):=by
 rcases h with⟨_,h⟩|⟨a,b,rfl,h,hr⟩
 .cases h
 .cases h;cases hr;rfl
theorem mG{kd:IntKind}{i y:Nat}{code:BoundsCode}(h:i≤y)(w:World):(Instr.sliceBound (.int kd (i:Int)) y code).run P w= .ok i w:=by
 have:=run_sliceBound (P:=P) w kd (i:Int) y code (by omega) (by omega);simpa using this
theorem rJ{ι:Pl}{isSlice:Bool}{len cap top:Nat}{lo hi:Option AV}{lx hx:Option Value}{h l:Nat}(hl:OV ι lo lx)(hh:OV ι hi hx)
  (h1:(hi=none∧h=len)∨∃kd,hi=some (.int kd (.ofNat h))∧h≤top)(h2:(lo=none∧l=0)∨∃kd,lo=some (.int kd (.ofNat l))∧l≤h)(ht:top≤cap)(w:World):
  (Instr.sliceBounds isSlice len cap lx hx none).run P w= .ok (l,h,cap) w:=by
 rcases h1 with⟨rfl,rfl⟩|⟨kd,rfl,hle⟩
 .have:=hh.none;subst this
  rcases h2 with⟨rfl,rfl⟩|⟨kd',rfl,hle'⟩
  .have:=hl.none;subst this
   simp[Instr.sliceBounds]
  .have:=hl.some;subst this
   simp[Instr.sliceBounds,mG hle']
 .have:=hh.some;subst this
  rcases h2 with⟨rfl,rfl⟩|⟨kd',rfl,hle'⟩
  .have:=hl.none;subst this
   simp[Instr.sliceBounds,mG (Nat.le_trans hle ht)]
  .have:=hl.some;subst this
   simp[Instr.sliceBounds,mG (Nat.le_trans hle ht),mG hle']
theorem Lh{ι:Pl}{isSlice:Bool}{len cap top:Nat}{lo hi mx:Option AV}{lx hx s:Option Value}{h l m:Nat}(hl:OV ι lo lx)(hh:OV ι hi hx)(hm:OV ι mx s)
  (h0:∃kd,mx=some (.int kd (.ofNat m))∧m≤top)(h1:∃kd,hi=some (.int kd (.ofNat h))∧h≤m)(h2:(lo=none∧l=0)∨∃kd,lo=some (.int kd (.ofNat l))∧l≤h)(ht:top≤cap)(w:World):
  (Instr.sliceBounds isSlice len cap lx hx s).run P w= .ok (l,h,m) w:=by
 obtain⟨km,rfl,hm1⟩:=h0;obtain⟨kh,rfl,z⟩:=h1;have:=hm.some;subst this;have:=hh.some;subst this;rcases h2 with⟨rfl,rfl⟩|⟨kd',rfl,hle'⟩
 .have:=hl.none;subst this
  simp[Instr.sliceBounds,mG (Nat.le_trans hm1 ht),mG z]
 .have:=hl.some;subst this
  simp[Instr.sliceBounds,mG (Nat.le_trans hm1 ht),mG z,mG hle']
theorem Vo{c l s:Nat}(h:l≤c):l*s+(c-l)*s=c*s:=by rw[<-Nat.add_mul];congr 1;omega
theorem VR.zM{ι:Pl}{b κ δ C off sz cc l h m:Nat}{a:Addr}(z:ι b=some (κ,δ,C))(ha:cc=0∨a=⟨κ,δ+off,none⟩)(hlh:l≤h)(hhm:h≤m)(hmc:m≤cc)
  (hfit:δ+off+cc*sz≤C):(m=cc->δ+off+cc*sz=C->VR ι (.slice b (off+l*sz) (h-l) sz none) (.slice (some (if m=l then a else a.add (l*sz))) (h-l) (m-l)))∧
   VR ι (.slice b (off+l*sz) (h-l) sz (some (m-l))) (.slice (some (if m=l then a else a.add (l*sz))) (h-l) (m-l)):=by
 have hlm:l≤m:=Nat.le_trans hlh hhm;have e:=Vo (s:=sz) hlm;have hms:m*sz≤cc*sz:=Nat.mul_le_mul_right _ hmc;have had:m-l=0∨(if m=l then a else a.add (l*sz))=⟨κ,δ+(off+l*sz),none⟩:=by
  by_cases hml:m=l
  .left;omega
  .right
   rw[if_neg hml];rcases ha with h0|rfl
   .omega
   .rw[addr_add];congr 1;omega
 refine⟨λ hm hC=> .full z (by omega) ?_ had,.exact z (by omega) ?_ had⟩
 .subst hm;omega
 .omega
theorem Oy{s:ByteArray}{l h:Nat}:(((s.data.toList.map UInt8.toNat).drop l).take (h-l))=(s.extract l h).data.toList.map UInt8.toNat:=by
 rw[ByteArray.data_extract,Array.toList_extract,<-List.map_drop,<-List.map_take]
theorem M0{t:TypeId}{x:AV}{lo hi mx:Option AV}{kk:AV->Bool}(h:Cz P bn t x lo hi mx H kk=true):
  ∃v,kk v=true∧∀ι n w X lx hx E,Rel ι H n w->VR ι x X->OV ι lo lx->OV ι hi hx->OV ι mx E->∃y,(Instr.sliceAt t X lx hx E).run P w= .ok y w∧VR ι v y:=by
 unfold Cz at h;split at h
 .rename_i s hu
  split at h
  .cases h
  .rw[dO]at h
   obtain⟨hN,h1,z⟩:=lT h;obtain⟨D,h2,hl1⟩:=lT h1;rw[lJ]at h2;refine⟨_,h2,λ ι n w X lx hx E hr hX hlx hhx hmx=>?_⟩;cases hX with
   |str st=>
    have:=hmx.none;subst this;have hs:fE (st.data.toList.map UInt8.toNat)=st.size:=by rw[fO];simp
    rw[hs]at z;have hlh:D≤hN:=by
     rcases hl1 with⟨_,rfl⟩|⟨_,_,hle⟩
     .exact Nat.zero_le _
     .exact hle
    have hb:=rJ (P:=P) (isSlice:=false) hlx hhx z hl1 (Nat.le_refl _) w;refine⟨.string (st.extract D hN),?_,?_⟩
    .simp[Instr.sliceAt,Instr.slice,run_underlying hu,hb]
    .rw[Oy];exact .str _
 .rename_i elem hu
  split at h
  .rename_i s hs
   obtain⟨hN,h1,z⟩:=lT h;obtain⟨D,h2,hl1⟩:=lT h1;refine⟨_,h2,λ ι n w X lx hx E hr hX hlx hhx hmx=>?_⟩;cases hX;have:=hmx.none;subst this;have hb:=rJ (P:=P) (isSlice:=true) hlx hhx z hl1 (Nat.le_refl _) w;have h0:hN=0:=by rcases z with⟨_,rfl⟩|⟨_,_,hle⟩<;>omega
   have l0:D=0:=by rcases hl1 with⟨_,rfl⟩|⟨_,_,hle⟩<;>omega
   subst h0;subst l0;refine⟨.slice none 0 0,?_,.bF⟩;simp[Instr.sliceAt,Instr.slice,run_underlying hu,hb,jo hs]
  .cases h
 .rename_i elem b off len sz cap hu
  split at h
  .rename_i s hs
   cases hsz:Nat.beq s sz with
   |false=>rw[hsz]at h;exact Bool.noConfusion h
   |true=>
    rw[hsz]at h;simp only[cond_true]at h;replace hsz:=Nat.eq_of_beq_eq_true hsz;subst hsz
    have open_:∀ι X,VR ι (.slice b off len s cap) X->∃κ δ C cc a,ι b=some (κ,δ,C)∧X= .slice (some a) len cc∧len≤cc∧(cc=0∨a=⟨κ,δ+off,none⟩)∧δ+off+cc*s≤C∧
      Ji cap len≤cc∧(cap=none->δ+off+cc*s=C)∧(∀c,cap=some c->cc=c):=λ ι X hX=>by
     cases hX with
     |full F hl hc ha=>exact⟨_,_,_,_,_,F,rfl,hl,ha,by omega,hl,λ _=>hc,λ c hc=>by cases hc⟩
     |exact F hl hc ha=>exact⟨_,_,_,_,_,F,rfl,hl,ha,hc,Nat.le_refl _,λ h=>(by cases h),λ c hc=>by cases hc;rfl⟩
    split at h
    .obtain⟨hN,h1,z⟩:=lT h
     obtain⟨D,h2,hl1⟩:=lT h1;simp only[dO]at h2;have hlh:D≤hN:=by
      rcases hl1 with⟨_,rfl⟩|⟨_,_,hle⟩
      .exact Nat.zero_le _
      .exact hle
     split at h2
     .refine⟨_,h2,λ ι n w X lx hx E hr hX hlx hhx hmx=>?_⟩
      obtain⟨κ,δ,C,cc,a,g1,rfl,g2,g3,g4,g5,g6,g7⟩:=open_ ι X hX;have:=hmx.none;subst this;have hb:=rJ (P:=P) (isSlice:=true) hlx hhx z hl1 g5 w;have I:hN≤cc:=by
       rcases z with⟨_,rfl⟩|⟨_,_,hle⟩
       .exact g2
       .exact Nat.le_trans hle g5
      refine⟨.slice (some (if cc=D then a else a.add (D*s))) (hN-D) (cc-D),?_,(VR.zM g1 g3 hlh I (Nat.le_refl _) g4).1 rfl (g6 rfl)⟩;simp[Instr.sliceAt,Instr.slice,run_underlying hu,hb,jo hs];split<;>rfl
     .rename_i c
      refine⟨_,h2,λ ι n w X lx hx E hr hX hlx hhx hmx=>?_⟩;obtain⟨κ,δ,C,cc,a,g1,rfl,g2,g3,g4,g5,g6,g7⟩:=open_ ι X hX;have hcc:=g7 c rfl;subst hcc;have:=hmx.none;subst this;have hb:=rJ (P:=P) (isSlice:=true) hlx hhx z hl1 g5 w;have I:hN≤cc:=by
       rcases z with⟨_,rfl⟩|⟨_,_,hle⟩
       .exact g2
       .exact Nat.le_trans hle g5
      refine⟨.slice (some (if cc=D then a else a.add (D*s))) (hN-D) (cc-D),?_,(VR.zM g1 g3 hlh I (Nat.le_refl _) g4).2⟩;simp[Instr.sliceAt,Instr.slice,run_underlying hu,hb,jo hs];split<;>rfl
    .rename_i mv
     obtain⟨mN,h0,hm1⟩:=lT h;replace hm1:∃kd,some mv=some (.int kd (.ofNat mN))∧mN≤Ji cap len:=by
      rcases hm1 with⟨h,_⟩|h
      .cases h
      .exact h
     split at h0
     .cases h0
     .rename_i hv
      obtain⟨hN,h1,z⟩:=lT h0;obtain⟨D,h2,hl1⟩:=lT h1;simp only[dO]at h2;replace z:∃kd,some hv=some (.int kd (.ofNat hN))∧hN≤mN:=by
       rcases z with⟨h,_⟩|h
       .cases h
       .exact h
      have hlh:D≤hN:=by
       rcases hl1 with⟨_,rfl⟩|⟨_,_,hle⟩
       .exact Nat.zero_le _
       .exact hle
      refine⟨_,h2,λ ι n w X lx hx E hr hX hlx hhx hmx=>?_⟩;obtain⟨κ,δ,C,cc,a,g1,rfl,g2,g3,g4,g5,g6,g7⟩:=open_ ι X hX;have hb:=Lh (P:=P) (isSlice:=true) (len:=len) hlx hhx hmx hm1 z hl1 g5 w;have hmc:mN≤cc:=by obtain⟨_,_,h⟩:=hm1;exact Nat.le_trans h g5
      have hhm:hN≤mN:=by obtain⟨_,_,h⟩:=z;exact h
      refine⟨.slice (some (if mN=D then a else a.add (D*s))) (hN-D) (mN-D),?_,(VR.zM g1 g3 hlh hhm hmc g4).2⟩;simp[Instr.sliceAt,Instr.slice,run_underlying hu,hb,jo hs];split<;>rfl
  .cases h
 .rename_i nn elem b off hu
  split at h
  .rename_i s el c cn sp fz hs hb
   cases hcond:(Nat.ble (Nat.add off (Nat.mul nn s)) cn&&Nat.blt 0 s)with
   |false=>rw[hcond]at h;exact Bool.noConfusion h
   |true=>
    rw[hcond]at h;simp only[cond_true]at h;rw[Bool.and_eq_true,Nat.blt_eq]at hcond;obtain⟨c1,c2⟩:=hcond;replace c1:off+nn*s≤cn:=Nat.le_of_ble_eq_true c1;obtain⟨hN,h1,z⟩:=lT h;obtain⟨D,h2,hl1⟩:=lT h1;simp only[dO]at h2;have hlh:D≤hN:=by
     rcases hl1 with⟨_,rfl⟩|⟨_,_,hle⟩
     .exact Nat.zero_le _
     .exact hle
    refine⟨_,h2,λ ι n w X lx hx E hr hX hlx hhx hmx=>?_⟩;have:=hmx.none;subst this;cases hX with
    |ptr off F=>
     rename_i κ δ C;obtain⟨arr,el,fr,g1,g2,g3,g4,g5,g6⟩:=hr.ob b _ _ _ _ hb F;have hbd:=rJ (P:=P) (isSlice:=false) hlx hhx z hl1 (Nat.le_refl nn) w;have I:hN≤nn:=by rcases z with⟨_,rfl⟩|⟨_,_,hle⟩<;>omega
     refine⟨.slice (some (if nn=D then⟨κ,δ+off,none⟩else(⟨κ,δ+off,none⟩:Addr).add (D*s))) (hN-D) (nn-D),?_,(VR.zM F (.inr rfl) hlh I (Nat.le_refl _) (by omega)).2⟩;simp[Instr.sliceAt,run_underlying hu,hbd,jo hs,Instr.sureAddr]
  .cases h
 .cases h
theorem Ub{t:TypeId}{x:Operand}{lo hi mx:Option Operand}(h:cu P bn ⟨dst,.slice t x lo hi mx,ty,pos,after,guard⟩ T H id k=true):
  QS P ⟨dst,.slice t x lo hi mx,ty,pos,after,guard⟩ T H id k:=by
 simp only[cu]at h;obtain⟨xv,h1,e1,r1⟩:=bR h;obtain⟨lv,h2,e2,r2⟩:=xW h1;obtain⟨hv,h3,e3,r3⟩:=xW h2;obtain⟨mv,h4,e4,r4⟩:=xW h3;obtain⟨v,h5,r5⟩:=M0 h4;refine ze h5 rfl λ ι a n w hr ht=>?_;obtain⟨y,hy,s⟩:=r5 ι n w _ _ _ _ hr (r1 ι a ht) (.of (r2 ι a ht)) (.of (r3 ι a ht)) (.of (r4 ι a ht));exact⟨y,by simp[Gives,execOp,hy],s⟩
end
end Go.cK
end
section
namespace Go.cK
section
variable {P:Program} {T:Te} {H:Hp} {id:Nat} {k:AV->Hp->Bool}
variable {dst:Option Tmp} {ty:TypeId} {pos:String} {after:Array Edge} {guard:Option (Nat×Bool)}
theorem M4{α:Type}{a:Array α}{x:α}(h:a.toList=[x]):a= #[x]:=by
 cases a;simp at h;simp[h]
theorem yL{b:Builtin}{args:Array Operand}{argTypes:Array TypeId}{a:Act}{w:World}{r:Result Next}
  (h:(builtin b argTypes ty (args.map λ| .const _=>true|_=>false) (args.map a.eval)).run P w=r):
  (execOp a.eval ⟨dst,.call ⟨.builtin b,args,argTypes⟩,ty,pos,after,guard⟩).run P w=r:=by
 simp only[execOp,resolve,Sem.run_bind,Sem.run_pure,Result.andThen_ok,invoke];exact h
theorem Rh{t:TypeId}{x:AV}{kk:AV->Bool}(h:Er P bn t x H kk=true):
  ∃v,kk v=true∧∀ι n w X t',Rel ι H n w->VR ι x X->∃y,(Builtin.len_ #[t] t' #[X]).run P w= .ok y w∧VR ι v y:=by
 unfold Er at h;split at h
 .rename_i s hu
  rw[dO]at h;refine⟨_,h,λ ι n w X t' hr hX=>?_⟩;cases hX with
  |str st=>exact⟨.int .i64 st.size,by simp[Builtin.len_,run_underlying hu,goInt],by rw[fO];simp;exact .int _ _⟩
 .rename_i nn elem hu
  refine⟨_,h,λ ι n w X t' hr hX=>⟨.int .i64 nn,by simp[Builtin.len_,run_underlying hu,goInt],.int _ _⟩⟩
 .rename_i elem b off nn sz cap hu
  refine⟨_,h,λ ι n w X t' hr hX=>?_⟩;cases hX<;>exact⟨.int .i64 nn,by simp[Builtin.len_,run_underlying hu,goInt],.int _ _⟩
 .rename_i elem hu
  refine⟨_,h,λ ι n w X t' hr hX=>?_⟩;cases hX;exact⟨.int .i64 0,by simp[Builtin.len_,run_underlying hu,goInt],.int _ _⟩
 .rename_i kt et hu
  refine⟨_,h,λ ι n w X t' hr hX=>?_⟩;cases hX;exact⟨.int .i64 0,by simp[Builtin.len_,run_underlying hu,goInt],.int _ _⟩
 .rename_i kt et b hu
  split at h
  .rename_i es ver hb
   rw[dO]at h;refine⟨_,h,λ ι n w X t' hr hX=>?_⟩;cases hX with
   |map z=>
    rename_i κ δ C;obtain⟨arr,clock,g1,g2⟩:=hr.ob b _ _ _ _ hb z;have hl:es.length=arr.size:=by
     have:=g2.entries.1.length;simpa using this
    refine⟨.int .i64 arr.size,?_,by rw[fO,hl];exact .int _ _⟩;simp[Builtin.len_,run_underlying hu,goInt,getObj,Sem.run,g1]
  .cases h
 .cases h
theorem q_len{args:Array Operand}{argTypes:Array TypeId}(h:cu P bn ⟨dst,.call ⟨.builtin .len,args,argTypes⟩,ty,pos,after,guard⟩ T H id k=true):
  QS P ⟨dst,.call ⟨.builtin .len,args,argTypes⟩,ty,pos,after,guard⟩ T H id k:=by
 simp only[cu]at h;split at h
 .rename_i t x ht0 hx0
  obtain⟨xv,h1,e1,r1⟩:=bR h;obtain⟨v,h2,r2⟩:=Rh h1;refine ze h2 rfl λ ι a n w hr ht=>?_;obtain⟨y,hy,s⟩:=r2 ι n w _ ty hr (r1 ι a ht);refine⟨y,yL ?_,s⟩;have ha:=M4 hx0;subst ha;have hl:(Builtin.len_ argTypes ty #[a.eval x]).run P w= .ok y w:=by
   rw[<-hy];simp only[Builtin.len_,ht0];rfl
  simp[builtin,hl]
 .cases h
theorem Bj{isMax:Bool}:∀{l:List AV}{x:AV}{kk:AV->Bool},Jw bn isMax l x kk=true->
  ∃v,kk v=true∧∀ι w X xs,VR ι x X->dV ι l xs->∃y,(xs.foldlM (if isMax then Builtin.max2 else Builtin.min2) X).run P w= .ok y w∧VR ι v y
 |[],x,kk,h=>⟨x,h,λ ι w X xs hX hl=>by cases hl;exact⟨X,by simp,hX⟩⟩
 |y::l,x,kk,h=>by
  unfold Jw at h;split at h
  .cases‹y::l=[]›
  .rename_i ky yn l' kx xn heq
   cases heq;obtain⟨v,h1,r1⟩:=Bj h;refine⟨v,h1,λ ι w X xs hX hl=>?_⟩;cases hX;cases hl with
   |cons hy ht=>
    cases hy;rename_i ys;cases isMax with
    |true=>
     obtain⟨y,hy,hv⟩:=r1 ι w (.int kx (if yn>xn then yn else xn)) ys (by
      simp only[cond_true,wB];by_cases hlt:xn<yn
      .simp[hlt];exact .int _ _
      .simp[hlt];exact .int _ _) ht
     refine⟨y,?_,hv⟩;simp only[if_true]at hy|-
     simp[List.foldlM_cons,Builtin.max2];exact hy
    |false=>
     obtain⟨y,hy,hv⟩:=r1 ι w (.int kx (if yn<xn then yn else xn)) ys (by
      simp only[cond_false,wB];by_cases hlt:yn<xn
      .simp[hlt];exact .int _ _
      .simp[hlt];exact .int _ _) ht
     refine⟨y,?_,hv⟩;simp only[Bool.false_eq_true,if_false]at hy|-
     simp[List.foldlM_cons,Builtin.min2];exact hy
  .cases h
theorem XW{args:Array Operand}{argTypes:Array TypeId}(h:cu P bn ⟨dst,.call ⟨.builtin .max,args,argTypes⟩,ty,pos,after,guard⟩ T H id k=true):
  QS P ⟨dst,.call ⟨.builtin .max,args,argTypes⟩,ty,pos,after,guard⟩ T H id k:=by
 simp only[cu]at h;obtain⟨vs,h1,e1,r1⟩:=ru h;split at h1
 .rename_i x l
  obtain⟨v,h2,r2⟩:=Bj (P:=P) h1;refine gM h2 λ ι a w ht=>?_;have hr:=r1 ι a ht;generalize hxs:args.toList.map a.eval=xs at hr;cases hr with
  |cons hx hl=>
   obtain⟨y,hy,s⟩:=r2 ι w _ _ hx hl;refine⟨y,yL ?_,s⟩;simp only[if_true]at hy;simp[builtin,Builtin.max_,hxs,hy]
 .cases h1
theorem XY{args:Array Operand}{argTypes:Array TypeId}(h:cu P bn ⟨dst,.call ⟨.builtin .min,args,argTypes⟩,ty,pos,after,guard⟩ T H id k=true):
  QS P ⟨dst,.call ⟨.builtin .min,args,argTypes⟩,ty,pos,after,guard⟩ T H id k:=by
 simp only[cu]at h;obtain⟨vs,h1,e1,r1⟩:=ru h;split at h1
 .rename_i x l
  obtain⟨v,h2,r2⟩:=Bj (P:=P) h1;refine gM h2 λ ι a w ht=>?_;have hr:=r1 ι a ht;generalize hxs:args.toList.map a.eval=xs at hr;cases hr with
  |cons hx hl=>
   obtain⟨y,hy,s⟩:=r2 ι w _ _ hx hl;refine⟨y,yL ?_,s⟩;simp only[Bool.false_eq_true,if_false]at hy;simp[builtin,Builtin.min_,hxs,hy]
 .cases h1
theorem Jy(k:IntKind):∃n,jC k=2^n∧n≤k.bits∧jC k≤2^k.bits:=by
 cases k
 .exact⟨7,rfl,by decide,by decide⟩
 .exact⟨15,rfl,by decide,by decide⟩
 .exact⟨31,rfl,by decide,by decide⟩
 .exact⟨63,rfl,by decide,by decide⟩
 .exact⟨8,rfl,by decide,by decide⟩
 .exact⟨16,rfl,by decide,by decide⟩
 .exact⟨32,rfl,by decide,by decide⟩
 .exact⟨64,rfl,by decide,by decide⟩
theorem zN{k:IntKind}{m:Nat}(h:m<jC k):k.wrap (m:Int)=m:=by
 rw[<-oW];show cond (Nat.blt m (jC k)) (Int.ofNat m) (k.wrap (Int.ofNat m))=_;rw[show Nat.blt m (jC k)=true from by rw[Nat.blt_eq];exact h];rfl
theorem toNat_ofInt{k:IntKind}{m:Nat}(h:m<jC k):(BitVec.ofInt k.bits (m:Int)).toNat=m:=by
 obtain⟨n,h1,h2,h3⟩:=Jy k;rw[BitVec.toNat_ofInt];have:(m:Int)% ((2^k.bits:Nat):Int)=m:=by
  rw[<-Int.natCast_emod,Nat.mod_eq_of_lt (by omega)]
 rw[this];rfl
theorem xX{op:BinOp}{kd:IntKind}{a b:Nat}(ha:a<jC kd)(hb:b<jC kd)(w:World):
  (op= .and->(Op.intBits op kd a b).run P w= .ok (.int kd (Nat.land a b:Nat)) w)∧(op= .or->(Op.intBits op kd a b).run P w= .ok (.int kd (Nat.lor a b:Nat)) w)∧
  (op= .xor->(Op.intBits op kd a b).run P w= .ok (.int kd (Nat.xor a b:Nat)) w)∧(op= .andNot->(Op.intBits op kd a b).run P w= .ok (.int kd (Nat.xor a (Nat.land a b):Nat)) w):=by
 obtain⟨n,h1,h2,h3⟩:=Jy kd;have hl:Nat.land a b<jC kd:=Nat.lt_of_le_of_lt Nat.and_le_left ha;have ho:Nat.lor a b<jC kd:=by rw[h1]at ha hb|-;exact Nat.or_lt_two_pow ha hb
 have hx:Nat.xor a b<jC kd:=by rw[h1]at ha hb|-;exact Nat.xor_lt_two_pow ha hb
 have hx2:Nat.xor a (Nat.land a b)<jC kd:=by rw[h1]at ha hl|-;exact Nat.xor_lt_two_pow ha hl
 refine⟨?_,?_,?_,?_⟩<;>rintro rfl<;>simp only[Op.intBits,Sem.run_pure]
 .rw[BitVec.toNat_and,toNat_ofInt ha,toNat_ofInt hb];show Result.ok (Value.int kd (kd.wrap ((Nat.land a b:Nat):Int))) w=_;rw[zN hl]
 .rw[BitVec.toNat_or,toNat_ofInt ha,toNat_ofInt hb];show Result.ok (Value.int kd (kd.wrap ((Nat.lor a b:Nat):Int))) w=_;rw[zN ho]
 .rw[BitVec.toNat_xor,toNat_ofInt ha,toNat_ofInt hb];show Result.ok (Value.int kd (kd.wrap ((Nat.xor a b:Nat):Int))) w=_;rw[zN hx]
 .have:(BitVec.ofInt kd.bits (a:Int)&&& ~~~BitVec.ofInt kd.bits (b:Int)).toNat=Nat.xor a (Nat.land a b):=by
   have e:BitVec.ofInt kd.bits (a:Int)&&& ~~~BitVec.ofInt kd.bits (b:Int)=BitVec.ofInt kd.bits (a:Int)^^^(BitVec.ofInt kd.bits (a:Int)&&&BitVec.ofInt kd.bits (b:Int)):=by
    apply BitVec.eq_of_getLsbD_eq;intro i hi;simp only[BitVec.getLsbD_and,BitVec.getLsbD_not,BitVec.getLsbD_xor,hi,decide_true,Bool.true_and];cases(BitVec.ofInt kd.bits (a:Int)).getLsbD i<;>cases(BitVec.ofInt kd.bits (b:Int)).getLsbD i<;>rfl
   rw[e,BitVec.toNat_xor,BitVec.toNat_and,toNat_ofInt ha,toNat_ofInt hb];rfl
  rw[this];rw[zN hx2]
theorem Ri{op:BinOp}{kd:IntKind}{x y:Int}{kk:AV->Bool}(h:xY bn op kd x y kk=true)(hns:op≠ .shl∧op≠ .shr):
  ∃v,kk v=true∧∀t w,∃Y,(binOp op t (.int kd x) (.int kd y)).run P w= .ok Y w∧∀ι,VR ι v Y:=by
 have s:∀f:Nat->Nat->Nat,xY.bits bn kd x y kk f=true->∃a b:Nat,x=a∧y=b∧a<jC kd∧b<jC kd∧kk (.int kd (.ofNat (f a b)))=true:=λ f hb=>by
  unfold xY.bits at hb;split at hb
  .rename_i a b
   cases hc:(Nat.blt a (jC kd)&&Nat.blt b (jC kd))with
   |false=>rw[hc]at hb;exact Bool.noConfusion hb
   |true=>
    rw[hc]at hb;simp only[cond_true,dO]at hb;rw[Bool.and_eq_true,Nat.blt_eq,Nat.blt_eq]at hc;exact⟨a,b,rfl,rfl,hc.1,hc.2,hb⟩
  .cases hb
 cases op<;>simp only[xY]at h
 case add=>rw[pU,oW]at h;exact⟨_,h,λ t w=>⟨_,by first|(simp[binOp,Op.intArith];done)|(simp[binOp,Op.intArith];rfl),λ ι=> .int _ _⟩⟩
 case sub=>rw[pU,oW]at h;exact⟨_,h,λ t w=>⟨_,by first|(simp[binOp,Op.intArith];done)|(simp[binOp,Op.intArith];rfl),λ ι=> .int _ _⟩⟩
 case mul=>rw[pU,oW]at h;exact⟨_,h,λ t w=>⟨_,by first|(simp[binOp,Op.intArith];done)|(simp[binOp,Op.intArith];rfl),λ ι=> .int _ _⟩⟩
 case quo=>
  rw[sZ]at h;cases hc:(y==Int.ofNat 0)with
  |true=>rw[hc]at h;exact Bool.noConfusion h
  |false=>
   rw[hc]at h;simp only[cond_false,pU,oW]at h;have hy:y≠0:=by simpa using hc
   exact⟨_,h,λ t w=>⟨_,by simp[binOp,Op.intDiv,hy],λ ι=> .int _ _⟩⟩
 case rem=>
  rw[sZ]at h;cases hc:(y==Int.ofNat 0)with
  |true=>rw[hc]at h;exact Bool.noConfusion h
  |false=>
   rw[hc]at h;simp only[cond_false,pU]at h;have hy:y≠0:=by simpa using hc
   exact⟨_,h,λ t w=>⟨_,by simp[binOp,Op.intDiv,hy],λ ι=> .int _ _⟩⟩
 case eql=>exact⟨_,h,λ t w=>⟨.bool (x==y),by simp[binOp,Op.intCmp],λ ι=>by rw[sZ];exact .bool _⟩⟩
 case neq=>exact⟨_,h,λ t w=>⟨.bool (x !=y),by simp[binOp,Op.intCmp],λ ι=>by rw[sZ];exact .bool _⟩⟩
 case lss=>exact⟨_,h,λ t w=>⟨.bool (x<y),by simp[binOp,Op.intCmp],λ ι=>by rw[wB];exact .bool _⟩⟩
 case leq=>exact⟨_,h,λ t w=>⟨.bool (x≤y),by simp[binOp,Op.intCmp],λ ι=>by
  rw[wB,show(!decide (y<x))=decide (x≤y)from by rw[<-decide_not];congr 1;simp];exact .bool _⟩⟩
 case gtr=>exact⟨_,h,λ t w=>⟨.bool (x>y),by simp[binOp,Op.intCmp],λ ι=>by rw[wB];exact .bool _⟩⟩
 case geq=>exact⟨_,h,λ t w=>⟨.bool (x≥y),by simp[binOp,Op.intCmp],λ ι=>by
  rw[wB,show(!decide (x<y))=decide (x≥y)from by rw[<-decide_not];congr 1;simp];exact .bool _⟩⟩
 case and=>
  obtain⟨a,b,rfl,rfl,ha,hb,hk⟩:=s _ h;exact⟨_,hk,λ t w=>⟨_,by simp[binOp,(xX (P:=P) (op:= .and) ha hb w).1 rfl],λ ι=> .int _ _⟩⟩
 case or=>
  obtain⟨a,b,rfl,rfl,ha,hb,hk⟩:=s _ h;exact⟨_,hk,λ t w=>⟨_,by simp[binOp,(xX (P:=P) (op:= .or) ha hb w).2.1 rfl],λ ι=> .int _ _⟩⟩
 case xor=>
  obtain⟨a,b,rfl,rfl,ha,hb,hk⟩:=s _ h;exact⟨_,hk,λ t w=>⟨_,by simp[binOp,(xX (P:=P) (op:= .xor) ha hb w).2.2.1 rfl],λ ι=> .int _ _⟩⟩
 case andNot=>
  obtain⟨a,b,rfl,rfl,ha,hb,hk⟩:=s _ h;exact⟨_,hk,λ t w=>⟨_,by simp[binOp,(xX (P:=P) (op:= .andNot) ha hb w).2.2.2 rfl],λ ι=> .int _ _⟩⟩
 case shl=>exact absurd rfl hns.1
 case shr=>exact absurd rfl hns.2
theorem Et{left:Bool}{kd kd':IntKind}{x y:Int}{kk:AV->Bool}(h:CB bn left kd x y kk=true):
  ∃v,kk v=true∧∀t w,∃Y,(binOp (if left then .shl else .shr) t (.int kd x) (.int kd' y)).run P w= .ok Y w∧∀ι,VR ι v Y:=by
 unfold CB at h;split at h
 .rename_i a s
  cases hc:Nat.ble s kd.bits with
  |false=>rw[hc]at h;exact Bool.noConfusion h
  |true=>
   rw[hc]at h;replace hc:=Nat.le_of_ble_eq_true hc;simp only[cond_true]at h;have hmin:min s kd.bits=s:=Nat.min_eq_left hc;cases left with
   |true=>
    simp only[cond_true,pU,oW]at h;refine⟨_,h,λ t w=>⟨_,?_,λ ι=> .int _ _⟩⟩;have e:((a:Int)*2^s)=Int.ofNat (Nat.mul a (Nat.pow 2 s)):=by
     show _=((a*2^s:Nat):Int);rw[Int.natCast_mul,Int.natCast_pow];rfl
    have hs:¬((s:Int)<0):=by omega
    show(binOp .shl t (.int kd (a:Int)) (.int kd' (s:Int))).run P w=_;simp only[binOp,Op.shift,if_neg hs,Int.toNat_natCast,hmin,Sem.run_pure,e]
   |false=>
    simp only[cond_false,dO]at h;refine⟨_,h,λ t w=>⟨_,?_,λ ι=> .int _ _⟩⟩;have e:((a:Int).fdiv (2^s))=Int.ofNat (Nat.div a (Nat.pow 2 s)):=by
     show _=((a/2^s:Nat):Int);have h2:(2^s:Int)=((2^s:Nat):Int):=by rw[Int.natCast_pow];rfl
     rw[h2,Int.fdiv_eq_ediv_of_nonneg _ (Int.natCast_nonneg _),Int.natCast_ediv]
    have hs:¬((s:Int)<0):=by omega
    show(binOp .shr t (.int kd (a:Int)) (.int kd' (s:Int))).run P w=_;simp only[binOp,Op.shift,if_neg hs,Int.toNat_natCast,hmin,Sem.run_pure,e]
 .exact Bool.noConfusion h
end
end Go.cK
end
section
namespace Go.cK
theorem Hr:∀(a b:List Nat),(!sW b a)=(sW a b||seqB a b)
 |[],[]=>rfl
 |[],_::_=>rfl
 |_::_,[]=>rfl
 |x::a,y::b=>by
  show(!cond (Nat.blt y x) true (cond (Nat.beq y x) (sW b a) false))=(cond (Nat.blt x y) true (cond (Nat.beq x y) (sW a b) false)||cond (Nat.beq x y) (seqB a b) false);have ih:=Hr a b;rcases Nat.lt_trichotomy x y with h|h|h
  .rw[show Nat.blt y x=false from by cases hb:Nat.blt y x with|false=>rfl|true=>rw[Nat.blt_eq]at hb;omega]
   rw[Gr (by omega:y≠x),show Nat.blt x y=true from by rw[Nat.blt_eq];exact h];rfl
  .subst h
   rw[show Nat.blt x x=false from by cases hb:Nat.blt x x with|false=>rfl|true=>rw[Nat.blt_eq]at hb;omega,show Nat.beq x x=true from Nat.beq_refl x];simpa using ih
  .rw[show Nat.blt y x=true from by rw[Nat.blt_eq];exact h,show Nat.blt x y=false from by cases hb:Nat.blt x y with|false=>rfl|true=>rw[Nat.blt_eq]at hb;omega]
   rw[Gr (by omega:x≠y)];rfl
section
variable {P:Program} {T:Te} {H:Hp} {id:Nat} {k:AV->Hp->Bool}
variable {dst:Option Tmp} {ty:TypeId} {pos:String} {after:Array Edge} {guard:Option (Nat×Bool)}
theorem Rj{op:BinOp}{x y:List Nat}{kk:AV->Bool}(h:M5 bn op x y kk=true):
  ∃v,kk v=true∧∀ι t w X Y,VR ι (.str x) X->VR ι (.str y) Y->∃Z,(binOp op t X Y).run P w= .ok Z w∧VR ι v Z:=by
 have lt:∀a b:ByteArray,Op.bytesLess a.toList b.toList=sW (a.data.toList.map UInt8.toNat) (b.data.toList.map UInt8.toNat):=λ a b=>by rw[Ox,rH,rH]
 have tot:∀a b:ByteArray,(Op.bytesLess a.toList b.toList||(a.toList==b.toList))= !sW (b.data.toList.map UInt8.toNat) (a.data.toList.map UInt8.toNat):=λ a b=>by
  rw[Hr,lt,Cx]
 cases op<;>simp only[M5]at h<;>try(cases h;done)
 case add=>
  rw[lJ]at h;cases hc:Nat.ble (fE (x++y)) 16777216 with
  |false=>rw[hc]at h;exact Bool.noConfusion h
  |true=>
   rw[hc]at h;replace hc:=Nat.le_of_ble_eq_true hc;rw[fO]at hc;refine⟨_,h,λ ι t w X Y hX hY=>?_⟩;cases hX with
   |str a=>
    cases hY with
    |str b=>
     refine⟨.string (a++b),?_,?_⟩
     .have hle:a.size+b.size≤9223372036854775807:=by
       simp at hc;omega
      simp only[binOp];exact run_string_add_sum w a b hle
     .have:(a.data.toList.map UInt8.toNat++b.data.toList.map UInt8.toNat)=(a++b).data.toList.map UInt8.toNat:=by
       rw[ByteArray.data_append,Array.toList_append,List.map_append]
      rw[this];exact .str _
 case eql=>exact⟨_,h,λ ι t w X Y hX hY=>by cases hX;cases hY;exact⟨_,by simp[binOp,Op.stringOp];rfl,by rw[<-Cx];exact .bool _⟩⟩
 case neq=>exact⟨_,h,λ ι t w X Y hX hY=>by cases hX;cases hY;exact⟨_,by simp[binOp,Op.stringOp];rfl,by rw[<-Cx];exact .bool _⟩⟩
 case lss=>exact⟨_,h,λ ι t w X Y hX hY=>by cases hX;cases hY;exact⟨_,by simp[binOp,Op.stringOp];rfl,by rw[<-lt];exact .bool _⟩⟩
 case leq=>exact⟨_,h,λ ι t w X Y hX hY=>by cases hX;cases hY;exact⟨_,by simp only[binOp,Op.stringOp,Sem.run_pure];rfl,by rw[<-tot];exact .bool _⟩⟩
 case gtr=>exact⟨_,h,λ ι t w X Y hX hY=>by
  cases hX;cases hY;rename_i a b;refine⟨_,by simp only[binOp,Op.stringOp,Sem.run_pure];rfl,?_⟩;have:=tot a b;have e:sW (b.data.toList.map UInt8.toNat) (a.data.toList.map UInt8.toNat)= !(Op.bytesLess a.toList b.toList||(a.toList==b.toList)):=by rw[this];simp
  rw[e];exact .bool _⟩
 case geq=>exact⟨_,h,λ ι t w X Y hX hY=>by cases hX;cases hY;exact⟨_,by simp only[binOp,Op.stringOp,Sem.run_pure];rfl,by rw[<-lt];exact .bool _⟩⟩
theorem Jz{op:BinOp}{t:TypeId}{xo yo:Operand}{x y:AV}{ι:Pl}{X Y:Value}(hx:VR ι x X)(hy:VR ι y Y)(hg:rM.wC P t xo yo x y=true)(w:World):
  (eqGuard op t xo yo X Y).run P w= .ok () w:=by
 unfold rM.wC at hg;split at hg
 .cases hx;cases hy
  cases xo<;>cases yo<;>first
   |exact Bool.noConfusion hg
   |(cases op<;>simp[eqGuard])
 .cases hx;cases hy
  exact run_eqGuard_agg w op t xo yo _ _ (by simpa using hg)
 .rename_i n1 n2
  cases op<;>first
   |(simp[eqGuard];done)
   |(cases hx<;>cases hy<;>first
      |(simp[eqGuard];done)
      |(exact(n1 rfl rfl).elim)
      |(exact(n2 _ _ rfl rfl).elim))
theorem Oz{op:BinOp}{t:TypeId}{xo yo:Operand}{k1 k2:IntKind}{a b:Int}(w:World):(eqGuard op t xo yo (.int k1 a) (.int k2 b)).run P w= .ok () w:=by
 cases op<;>simp[eqGuard]
theorem OA{op:BinOp}{t:TypeId}{xo yo:Operand}{a b:ByteArray}(w:World):(eqGuard op t xo yo (.string a) (.string b)).run P w= .ok () w:=by
 cases op<;>simp[eqGuard]
theorem Mj{t:TypeId}{x y:AV}{ι:Pl}{X Y:Value}{r:Bool}(hx:VR ι x X)(hy:VR ι y Y)(h:Dr P 8 t x y=some r)
  (hi:∀kd a kd' b,x= .int kd a->y= .int kd' b->False)(hs:∀a b,x= .str a->y= .str b->False)(w:World):
  (binOp .eql t X Y).run P w= .ok (.bool r) w∧(binOp .neq t X Y).run P w= .ok (.bool (!r)) w:=by
 have he:=wL 8 h ι 10000 w X Y (by decide) hx hy;have he':(Op.equal t X Y).run P w= .ok r w:=he;cases hx<;>cases hy<;>first
  |(exact(hi _ _ _ _ rfl rfl).elim)
  |(exact(hs _ _ rfl rfl).elim)
  |(simp only[binOp,Sem.run_bind,he',Result.andThen_ok,Sem.run_pure];exact⟨rfl,rfl⟩)
  |(simp[binOp,he'])
theorem Uc{op:BinOp}{t t2:TypeId}{x y:Operand}(h:cu P bn ⟨dst,.binOp op t x y t2,ty,pos,after,guard⟩ T H id k=true):
  QS P ⟨dst,.binOp op t x y t2,ty,pos,after,guard⟩ T H id k:=by
 simp only[cu]at h;obtain⟨xv,h1,e1,r1⟩:=bR h;obtain⟨yv,h2,e2,r2⟩:=bR h1;unfold rM at h2;split at h2
 .rename_i kd a kd' b
  have ints:∀Z v,k v H=true->(∀w,∃Y,(binOp op t (.int kd a) (.int kd' b)).run P w= .ok Y w∧∀ι,VR ι v Y)->Z=v->QS P ⟨dst,.binOp op t x y t2,ty,pos,after,guard⟩ T H id k:=λ Z v hk hv _=>by
   refine gM hk λ ι ac w ht=>?_;have hr:=r1 ι ac ht;have hi:=r2 ι ac ht;generalize hx:ac.eval x=X at hr;generalize hy:ac.eval y=Y at hi;cases hr;cases hi;obtain⟨Z,hz,s⟩:=hv w;exact⟨Z,by simp only[Gives,execOp,hx,hy,Sem.run_bind,Oz,Result.andThen_ok,hz,Sem.run_pure],s ι⟩
  split at h2
  .obtain⟨v,hk,hv⟩:=Et (P:=P) (kd':=kd') h2
   exact ints v v hk (λ w=>by simpa using hv t w) rfl
  .obtain⟨v,hk,hv⟩:=Et (P:=P) (kd':=kd') h2
   exact ints v v hk (λ w=>by simpa using hv t w) rfl
  .rename_i n1 n2
   split at h2
   .rename_i hkk
    subst hkk;obtain⟨v,hk,hv⟩:=Ri (P:=P) h2 ⟨λ h=>n1 h,λ h=>n2 h⟩;exact ints v v hk (λ w=>hv t w) rfl
   .cases h2
 .obtain⟨v,hk,hv⟩:=Rj (P:=P) h2
  refine gM hk λ ι ac w ht=>?_;have hr:=r1 ι ac ht;have hi:=r2 ι ac ht;obtain⟨Z,hz,s⟩:=hv ι t w _ _ hr hi;generalize hx:ac.eval x=X at hr hz;generalize hy:ac.eval y=Y at hi hz;cases hr;cases hi;exact⟨Z,by simp only[Gives,execOp,hx,hy,Sem.run_bind,OA,Result.andThen_ok,hz,Sem.run_pure],s⟩
 .rename_i n1 n2
  split at h2
  .cases hg:rM.wC P t x y xv yv with
   |false=>rw[hg]at h2;exact Bool.noConfusion h2
   |true=>
    rw[hg]at h2;simp only[cond_true]at h2;split at h2
    .rename_i r hr0
     refine gM h2 λ ι ac w ht=>⟨.bool r,?_,.bool r⟩;obtain⟨p1,p2⟩:=Mj (r1 ι ac ht) (r2 ι ac ht) hr0 (λ _ _ _ _ p q=>n1 _ _ _ _ p q) (λ _ _ p q=>n2 _ _ p q) w;simp only[Gives,execOp,Sem.run_bind,Jz (r1 ι ac ht) (r2 ι ac ht) hg,Result.andThen_ok,p1,Sem.run_pure]
    .cases h2
  .cases hg:rM.wC P t x y xv yv with
   |false=>rw[hg]at h2;exact Bool.noConfusion h2
   |true=>
    rw[hg]at h2;simp only[cond_true]at h2;split at h2
    .rename_i r hr0
     refine gM h2 λ ι ac w ht=>⟨.bool (!r),?_,.bool (!r)⟩;obtain⟨p1,p2⟩:=Mj (r1 ι ac ht) (r2 ι ac ht) hr0 (λ _ _ _ _ p q=>n1 _ _ _ _ p q) (λ _ _ p q=>n2 _ _ p q) w;simp only[Gives,execOp,Sem.run_bind,Jz (r1 ι ac ht) (r2 ι ac ht) hg,Result.andThen_ok,p2,Sem.run_pure]
    .cases h2
  .cases h2
theorem Vp{op:UnOp}{t:TypeId}{x:Operand}(h:cu P bn ⟨dst,.unOp op t x,ty,pos,after,guard⟩ T H id k=true):
  QS P ⟨dst,.unOp op t x,ty,pos,after,guard⟩ T H id k:=by
 simp only[cu]at h;obtain⟨xv,h1,e1,r1⟩:=bR h;unfold Rk at h1;split at h1
 .rename_i kd n
  rw[pU,oW]at h1;refine gM h1 λ ι ac w ht=>⟨.int kd (kd.wrap (0-n)),?_,.int _ _⟩;have hr:=r1 ι ac ht;generalize hx:ac.eval x=X at hr;cases hr;simp[Gives,execOp,hx,Op.unary,Op.intArith]
 .rename_i b
  refine gM h1 λ ι ac w ht=>⟨.bool (!b),?_,.bool _⟩;have hr:=r1 ι ac ht;generalize hx:ac.eval x=X at hr;cases hr;simp[Gives,execOp,hx,Op.unary]
 .cases h1
end
end Go.cK
end
