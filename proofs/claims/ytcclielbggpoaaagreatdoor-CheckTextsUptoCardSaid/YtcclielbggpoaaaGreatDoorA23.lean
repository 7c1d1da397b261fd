/- Part of the proof of CheckTexts (see the last text). -/
import Derived.Laws.IdiomCopy
import Derived.Lib.Builder
import Derived.Test.YtcclielbggpoaaaGreatDoorA22
set_option linter.all false
section
namespace Go.cK
section
variable {P:Program} {T:Te} {H:Hp} {id:Nat} {k:AV->Hp->Bool}
variable {dst:Option Tmp} {ty:TypeId} {pos:String} {after:Array Edge} {guard:Option (Nat×Bool)}
theorem vC:∀{l:List AV}{acc:List Nat}{kk:AV->Bool},nM.tq bn l acc kk=true->
  ∃bs:List Nat,l=bs.map (λ b=>AV.int .u8 (.ofNat b))∧(∀b∈bs,b<256)∧kk (.str (acc.reverse++bs))=true
 |[],acc,kk,h=>⟨[],rfl,by simp,by simpa[nM.tq,lJ]using h⟩
 | .int .u8 (.ofNat b)::l,acc,kk,h=>by
   simp only[nM.tq]at h;cases hc:Nat.blt b 256 with
   |false=>rw[hc]at h;exact Bool.noConfusion h
   |true=>
    rw[hc]at h;rw[Nat.blt_eq]at hc;obtain⟨bs,h1,h2,h3⟩:=vC h;exact⟨b::bs,by simp[h1],by simpa[hc]using h2,by simpa using h3⟩
theorem foldl_push:∀(ns:List Nat)(s:ByteArray),(ns.foldl (λ r n=>r.push (UInt8.ofNat n)) s).data.toList=s.data.toList++ns.map UInt8.ofNat
 |[],s=>by simp
 |n::ns,s=>by
  simp only[List.foldl_cons];rw[foldl_push ns];simp[ByteArray.push]
theorem JA{src dt:TypeId}{x:AV}{kk:AV->Bool}(h:nM P bn src dt x H kk=true):
  ∃v,kk v=true∧∀ι n w X,Rel ι H n w->VR ι x X->∃y,(convert src dt X).run P w= .ok y w∧VR ι v y:=by
 unfold nM at h;split at h
 .rename_i d kd kx nn hs hd
  rw[pU,oW]at h;refine⟨_,h,λ ι n w X hr hX=>?_⟩;cases hX;exact⟨.int kd (kd.wrap nn),by simp[convert,run_underlying hs,run_underlying hd,Conv.intToInt],.int _ _⟩
 .rename_i s hs hd
  refine⟨_,h,λ ι n w X hr hX=>?_⟩;cases hX;rename_i st;exact⟨.string st,by simp[convert,run_underlying hs,run_underlying hd],.str _⟩
 .rename_i e hs hd
  split at h
  .rename_i he
   split at h
   .refine⟨_,h,λ ι n w X hr hX=>?_⟩
    cases hX;refine⟨.string .empty,?_,?_⟩
    .rw[run_convert_bytes_string w src dt e _ _ _ hs he hd];simp[Conv.bytesToString]
    .exact VR.str (ι:=ι) ByteArray.empty
   .rename_i b off nn sz cap
    cases hsz:Nat.beq sz 1 with
    |false=>rw[hsz]at h;exact Bool.noConfusion h
    |true=>
     rw[hsz]at h;simp only[cond_true]at h;split at h
     .rename_i el c cn sp fz hb
      obtain⟨l,h1,h2,h3,h4⟩:=mW _ _ _ _ _ h;rw[List.append_nil]at h1;obtain⟨bs,e1,e2,e3⟩:=vC h1;refine⟨_,e3,λ ι n w X hr hX=>?_⟩;have hlen:bs.length=nn:=by rw[<-h3,e1];simp
      have fin:∀κ δ C cc (a:Addr),ι b=some (κ,δ,C)->(cc=0∨a=⟨κ,δ+off,none⟩)->nn≤cc->∃y,(convert src dt (.slice (some a) nn cc)).run P w= .ok y w∧VR ι (.str ([].reverse++bs)) y:=λ κ δ C cc a z ha hle=>by
       obtain⟨arr,el,fr,g1,g2,g3,g4,g5,g6⟩:=hr.ob b _ _ _ _ hb z;have hload:(loadCells a nn).run P w= .ok (((bs.map Int.ofNat).map (Value.int .u8)).toArray) w:=by
        rcases Nat.eq_zero_or_pos nn with h0|h0
        .have:bs=[]:=List.eq_nil_of_length_eq_zero (by omega)
         subst this;subst h0;simp[loadCells,loadCellsFrom]
        .have had:a=⟨κ,δ+off,none⟩:=by
          rcases ha with h|h
          .omega
          .exact h
         subst had;have hl2:((bs.map Int.ofNat).map (Value.int .u8)).length=nn:=by simp[hlen]
         rw[<-hl2];refine run_loadCells_list w _ _ λ j v hv=>?_;have hj:j<nn:=by rw[<-hl2];exact(List.getElem?_eq_some_iff.1 hv).1
         obtain⟨u,hu1,hu2⟩:=h4 j hj;obtain⟨_,_,y,hy1,hy2⟩:=g5 _ _ hu2;rw[addr_add];rw[e1]at hu1;simp at hu1 hv;obtain⟨b1,hb1,rfl⟩:=hu1;obtain⟨b2,hb2,rfl⟩:=hv;rw[hb1]at hb2;cases hb2;cases hy2;exact cell_of g1 (by rw[Nat.add_assoc];exact hy1)
       refine⟨.string (bs.foldl (λ r n=>r.push (UInt8.ofNat n)) ByteArray.empty),?_,?_⟩
       .rw[run_convert_bytes_string w src dt e _ _ _ hs he hd,run_bytesToString w a nn cc _ hload]
        congr 2;rw[List.foldl_map];rfl
       .have hv:=VR.str (ι:=ι) (bs.foldl (λ r n=>r.push (UInt8.ofNat n)) ByteArray.empty)
        rw[foldl_push]at hv;have:(ByteArray.empty.data.toList++bs.map UInt8.ofNat).map UInt8.toNat=[].reverse++bs:=by
         simp only[List.map_append,List.map_map,List.reverse_nil,List.nil_append];show []++bs.map (UInt8.toNat∘UInt8.ofNat)=bs;rw[List.nil_append];clear h1 e1 e3 h3 hlen hload hv;induction bs with
         |nil=>rfl
         |cons b bs ih=>
          simp only[List.map_cons,Function.comp_apply];rw[ih (λ c hc=>e2 c (List.mem_cons_of_mem _ hc))];congr 1;have:=e2 b (List.mem_cons_self ..);simp[UInt8.toNat_ofNat'];omega
        rw[<-this];exact hv
      cases hX with
      |full z hl hc ha=>exact fin _ _ _ _ _ z ha hl
      |exact z hl hc ha=>exact fin _ _ _ _ _ z ha hl
     .cases h
   .cases h
  .cases h
 .rename_i t b off hs hd
  split at h
  .rename_i sz el c m sp fz ht hb
   cases hc:Nat.blt off m with
   |false=>rw[hc]at h;exact Bool.noConfusion h
   |true=>
    rw[hc]at h;have hc:off<m:=by simpa[Nat.blt_eq]using hc
    refine⟨_,h,λ ι n w X hr hX=>?_⟩;cases hX with
    |ptr _ z=>
     rename_i κ δ C;obtain⟨arr,elem,fr,g1,g2,g3,g4,g5,g6,g7⟩:=hr.ob b _ _ _ _ hb z;unfold fD at ht;cases hi:P.info? t with
     |none=>simp[hi]at ht
     |some j=>
      simp[hi]at ht;exact⟨_,Lib.run_to_unsafe w ⟨κ,δ+off,none⟩ hs hd hi (by omega) (show w.shape? κ=some (elem,arr.size) by simp[World.shape?,g1]) (by show δ+off<arr.size;omega),.ptr off z⟩
  .cases h
 .rename_i u b off hs hd
  split at h
  .rename_i sz e c m fz ht hb
   cases hc:liesAt P P.depth e (m/P.cellsOf e) off u 1 with
   |false=>rw[hc]at h;exact Bool.noConfusion h
   |true=>
    rw[hc]at h;refine⟨_,h,λ ι n w X hr hX=>?_⟩;cases hX with
    |ptr _ z=>
     rename_i κ δ C;obtain⟨arr,elem,fr,g1,g2,g3,g4,g5,g6,g7⟩:=hr.ob b _ _ _ _ hb z;obtain⟨rfl,rfl⟩:=g7 e rfl;have hm:=g4 rfl;unfold fD at ht;cases hi:P.info? u with
     |none=>simp[hi]at ht
     |some j=>
      exact⟨_,Lib.run_from_unsafe w ⟨κ,0+off,none⟩ hs hd hi (show w.shape? κ=some (elem,arr.size) by simp[World.shape?,g1]) (by
       have:arr.size=m:=by omega
       rw[this];simpa using hc),.ptr off z⟩
  .cases h
 .cases h
theorem OB{s d:TypeId}{x:Operand}(h:cu P bn ⟨dst,.convert s d x,ty,pos,after,guard⟩ T H id k=true):
  QS P ⟨dst,.convert s d x,ty,pos,after,guard⟩ T H id k:=by
 simp only[cu]at h;obtain⟨xv,h1,e1,r1⟩:=bR h;obtain⟨v,h2,r2⟩:=JA h1;refine ze h2 rfl λ ι a n w hr ht=>?_;obtain⟨y,hy,z⟩:=r2 ι n w _ hr (r1 ι a ht);exact⟨y,by simp[Gives,execOp,hy],z⟩
theorem xZ{w:World}{g:Field->PUnit->Sem (ForInStep PUnit)}:∀{fs:List Field},(∀f∈fs,(g f ⟨⟩).run P w= .ok (.yield ⟨⟩) w)->(forIn fs PUnit.unit g).run P w= .ok ⟨⟩ w
 |[],_=>by simp
 |f::fs,h=>by
  simp only[List.forIn_cons,Sem.run_bind,h f (List.mem_cons_self ..),Result.andThen_ok];exact xZ λ f hf=>h f (List.mem_cons_of_mem _ hf)
theorem Bl{ι:Pl}{rec:TypeId->AV->Bool}{n:Nat}{e:Bool}{cs:List AV}{arr:Array Value}{w:World}
  (hrec:∀t v X,rec t v=true->VR ι v X->(Instr.checkKey e n t X).run P w= .ok () w)(hl:dV ι cs arr.toList)(h1:∀c∈cs,c.one=true):
  ∀{fs:List Field},CF P rec cs fs=true->∀f∈fs,f.name≠ "_"∧∃y,(part f.type arr f.offset).run P w= .ok y w∧(Instr.checkKey e n f.type y).run P w= .ok () w
 |[],_,f,hf=>by cases hf
 |f::fs,h,f',hf'=>by
  unfold CF at h;rw[Bool.and_eq_true,Bool.and_eq_true]at h;obtain⟨⟨hn,hp⟩,ht⟩:=h;cases hf' with
  |tail _ hf'=>exact Bl hrec hl h1 ht f' hf'
  |head=>
   refine⟨by simpa using hn,?_⟩
   have step:∀v,((∃s,iE P f.type=some true∧fD P f.type=some s∧v= .agg ((cs.drop f.offset).take s))∨(iE P f.type=some false∧cs[f.offset]? =some v))->rec f.type v=true->
     ∃y,(part f.type arr f.offset).run P w= .ok y w∧(Instr.checkKey e n f.type y).run P w= .ok () w:=λ v hv hr=>by
    obtain⟨y,hy,z⟩:=DX (w:=w) hl h1 hv;exact⟨y,hy,hrec _ _ _ hr z⟩
   split at hp
   .rename_i ha
    split at hp
    .rename_i x hx
     exact step x (.inr ⟨ha,hx⟩) hp
    .cases hp
   .rename_i ha
    split at hp
    .rename_i s hs
     exact step _ (.inl ⟨s,ha,hs,rfl⟩) hp
    .cases hp
   .cases hp
theorem qL{ι:Pl}{e:Bool}:∀(d:Nat){t:TypeId}{v:AV}{X:Value}{n:Nat}{w:World},rO P d t v=true->VR ι v X->d≤n->(Instr.checkKey e n t X).run P w= .ok () w
 |0,t,v,X,n,w,h,_,_=>by cases h
 |d+1,t,v,X,n,w,h,hv,hn=>by
  obtain⟨m,rfl⟩:∃m,n=m+1:=⟨n-1,by omega⟩;unfold rO at h;split at h
  .rename_i hu;cases hv;simp[Instr.checkKey,run_underlying hu]
  .rename_i hu;cases hv;simp[Instr.checkKey,run_underlying hu]
  .rename_i hu;cases hv;simp[Instr.checkKey,run_underlying hu]
  .rename_i fields cs hu
   rw[Bool.and_eq_true]at h;cases hv with
   |agg hl h1=>
    have hp:=Bl (P:=P) (ι:=ι) (n:=m) (e:=e) (w:=w) (λ t v X h hX=>qL d h hX (by omega)) hl h1 h.1;simp only[Instr.checkKey,Sem.run_bind,run_underlying hu,Result.andThen_ok];rw[<-Array.forIn_toList];rw[xZ (P:=P) (w:=w)]
    .rfl
    .intro f hf
     obtain⟨hn',y,hy,hc⟩:=hp f hf;simp[hn',hy,hc]
  .cases h
def rP:AV->Bool| .bool _| .int _ _| .str _=>true|_=>false
theorem zO{ι:Pl}{v:AV}{X Y:Value}(h:rP v=true)(hX:VR ι v X)(hY:VR ι v Y):X=Y:=by
 cases hX<;>simp[rP]at h
 .cases hY;rfl
 .cases hY;rfl
 .rename_i s
  generalize hv:s.data.toList.map UInt8.toNat=l at hY;cases hY;rename_i s';have:=toNat_inj hv;congr 1;cases s;cases s';simp at this;rw[this]
theorem JB{ι:Pl}:∀{cs:List AV}{xs ys:List Value},(∀c∈cs,rP c=true)->dV ι cs xs->dV ι cs ys->xs=ys
 |[],_,_,_,.nil,.nil=>rfl
 |c::cs,_,_,h,.cons hx tx,.cons hy ty=>by
  rw[zO (h c (List.mem_cons_self ..)) hx hy,JB (λ c hc=>h c (List.mem_cons_of_mem _ hc)) tx ty]
def zP:AV->Bool
 | .agg cs=>cs.all rP
 |v=>rP v
theorem Eu{d:Nat}{t:TypeId}{v:AV}(h:rO P d t v=true):zP v=true:=by
 cases d with
 |zero=>cases h
 |succ d=>
  unfold rO at h;split at h
  .rfl
  .rfl
  .rfl
  .rw[Bool.and_eq_true]at h
   simp only[zP];have:=h.2;rw[List.all_eq_true]at this|-
   intro c hc;have:=this c hc;revert this;cases c<;>simp[rP]
  .cases h
theorem Rl{ι:Pl}{v:AV}{X Y:Value}(h:zP v=true)(hX:VR ι v X)(hY:VR ι v Y):X=Y:=by
 cases hX with
 |agg hl h1=>
  cases hY with
  |agg hl' h1'=>
   simp only[zP,List.all_eq_true]at h;have:=JB h hl hl';congr 1;exact Array.toList_inj.1 this
 |bool=>exact zO (v:= .bool _) h (.bool _) hY
 |int=>exact zO (v:= .int _ _) h (.int _ _) hY
 |str s=>exact zO (v:= .str _) h (.str s) hY
 |oM=>cases h
 |ptr=>cases h
 |bF=>cases h
 |full=>cases h
 |exact=>cases h
 |oN=>cases h
 |map=>cases h
 |func=>cases h
 |qV=>cases h
 |iface=>cases h
 |oZ=>cases h
 |tuple=>cases h
theorem ER.nil{ι:Pl}:ER ι [] []:=⟨.nil,.nil⟩
theorem ER.length{ι:Pl}{l:List (AV×AV)}{es:List MapEntry}(h:ER ι l es):l.length=es.length:=by simpa using h.1.length
noncomputable def mpos(P:Program)(kt:TypeId)(key:AV):List (AV×AV)->Option (Option Nat)
 |[]=>some none
 |e::es=>match Dr P 8 kt key e.1 with
  |some true=>some (some 0)
  |some false=>(mpos P kt key es).map (Option.map (· +1))
  |none=>none
theorem yc{ι:Pl}{kt:TypeId}{key:AV}{X:Value}{w:World}(hX:VR ι key X):∀{l:List (AV×AV)}{es:List MapEntry}{r:Option AV}(i:Nat),ER ι l es->vD P kt key l=some r->
  ∃x,(Instr.findAsking kt X es i).run P w= .ok x w∧((r=none∧x=none)∨∃v j e,r=some v∧x=some (i+j,e.val)∧es[j]? =some e∧VR ι v e.val∧mpos P kt key l=some (some j))
 |[],[],r,i,_,h=>by cases h;exact⟨none,by simp[Instr.findAsking],.inl ⟨rfl,rfl⟩⟩
 |[],_::_,r,i,he,h=>by have:=he.length;simp at this
 |_::_,[],r,i,he,h=>by have:=he.length;simp at this
 |p::l,e::es,r,i,he,h=>by
  obtain⟨hk,hv⟩:=he;cases hk with
  |cons hk hks=>
   cases hv with
   |cons hv hvs=>
    unfold vD at h;split at h
    .rename_i hq
     cases h;have hb:=wL 8 hq ι 10000 w X e.key (by decide) hX hk;exact⟨some (i,e.val),by simp only[Instr.findAsking,Sem.run_bind,Op.equal,Op.maxDepth,hb,Result.andThen_ok,if_true,Sem.run_pure],.inr ⟨p.2,0,e,rfl,rfl,rfl,hv,by simp[mpos,hq]⟩⟩
    .rename_i hq
     have hb:=wL 8 hq ι 10000 w X e.key (by decide) hX hk;obtain⟨x,h1,h2⟩:=yc (w:=w) hX (i+1) ⟨hks,hvs⟩ h;refine⟨x,by simp only[Instr.findAsking,Sem.run_bind,Op.equal,Op.maxDepth,hb,Result.andThen_ok,Bool.false_eq_true,if_false];exact h1,?_⟩;rcases h2 with h2|⟨v,j,e',a,b,c,d⟩
     .exact .inl h2
     .exact .inr ⟨v,j+1,e',a,by rw[b];congr 2;omega,by simpa using c,d.1,by simp[mpos,hq,d.2]⟩
    .cases h
theorem Ev{ι:Pl}{kt:TypeId}{key k2:AV}{X Y:Value}{w:World}{desc:TypeDesc}{b r:Bool}(hu:P.underlying kt=some desc)(hX:VR ι key X)(hY:VR ι k2 Y)
  (hq:Dr P 8 kt key k2=some b)(hs:Instr.sameNow desc X Y=some r):r=b:=by
 have h:=wL 8 hq ι 10000 w X Y (by decide) hX hY;unfold Instr.sameNow at hs;split at hs
 .split at hs
  .rename_i hk;subst hk
   cases hs;rw[run_equalIn_int w 9999 kt _ _ _ _ hu]at h;cases h;rfl
  .cases hs
 .cases hs
  rw[run_equalIn_string w 9999 kt _ _ hu]at h;cases h;exact beq_toListBytes _ _
 .cases hs
  rw[run_equalIn_bool w 9999 kt _ _ hu]at h;cases h;rfl
 .cases hs
theorem findNow_spec{ι:Pl}{kt:TypeId}{key:AV}{X:Value}{w:World}{desc:TypeDesc}(hu:P.underlying kt=some desc)(hX:VR ι key X):
  ∀{l:List (AV×AV)}{es:List MapEntry}{r:Option AV}{x:Option (Nat×Value)}(i:Nat),ER ι l es->vD P kt key l=some r->Instr.findNow desc X es i=some x->
  (r=none∧x=none)∨∃v j e,r=some v∧x=some (i+j,e.val)∧es[j]? =some e∧VR ι v e.val∧mpos P kt key l=some (some j)
 |[],[],r,x,i,_,h,hf=>by cases h;simp[Instr.findNow]at hf;exact .inl ⟨rfl,hf.symm⟩
 |[],_::_,r,x,i,he,h,hf=>by have:=he.length;simp at this
 |_::_,[],r,x,i,he,h,hf=>by have:=he.length;simp at this
 |p::l,e::es,r,x,i,he,h,hf=>by
  obtain⟨hk,hv⟩:=he;cases hk with
  |cons hk hks=>
   cases hv with
   |cons hv hvs=>
    unfold Instr.findNow at hf;unfold vD at h;split at hf
    .rename_i hs
     cases hf;split at h
     .rename_i hq;cases h;exact .inr ⟨p.2,0,e,rfl,rfl,rfl,hv,by simp[mpos,hq]⟩
     .rename_i hq;have:=Ev (w:=w) hu hX hk hq hs;cases this
     .cases h
    .rename_i hs
     split at h
     .rename_i hq;have:=Ev (w:=w) hu hX hk hq hs;cases this
     .rename_i hq
      rcases findNow_spec (w:=w) hu hX (i+1) ⟨hks,hvs⟩ h hf with h2|⟨v,j,e',a,b,c,d⟩
      .exact .inl h2
      .exact .inr ⟨v,j+1,e',a,by rw[b];congr 2;omega,by simpa using c,d.1,by simp[mpos,hq,d.2]⟩
     .cases h
    .cases hf
theorem rQ{ι:Pl}{kt:TypeId}{key:AV}{X:Value}{w:World}(hX:VR ι key X)(hk:rO P 8 kt key=true){l:List (AV×AV)}{es:List MapEntry}{r:Option AV}
  (he:ER ι l es)(h:vD P kt key l=some r):
  ∃x,(Instr.findKey kt X es).run P w= .ok x w∧((r=none∧x=none)∨∃v j e,r=some v∧x=some (j,e.val)∧es[j]? =some e∧VR ι v e.val∧mpos P kt key l=some (some j)):=by
 have hd:∃desc,P.underlying kt=some desc:=by
  cases hu:P.underlying kt with
  |some d=>exact⟨d,rfl⟩
  |none=>simp[rO,hu]at hk
 obtain⟨desc,hu⟩:=hd;cases hf:Instr.findNow desc X es 0 with
 |some x=>
  refine⟨x,by simp[Instr.findKey,run_underlying hu,hf],?_⟩;simpa using findNow_spec (w:=w) hu hX 0 he h hf
 |none=>
  obtain⟨x,h1,h2⟩:=yc (w:=w) hX 0 he h;exact⟨x,by simp[Instr.findKey,run_underlying hu,hf,h1],by simpa using h2⟩
theorem Dt{kt et:TypeId}{key:AV}{ok:Bool}{es:List (AV×AV)}{kk:AV->Bool}(h:Ew P bn kt et key ok es kk=true):
  ∃v,kk v=true∧∀ι w K (arr:List MapEntry),VR ι key K->ER ι es arr->∃y,VR ι v y∧(Instr.checkKey arr.isEmpty 10000 kt K).run P w= .ok () w∧
   ∃x,(Instr.findKey kt K arr).run P w= .ok x w∧((∃i u,x=some (i,u)∧y=(if ok then .tuple #[u,.bool true]else u))∨
    (x=none∧∃z,(zeroValue et).run P w= .ok z w∧y=(if ok then .tuple #[z,.bool false]else z))):=by
 unfold Ew at h;cases hk:rO P 8 kt key with
 |false=>rw[hk]at h;exact Bool.noConfusion h
 |true=>
  rw[hk]at h;simp only[cond_true]at h;split at h
  .rename_i v hm
   refine⟨_,h,λ ι w K arr hK he=>?_⟩;obtain⟨x,hx,h2⟩:=rQ (w:=w) hK hk he hm;rcases h2 with⟨h2,_⟩|⟨v',j,e,a,b,c,d⟩
   .cases h2
   .cases a
    refine⟨if ok then .tuple #[e.val,.bool true]else e.val,?_,qL 8 hk hK (by decide),x,hx,.inl ⟨j,e.val,b,rfl⟩⟩;cases ok
    .exact d.1
    .exact .tuple (.cons d.1 (.cons (.bool _) .nil))
  .rename_i hm
   split at h
   .rename_i z hz
    obtain⟨s,hz1,hz2⟩:=wM hz;refine⟨_,h,λ ι w K arr hK he=>?_⟩;obtain⟨x,hx,h2⟩:=rQ (w:=w) hK hk he hm;rcases h2 with⟨_,h2⟩|⟨v',j,e,a,b,c,d⟩
    .refine⟨if ok then .tuple #[s,.bool false]else s,?_,qL 8 hk hK (by decide),x,hx,.inr ⟨h2,s,hz1 w,rfl⟩⟩
     cases ok
     .exact hz2 ι
     .exact .tuple (.cons (hz2 ι) (.cons (.bool _) .nil))
    .cases a
   .cases h
  .cases h
theorem zQ{r:Nat}{w:World}{arr:Array MapEntry}{clock:Nat}(hw:w.heap[r]? =some (.map arr clock)):(getObj r).run P w= .ok (.map arr clock) w:=by
 simp only[getObj,Sem.run,hw]
theorem Ey{t kt et:TypeId}{ok:Bool}{w:World}{X K y:Value}{arr:Array MapEntry}(hu:P.underlying t=some (.map kt et))
  (hX:(X= .map none∧arr= #[])∨∃r clock,X= .map (some r)∧w.heap[r]? =some (.map arr clock))(h2:(Instr.checkKey arr.toList.isEmpty 10000 kt K).run P w= .ok () w)
  (h3:∃x,(Instr.findKey kt K arr.toList).run P w= .ok x w∧((∃i u,x=some (i,u)∧y=(if ok then .tuple #[u,.bool true]else u))∨
     (x=none∧∃z,(zeroValue et).run P w= .ok z w∧y=(if ok then .tuple #[z,.bool false]else z)))):(Instr.lookup t X K ok).run P w= .ok y w:=by
 obtain⟨x,h3,h4⟩:=h3;have he:arr.isEmpty=arr.toList.isEmpty:=by simp
 rcases hX with⟨rfl,rfl⟩|⟨r,clock,rfl,hw⟩
 .simp only[Instr.lookup,Sem.run_bind,run_underlying hu,Result.andThen_ok,Sem.run_pure,he,h2,h3]
  rcases h4 with⟨i,u,rfl,rfl⟩|⟨rfl,z,hz,rfl⟩
  .simp
  .simp[hz]
 .simp only[Instr.lookup,Sem.run_bind,run_underlying hu,Result.andThen_ok,zQ hw,Sem.run_pure,he,h2,h3]
  rcases h4 with⟨i,u,rfl,rfl⟩|⟨rfl,z,hz,rfl⟩
  .simp
  .simp[hz]
theorem Lj{t:TypeId}{x key:AV}{ok:Bool}{kk:AV->Bool}(h:zR P bn t x key ok H kk=true):
  ∃v,kk v=true∧∀ι n w X K,Rel ι H n w->VR ι x X->VR ι key K->∃y,(Instr.lookup t X K ok).run P w= .ok y w∧VR ι v y:=by
 unfold zR at h;split at h
 .rename_i kt et hu
  split at h
  .obtain⟨v,h1,h2⟩:=Dt h
   refine⟨v,h1,λ ι n w X K hr hX hK=>?_⟩;cases hX;obtain⟨y,hy,hc,hf⟩:=h2 ι w K [] hK .nil;exact⟨y,Ey (arr:= #[]) hu (.inl ⟨rfl,rfl⟩) hc hf,hy⟩
  .rename_i b
   split at h
   .rename_i es ver hb
    obtain⟨v,h1,h2⟩:=Dt h;refine⟨v,h1,λ ι n w X K hr hX hK=>?_⟩;cases hX with
    |map s=>
     rename_i κ δ C;obtain⟨arr,clock,g1,g2⟩:=hr.ob b _ _ _ _ hb s;obtain⟨y,hy,hc,hf⟩:=h2 ι w K arr.toList hK g2.entries;exact⟨y,Ey hu (.inr ⟨κ,clock,rfl,g1⟩) hc hf,hy⟩
   .cases h
  .cases h
 .cases h
theorem Rm{t:TypeId}{x i:Operand}{ok:Bool}(h:cu P bn ⟨dst,.lookup t x i ok,ty,pos,after,guard⟩ T H id k=true):
  QS P ⟨dst,.lookup t x i ok,ty,pos,after,guard⟩ T H id k:=by
 simp only[cu]at h;obtain⟨xv,h1,e1,r1⟩:=bR h;obtain⟨iv,h2,e2,r2⟩:=bR h1;obtain⟨v,h3,r3⟩:=Lj h2;refine ze h3 rfl λ ι a n w hr ht=>?_;obtain⟨y,hy,s⟩:=r3 ι n w _ _ hr (r1 ι a ht) (r2 ι a ht);exact⟨y,by simp[Gives,execOp,hy],s⟩
end
end Go.cK
end
section
namespace Go.cK
section
variable {P:Program} {T:Te} {H:Hp} {id:Nat} {k:AV->Hp->Bool}
theorem Bn:∀{o:Oper},cu P bn o T H id k=true->QS P o T H id k
 |⟨dst,op,ty,pos,after,guard⟩,h=>by
  cases op with
  |move x=>exact Vq (by simpa only[cu]using h)
  |assign x=>exact Rn (by simpa only[cu]using h)
  |pick c a b=>exact Vr h
  |alloc t=>exact Ud h
  |box t x=>exact X3 h
  |build t ps=>exact Ue h
  |buildSlice t l ps=>exact JC h
  |load t a=>exact Vs h
  |nilCheck x=>exact M6 h
  |binOp op t x y t2=>exact Uc h
  |unOp op t x=>exact Vp h
  |convert s d x=>exact OB h
  |makeInterface t x=>exact Ez h
  |makeFunc f xs ys=>exact M7 h
  |makeMap t r=>exact OC h
  |makeSlice t l c=>exact Ll h
  |slice t x lo hi mx=>exact Ub h
  |fieldAddr t x f=>exact Lm h
  |field t x f=>exact Uf h
  |indexAddr t x i=>exact Lg h
  |index t x i=>exact Ua h
  |lookup t x i ok=>exact Rm h
  |extract x i=>exact OD h
  |call c=>
   obtain⟨callee,args,tys⟩:=c;cases callee with
   |builtin b=>cases b<;>first
    |exact q_len h
    |exact XW h
    |exact XY h
    |exact Bool.noConfusion h
   |_=>exact Bool.noConfusion h
  |_=>exact Bool.noConfusion h
end
end Go.cK
end
section
namespace Go.cK
section
variable {β:Type} {P:Program} {fl:String->β} {alt:List β->β} {T T':Te} {H:Hp} {id:Nat}
theorem bN{x:Operand}(h:∀t,x= .tmp t->T.get t=T'.get t):eZ fl T x=eZ fl T' x:=by
 funext k;cases x with
 |tmp t=>simp only[eZ,h t rfl]
 |_=>rfl
theorem rR:∀{l:List Operand},(∀t,Operand.tmp t∈l->T.get t=T'.get t)->qz fl T l=qz fl T' l
 |[],_=>rfl
 |x::l,h=>by
  funext k;simp only[qz];rw[bN λ t ht=>h t (by rw[ht];simp),rR λ t ht=>h t (by simp[ht])]
theorem zS:∀{l:List (Nat×Operand)},(∀t,Operand.tmp t∈l.map (·.2)->T.get t=T'.get t)->wO fl T l=wO fl T' l
 |[],_=>rfl
 |(i,x)::l,h=>by
  funext k;simp only[wO];rw[bN λ t ht=>h t (by rw[ht];simp),zS λ t ht=>h t (List.mem_cons_of_mem _ ht)]
theorem vP{x:Option Operand}(h:∀t,x=some (.tmp t)->T.get t=T'.get t):wP fl T x=wP fl T' x:=by
 funext k;cases x with
 |none=>rfl
 |some x=>simp only[wP];rw[bN λ t ht=>h t (by rw[ht])]
theorem Bo{o:Oper}{k:AV->Hp->β}(h:∀t,Operand.tmp t∈o.op.operands->T.get t=T'.get t):cu P fl o T H id k=cu P fl o T' H id k:=by
 obtain⟨dst,op,ty,pos,after,guard⟩:=o;cases op with
 |call c=>
  obtain⟨callee,args,tys⟩:=c;cases callee with
  |builtin b=>
   have ha:∀l:List Operand,(∀x∈l,x∈args)->qz fl T l=qz fl T' l:=λ l hl=>rR λ t ht=>h t (by simp[Op.operands,Call.operands];exact hl _ ht);cases b<;>simp only[cu]
   .split
    .rename_i x hx
     rw[bN λ t ht=>h t (by simp[Op.operands,Call.operands];rw[<-Array.mem_toList_iff,hx,ht];simp)]
    .rfl
   .rw[ha _ (by simp)]
   .rw[ha _ (by simp)]
  |_=>rfl
 |makeFunc f xs ys=>
  simp only[Op.operands]at h;simp only[cu];cases f<;>simp only;rw[rR λ t ht=>h t (by simp at ht|-;simp[ht]),rR λ t ht=>h t (by simp at ht|-;simp[ht])]
 |build t ps=>
  simp only[cu];rw[zS λ t ht=>h t (by simp[Op.operands]at ht|-;exact ht)]
 |buildSlice t l ps=>
  simp only[cu];rw[zS λ t ht=>h t (by simp[Op.operands]at ht|-;exact ht)]
 |makeMap t r=>
  simp only[cu];rw[vP λ t ht=>h t (by simp[Op.operands,ht])]
 |slice t x lo hi mx=>
  simp only[cu];rw[bN (x:=x) λ t ht=>h t (by simp[Op.operands,ht]),vP (x:=lo) λ t ht=>h t (by simp[Op.operands,ht]),
   vP (x:=hi) λ t ht=>h t (by simp[Op.operands,ht]),vP (x:=mx) λ t ht=>h t (by simp[Op.operands,ht])]
 |pick c a b=>
  simp only[cu];rw[bN (x:=c) λ t ht=>h t (by simp[Op.operands,ht]),bN (x:=a) λ t ht=>h t (by simp[Op.operands,ht]),bN (x:=b) λ t ht=>h t (by simp[Op.operands,ht])]
 |move x=>simp only[cu];rw[bN λ t ht=>h t (by simp[Op.operands,ht])]
 |assign x=>simp only[cu];rw[bN λ t ht=>h t (by simp[Op.operands,ht])]
 |box t x=>simp only[cu];rw[bN λ t ht=>h t (by simp[Op.operands,ht])]
 |load t x=>simp only[cu];rw[bN λ t ht=>h t (by simp[Op.operands,ht])]
 |nilCheck x=>simp only[cu];rw[bN λ t ht=>h t (by simp[Op.operands,ht])]
 |unOp p t x=>simp only[cu];rw[bN λ t ht=>h t (by simp[Op.operands,ht])]
 |convert s d x=>simp only[cu];rw[bN λ t ht=>h t (by simp[Op.operands,ht])]
 |makeInterface t x=>simp only[cu];rw[bN λ t ht=>h t (by simp[Op.operands,ht])]
 |fieldAddr t x f=>simp only[cu];rw[bN λ t ht=>h t (by simp[Op.operands,ht])]
 |field t x f=>simp only[cu];rw[bN λ t ht=>h t (by simp[Op.operands,ht])]
 |extract x i=>simp only[cu];rw[bN λ t ht=>h t (by simp[Op.operands,ht])]
 |binOp p t x y t2=>simp only[cu];rw[bN (x:=x) λ t ht=>h t (by simp[Op.operands,ht]),bN (x:=y) λ t ht=>h t (by simp[Op.operands,ht])]
 |makeSlice t x y=>simp only[cu];rw[bN (x:=x) λ t ht=>h t (by simp[Op.operands,ht]),bN (x:=y) λ t ht=>h t (by simp[Op.operands,ht])]
 |indexAddr t x y=>simp only[cu];rw[bN (x:=x) λ t ht=>h t (by simp[Op.operands,ht]),bN (x:=y) λ t ht=>h t (by simp[Op.operands,ht])]
 |index t x y=>simp only[cu];rw[bN (x:=x) λ t ht=>h t (by simp[Op.operands,ht]),bN (x:=y) λ t ht=>h t (by simp[Op.operands,ht])]
 |lookup t x y ok=>simp only[cu];rw[bN (x:=x) λ t ht=>h t (by simp[Op.operands,ht]),bN (x:=y) λ t ht=>h t (by simp[Op.operands,ht])]
 |_=>rfl
theorem Ht{call:FuncId->List AV->Hp->Nat->(AV->Hp->Nat->β)->β}{n:Nat}{o:Oper}{k:AV->Hp->Nat->β}
  (h:∀t,Operand.tmp t∈o.op.operands->T.get t=T'.get t):ji P fl alt call o T H n k=ji P fl alt call o T' H n k:=by
 obtain⟨dst,op,ty,pos,after,guard⟩:=o;cases op with
 |call c=>
  obtain⟨callee,args,tys⟩:=c;cases callee with
  |builtin b=>
   cases b<;>simp only[ji]
   .split
    .rename_i u s x h1 h2 hx
     split
     .rw[bN (x:=s) λ t ht=>h t (by simp[Op.operands,Call.operands];rw[<-Array.mem_toList_iff,hx,ht];simp),
       bN (x:=x) λ t ht=>h t (by simp[Op.operands,Call.operands];rw[<-Array.mem_toList_iff,hx,ht];simp)]
     .rw[bN (x:=s) λ t ht=>h t (by simp[Op.operands,Call.operands];rw[<-Array.mem_toList_iff,hx,ht];simp),
       bN (x:=x) λ t ht=>h t (by simp[Op.operands,Call.operands];rw[<-Array.mem_toList_iff,hx,ht];simp)]
     .rfl
    .rfl
   .split
    .rename_i x h1 hx
     split
     .rw[bN (x:=x) λ t ht=>h t (by simp[Op.operands,Call.operands];rw[<-Array.mem_toList_iff,hx,ht];simp)]
     .rfl
    .rfl
   .split
    .rename_i s x h1 hx
     rw[bN (x:=s) λ t ht=>h t (by simp[Op.operands,Call.operands];rw[<-Array.mem_toList_iff,hx,ht];simp),
      bN (x:=x) λ t ht=>h t (by simp[Op.operands,Call.operands];rw[<-Array.mem_toList_iff,hx,ht];simp)]
    .rfl
   .split
    .rename_i x hx
     rw[bN (x:=x) λ t ht=>h t (by simp[Op.operands,Call.operands];rw[<-Array.mem_toList_iff,hx,ht];simp)]
    .rfl
   .split
    .rename_i s x h1 hx
     rw[bN (x:=s) λ t ht=>h t (by simp[Op.operands,Call.operands];rw[<-Array.mem_toList_iff,hx,ht];simp),
      bN (x:=x) λ t ht=>h t (by simp[Op.operands,Call.operands];rw[<-Array.mem_toList_iff,hx,ht];simp)]
    .rfl
  |value f=>
   simp only[ji];rw[bN (x:=f) λ t ht=>h t (by simp[Op.operands,Call.operands,ht]),rR λ t ht=>h t (by simp[Op.operands,Call.operands]at ht|-;simp[ht])]
  |_=>rfl
 |store t a x=>simp only[ji];rw[bN (x:=a) λ t ht=>h t (by simp[Op.operands,ht]),bN (x:=x) λ t ht=>h t (by simp[Op.operands,ht])]
 |mapUpdate t m key x=>simp only[ji];rw[bN (x:=m) λ t ht=>h t (by simp[Op.operands,ht]),bN (x:=key) λ t ht=>h t (by simp[Op.operands,ht]),bN (x:=x) λ t ht=>h t (by simp[Op.operands,ht])]
 |insert t m key x=>simp only[ji];rw[bN (x:=m) λ t ht=>h t (by simp[Op.operands,ht]),bN (x:=key) λ t ht=>h t (by simp[Op.operands,ht]),bN (x:=x) λ t ht=>h t (by simp[Op.operands,ht])]
 |range t x=>simp only[ji];rw[bN λ t ht=>h t (by simp[Op.operands,ht])]
 |next it s=>simp only[ji];rw[bN λ t ht=>h t (by simp[Op.operands,ht])]
 |entry it=>simp only[ji];rw[bN λ t ht=>h t (by simp[Op.operands,ht])]
 |convert s d x=>simp only[ji];rw[bN λ t ht=>h t (by simp[Op.operands,ht])]
 |_=>rfl
theorem M8{ops:Array Oper}{o:Oper}{k:Bool->β}(h:∀g w d,o.guard=some (g,w)->(ops[g]?).bind (·.dst)=some d->T.get d=T'.get d):want fl ops T o k=want fl ops T' o k:=by
 unfold want;split
 .rfl
 .rename_i j w hg
  split
  .rfl
  .rename_i d hd
   rw[h j w d hg hd]
end
noncomputable def only(T:Te):List Tmp->Te
 |[]=> .nil
 |t::l=>match T.get t with
  |some v=>(only T l).put t (some v)
  |none=>only T l
theorem wQ(T:Te)(l:List Tmp)(t:Tmp):(only T l).get t=if t∈l then T.get t else none:=by
 induction l with
 |nil=>simp[only,Tr.get_nil]
 |cons x l ih=>
  unfold only;cases hx:T.get x with
  |none=>
   simp only[ih];by_cases h:t=x
   .subst h;simp[hx]
   .simp[h]
  |some v=>
   simp only[Tr.get_put,ih];by_cases h:t=x
   .subst h;simp[hx]
   .simp[h]
theorem I4{ops:Array Oper}{o:Oper}{t:Tmp}(h:Operand.tmp t∈o.op.operands):t∈looks ops o:=
 List.mem_append_left _ (List.mem_filterMap.2 ⟨.tmp t,by simpa using h,rfl⟩)
theorem Lp{ops:Array Oper}{o:Oper}{g:Nat}{w:Bool}{d:Tmp}(h:o.guard=some (g,w))(hd:(ops[g]?).bind (·.dst)=some d):d∈looks ops o:=by
 apply List.mem_append_right;simp[h,hd]
theorem oF{ops:Array Oper}{o:Oper}{T:Te}{k:Bool->Bool}(h:want bn ops T o k=true):
  ∃b,k b=true∧(∀k':Bool->Bool,want bn ops T o k'=k' b)∧∀ι a,TR ι T a->Region.wanted o (yielded ops a.tmps)=b:=by
 unfold want at h|-
 unfold Region.wanted yielded;cases hg:o.guard with
 |none=>simp only[hg]at h;exact⟨true,h,λ _=>rfl,λ _ _ _=>rfl⟩
 |some gw=>
  obtain⟨j,w⟩:=gw;simp only[hg]at h|-
  cases hd:(ops[j]?).bind (·.dst)with
  |none=>simp only[hd]at h|-;exact⟨false,h,λ _=>rfl,λ _ _ _=>rfl⟩
  |some d=>
   simp only[hd]at h|-
   cases hT:T.get d with
   |none=>simp only[hT]at h;cases h
   |some v=>
    have hev:∀ι a,TR ι T a->VR ι v (a.tmps.getD d undef):=λ ι a ht=>ht d v hT;cases v with
    |bool b=>
     simp only[hT]at h;refine⟨_,h,λ _=>rfl,λ ι a ht=>?_⟩;have h1:=hev ι a ht;cases hx:a.tmps[d]? with
     |none=>rw[Array.getD_eq_getD_getElem?,hx]at h1;cases h1
     |some x=>
      rw[Array.getD_eq_getD_getElem?,hx]at h1;simp only[Option.getD_some]at h1;cases h1;simp[hx]
    |_=>
     simp only[hT]at h;refine⟨_,h,λ _=>rfl,λ ι a ht=>?_⟩;have h1:=hev ι a ht;cases hx:a.tmps[d]? with
     |none=>simp[hx]
     |some x=>
      rw[Array.getD_eq_getD_getElem?,hx]at h1;simp only[Option.getD_some]at h1;cases h1<;>simp[hx]
end Go.cK
end
namespace Go.cK
theorem qM(κ:Nat)(elem:TypeId)(fr:Nat×Nat):∀(vs:List Value)(o:Nat)(w:World)(arr:Array Value),w.heap[κ]? =some (.cells arr elem fr)->o+vs.length≤arr.size->
  ∃arr':Array Value,(w.setCells κ o vs).heap[κ]? =some (.cells arr' elem fr)∧arr'.size=arr.size∧(∀j,arr'[j]? =if o≤j∧j<o+vs.length then vs[j-o]? else arr[j]?)∧
   (∀s,s≠κ->(w.setCells κ o vs).heap[s]? =w.heap[s]?)∧(w.setCells κ o vs).heap.size=w.heap.size∧(w.setCells κ o vs).tape=w.tape∧(w.setCells κ o vs).os=w.os∧(w.setCells κ o vs).output=w.output
 |[],o,w,arr,h,_=>⟨arr,h,rfl,λ j=>by rw[if_neg (λ h=>by simp at h;omega)],λ _ _=>rfl,rfl,rfl,rfl,rfl⟩
 |v::vs,o,w,arr,h,hs=>by
  have hlt:κ<w.heap.size:=(Array.getElem?_eq_some_iff.1 h).1;have h1:(w.setCell ⟨κ,o,none⟩ v).heap[κ]? =some (.cells (arr.setIfInBounds o v) elem fr):=by
   simp[World.setCell,Array.getElem?_modify,h]
  obtain⟨arr',a1,a2,a3,a4,a5,a6,a7,a8⟩:=qM κ elem fr vs (o+1) (w.setCell ⟨κ,o,none⟩ v) _ h1 (by simp at hs|-;omega);refine⟨arr',a1,by rw[a2];simp,λ j=>?_,λ s hne=>?_,?_,a6,a7,a8⟩
  .rw[a3]
   by_cases hj:j=o
   .subst hj
    rw[if_neg (by omega),if_pos ⟨Nat.le_refl _,by simp⟩];simp at hs;simp[show j<arr.size by omega]
   .by_cases hc:o≤j∧j<o+(v::vs).length
    .rw[if_pos hc,if_pos (by simp at hc|-;omega)]
     have:j-o=(j-(o+1))+1:=by omega
     rw[this];simp
    .rw[if_neg hc,if_neg (by simp at hc|-;omega),Array.getElem?_setIfInBounds_ne (Ne.symm hj)]
  .rw[World.setCells,a4 s hne]
   simp[World.setCell,Array.getElem?_modify,Ne.symm hne]
  .rw[World.setCells,a5]
   simp[World.setCell]
theorem Rel.write{ι:Pl}{H:Hp}{n:Nat}{w w':World}{b κ δ C:Nat}{o o':Ob}(hr:Rel ι H n w)(hb:H.get b=some o)(z:ι b=some (κ,δ,C))
  (hoth:∀s,s≠κ->w'.heap[s]? =w.heap[s]?)(hsz:w'.heap.size=w.heap.size)(ht:w'.tape=w.tape)(ho:w'.os=w.os)(hu:w'.output=w.output)
  (E:qo ι (H.put b (some o')) w' o' κ δ C)(hmap:∀es ver,o'= .map es ver->∃es0 D,o= .map es0 D∧D<ver):
  Rel ι (H.put b (some o')) n w'∧Step ι H n w ι (H.put b (some o')) n w':=by
 have hbn:b<n:=by
  rcases Nat.lt_or_ge b n with h|h
  .exact h
  .rw[(hr.fresh b h).1]at z;cases z
 have hsome:∀b',((H.put b (some o')).get b').isSome=true->(H.get b').isSome=true:=λ b' h=>by
  rw[Tr.get_put]at h;by_cases e:b'=b
  .subst e;simp[hb]
  .rw[if_neg e]at h;exact h
 refine⟨⟨λ b' hb'=>⟨(hr.fresh b' hb').1,?_⟩,λ b' ob s F C' hg hi=>?_,λ b1 b2 x1 x2 h1 h2 i1 i2 e=>hr.inj b1 b2 x1 x2 (hsome _ h1) (hsome _ h2) i1 i2 e⟩,?_⟩
 .rw[Tr.get_put,if_neg (by omega)];exact(hr.fresh b' hb').2
 .rw[Tr.get_put]at hg
  by_cases e:b'=b
  .subst e
   rw[if_pos rfl]at hg;cases hg;rw[z]at hi;cases hi;exact E
  .rw[if_neg e]at hg
   have hne:s≠κ:=λ ek=>e (hr.inj b' b _ _ (by simp[hg]) (by simp[hb]) hi z ek);refine(hr.ob b' ob s F C' hg hi).congr (Pl.le_refl _) (hoth s hne) λ m I δm Cm es ver hm hgm=>?_;rw[Tr.get_put]at hgm;by_cases em:m=b
   .subst em
    rw[if_pos rfl]at hgm;cases hgm;obtain⟨es0,D,e0,hlt⟩:=hmap es ver rfl;exact .inr ⟨es0,D,by rw[hb,e0],hlt⟩
   .rw[if_neg em]at hgm
    exact .inl ⟨hgm,hoth I λ ek=>em (hr.inj m b _ _ (by simp[hgm]) (by simp[hb]) hm z ek)⟩
 .exact{
   le:=Pl.le_refl _
   num:=Nat.le_refl _
   gN:=λ b' hlt hi=>⟨hi,by rw[Tr.get_put,if_neg λ e=>by subst e;rw[z]at hi;cases hi]⟩
   size:=by omega
   frame:=λ s hκ hno=>hoth s λ e=>hno b _ (by simp[hb]) z e.symm
   owned:=λ b' x hs hi _=>⟨b',x,hsome _ hs,hi,rfl⟩
   tape:=ht
   os:=ho
   output:=hu}
theorem qo.wrote{ι:Pl}{H:Hp}{w:World}{el:Option TypeId}{c c':Te}{n:Nat}{sp fz:Bool}{κ δ C:Nat}{off:Nat}{vs:List AV}{xs:List Value}{n':Nat}
  (h:qo ι H w (.cells el c n sp fz) κ δ C)(hv:dV ι vs xs)(h1:∀v∈vs,v.one=true)
  (hn:n'=n)(hof:off+vs.length≤n)
  (hc:∀j,c'.get j=if off≤j∧j<off+vs.length then vs[j-off]? else c.get j)(H':Hp):
  qo ι H' (w.setCells κ (δ+off) xs) (.cells el c' n' sp fz) κ δ C:=by
 subst hn;obtain⟨arr,elem,fr,g1,g2,g3,g4,g5,g6,g7⟩:=h;have hxl:=hv.length;obtain⟨arr',a1,a2,a3,-⟩:=qM κ elem fr xs (δ+off) w arr g1 (by omega);refine⟨arr',elem,fr,a1,by omega,g3,g4,λ i v hi=>?_,g6,g7⟩;rw[hc]at hi;by_cases hin:off≤i∧i<off+vs.length
 .rw[if_pos hin]at hi
  obtain⟨x,hx,s⟩:=hv.get hi;refine⟨by omega,h1 v (List.mem_of_getElem? hi),x,?_,s⟩;rw[a3,if_pos (by omega)];rw[show δ+i-(δ+off)=i-off by omega];exact hx
 .rw[if_neg hin]at hi
  obtain⟨p,q,x,hx,s⟩:=g5 i v hi;refine⟨p,q,x,?_,s⟩;rw[a3,if_neg (by omega)];exact hx
theorem qo.lt{ι:Pl}{H:Hp}{w:World}{o:Ob}{κ δ C:Nat}(h:qo ι H w o κ δ C):κ<w.heap.size:=by
 have key:∀x,w.heap[κ]? =some x->κ<w.heap.size:=λ x hx=>(Array.getElem?_eq_some_iff.1 hx).1;cases o with
 |cells el c n sp fz=>obtain⟨arr,elem,fr,h1,-⟩:=h;exact key _ h1
 |map es ver=>obtain⟨arr,clock,h1,-⟩:=h;exact key _ h1
 |uw s pos=>obtain⟨-,t,h1,-⟩:=h;exact key _ h1
 |uM=>obtain⟨-,a,b,c,h1⟩:=h;exact key _ h1
 |qN m ver left cur=>obtain⟨-,κm,δm,Cm,since,seen,stepped,h1,h2,-⟩:=h;exact key _ h2
def Pl.upd(ι:Pl)(id:Nat)(x:Nat×Nat×Nat):Pl:=λ b=>if b=id then some x else ι b
theorem Pl.iD(ι:Pl)(id:Nat)(x:Nat×Nat×Nat):ι.upd id x id=some x:=by simp[Pl.upd]
theorem Pl.upd_ne(ι:Pl){id b:Nat}(x:Nat×Nat×Nat)(h:b≠id):ι.upd id x b=ι b:=by simp[Pl.upd,h]
theorem Pl.rT{ι:Pl}{id:Nat}(x:Nat×Nat×Nat)(h:ι id=none):ι.le (ι.upd id x):=λ b y hy=>by
 rw[Pl.upd_ne _ _ λ e=>by subst e;rw[h]at hy;cases hy];exact hy
theorem Rel.born{ι:Pl}{H:Hp}{n id:Nat}{w:World}{obj:Obj}{C:Nat}{ob:Ob}(hr:Rel ι H n w)(hid:ι id=none)(hlt:id<n)(hH:H.get id=some ob)
  (s:qo (ι.upd id (w.heap.size,0,C)) H (w.alloc obj) ob w.heap.size 0 C):Rel (ι.upd id (w.heap.size,0,C)) H n (w.alloc obj)where
 fresh b hb:=⟨by rw[Pl.upd_ne _ _ (by omega)];exact(hr.fresh b hb).1,(hr.fresh b hb).2⟩
 ob b o κ δ C' hb hi:=by
  by_cases e:b=id
  .subst e
   rw[Pl.iD]at hi;cases hi;rw[hH]at hb;cases hb;exact s
  .rw[Pl.upd_ne _ _ e]at hi
   have h0:=hr.ob b o κ δ C' hb hi;refine h0.congr (Pl.rT _ hid) (qO _ _ h0.lt) λ m κm δm Cm es ver hm hg=> .inl ⟨hg,qO _ _ (hr.ob m _ _ _ _ hg hm).lt⟩
 inj b b' x x' h1 h2 i1 i2 e:=by
  have key:∀b x,(H.get b).isSome=true->b≠id->ι.upd id (w.heap.size,0,C) b=some x->x.1<w.heap.size∧ι b=some x:=λ b x hs hne hi=>by
   rw[Pl.upd_ne _ _ hne]at hi;obtain⟨o,ho⟩:=Option.isSome_iff_exists.1 hs;exact⟨(hr.ob b o x.1 x.2.1 x.2.2 ho hi).lt,hi⟩
  by_cases e1:b=id
  .by_cases e2:b'=id
   .rw[e1,e2]
   .have:=(key b' x' h2 e2 i2).1
    subst e1;rw[Pl.iD]at i1;cases i1;simp only at e;omega
  .by_cases e2:b'=id
   .have:=(key b x h1 e1 i1).1
    subst e2;rw[Pl.iD]at i2;cases i2;simp only at e;omega
   .exact hr.inj b b' x x' h1 h2 (key b x h1 e1 i1).2 (key b' x' h2 e2 i2).2 e
theorem Step.born{kH ι:Pl}{H0 H:Hp}{n0 n id:Nat}{w0 w:World}{obj:Obj}{C:Nat}(h:Step kH H0 n0 w0 ι H n w)(hid:ι id=none)(hn:n0≤id):
  Step kH H0 n0 w0 (ι.upd id (w.heap.size,0,C)) H n (w.alloc obj)where
 le:=Pl.le_trans h.le (Pl.rT _ hid)
 num:=h.num
 gN b hb hi:=by rw[Pl.upd_ne _ _ (by omega)];exact h.gN b hb hi
 size:=by rw[size_alloc];have:=h.size;omega
 frame κ s hno:=(qO _ _ (Nat.lt_of_lt_of_le s h.size)).trans (h.frame κ s hno)
 owned b x hs hi hlt:=by
  by_cases e:b=id
  .subst e;rw[Pl.iD]at hi;cases hi;have:=h.size;simp only at hlt;omega
  .rw[Pl.upd_ne _ _ e]at hi;exact h.owned b x hs hi hlt
 tape:=h.tape
 os:=h.os
 output:=h.output
theorem Rel.grow{ι:Pl}{H:Hp}{n id:Nat}{w:World}{ob:Ob}(hr:Rel ι H n w)(hid:ι id=none)(hlt:id<n)(hH:H.get id=none):Rel ι (H.put id (some ob)) n w where
 fresh b hb:=⟨(hr.fresh b hb).1,by rw[Tr.get_put,if_neg (by omega)];exact(hr.fresh b hb).2⟩
 ob b o κ δ C hb hi:=by
  have e:b≠id:=λ e=>by subst e;rw[hid]at hi;cases hi
  rw[Tr.get_put,if_neg e]at hb;refine(hr.ob b o κ δ C hb hi).congr (Pl.le_refl _) rfl λ m κm δm Cm es ver hm hg=>?_;rw[Tr.get_put,if_neg λ e=>by subst e;rw[hid]at hm;cases hm]at hg;exact .inl ⟨hg,rfl⟩
 inj b b' x x' h1 h2 i1 i2 e:=by
  have key:∀b x,((H.put id (some ob)).get b).isSome=true->ι b=some x->(H.get b).isSome=true:=λ b x hs hi=>by
   rw[Tr.get_put,if_neg λ e=>by subst e;rw[hid]at hi;cases hi]at hs;exact hs
  exact hr.inj b b' x x' (key b x h1 i1) (key b' x' h2 i2) i1 i2 e
theorem Rel.shrink{ι:Pl}{H:Hp}{n id:Nat}{w:World}{ob:Ob}(hr:Rel ι (H.put id (some ob)) n w)(hH:H.get id=none):Rel ι H n w where
 fresh b hb:=⟨(hr.fresh b hb).1,by
  have:=(hr.fresh b hb).2;rw[Tr.get_put]at this;by_cases e:b=id
  .rw[e];exact hH
  .rw[if_neg e]at this;exact this⟩
 ob b o κ δ C hb hi:=by
  have e:b≠id:=λ e=>by subst e;rw[hH]at hb;cases hb
  refine(hr.ob b o κ δ C (by rw[Tr.get_put,if_neg e];exact hb) hi).congr (Pl.le_refl _) rfl λ m κm δm Cm es ver hm hg=>?_;exact .inl ⟨by rw[Tr.get_put,if_neg λ e=>by subst e;rw[hH]at hg;cases hg];exact hg,rfl⟩
 inj b b' x x' h1 h2 i1 i2 e:=by
  have key:∀b,(H.get b).isSome=true->((H.put id (some ob)).get b).isSome=true:=λ b hs=>by
   rw[Tr.get_put];split
   .rfl
   .exact hs
  exact hr.inj b b' x x' (key b h1) (key b' h2) i1 i2 e
theorem Step.grow{kH ι:Pl}{H0 H:Hp}{n0 n id:Nat}{w0 w:World}{ob:Ob}(h:Step kH H0 n0 w0 ι H n w)(hid:ι id=none)(hn:n0≤id):
  Step kH H0 n0 w0 ι (H.put id (some ob)) n w where
 le:=h.le
 num:=h.num
 gN b hb hi:=by rw[Tr.get_put,if_neg (by omega)];exact h.gN b hb hi
 size:=h.size
 frame:=h.frame
 owned b x hs hi hlt:=by
  rw[Tr.get_put,if_neg λ e=>by subst e;rw[hid]at hi;cases hi]at hs;exact h.owned b x hs hi hlt
 tape:=h.tape
 os:=h.os
 output:=h.output
theorem Rel.bump{ι:Pl}{H:Hp}{n n':Nat}{w:World}(h:Rel ι H n w)(hn:n≤n'):Rel ι H n' w:=⟨λ b hb=>h.fresh b (Nat.le_trans hn hb),h.ob,h.inj⟩
theorem Step.bump{kH ι:Pl}{H0 H:Hp}{n0 n n':Nat}{w0 w:World}(h:Step kH H0 n0 w0 ι H n w)(hn:n≤n'):Step kH H0 n0 w0 ι H n' w:=
 ⟨h.le,Nat.le_trans h.num hn,h.gN,h.size,h.frame,h.owned,h.tape,h.os,h.output⟩
theorem Rel.forget{ι:Pl}{H:Hp}{n b:Nat}{w:World}(hr:Rel ι H n w):Rel ι (H.put b none) n w where
 fresh b' hb':=⟨(hr.fresh b' hb').1,by rw[Tr.get_put];split;rfl;exact(hr.fresh b' hb').2⟩
 ob b' o κ δ C hb' hi:=by
  rw[Tr.get_put]at hb';by_cases e:b'=b
  .rw[if_pos e]at hb';cases hb'
  .rw[if_neg e]at hb'
   refine(hr.ob b' o κ δ C hb' hi).congr (Pl.le_refl _) rfl λ m' κm δm Cm es ver hm hg=>?_;rw[Tr.get_put]at hg;by_cases e:m'=b
   .rw[if_pos e]at hg;cases hg
   .rw[if_neg e]at hg;exact .inl ⟨hg,rfl⟩
 inj b1 b2 x x' h1 h2 i1 i2 e:=by
  have key:∀b',((H.put b none).get b').isSome=true->(H.get b').isSome=true:=λ b' hs=>by
   rw[Tr.get_put]at hs;by_cases e:b'=b
   .rw[if_pos e]at hs;cases hs
   .rw[if_neg e]at hs;exact hs
  exact hr.inj b1 b2 x x' (key b1 h1) (key b2 h2) i1 i2 e
end Go.cK
section
namespace Go.cK
structure FX(d:Nat)where
 run:E d->(AV->Bool)->Bool
structure FT(d:Nat)where
 run:E d->(Te->Bool)->Bool
structure FQ(d:Nat)where
 run:E d->Hp->Nat->(AV->Hp->Bool)->Bool
section
variable {d:Nat} {e:E d} {T:Te} {H:Hp} {id:Nat}
noncomputable def cX(d:Nat)(o:Operand):FX d:=
 match o with
 | .tmp t=>cond (Nat.blt t (8^(d+1))) ⟨λ e k=>(Ac d t).run e k⟩ ⟨λ _ _=>false⟩
 | .const v=>match cv v with
   |some a=>⟨λ _ k=>k a⟩
   |none=>⟨λ _ _=>false⟩
 | .func f=>⟨λ _ k=>k (.func f [] [])⟩
 | .global _=>⟨λ _ _=>false⟩
theorem fF(h:RE d e T)(o:Operand)(k:AV->Bool):(cX d o).run e k=eZ bn T o k:=by
 cases o with
 |tmp t=>
  unfold cX eZ;simp only[h t];cases hc:Nat.blt t (8^(d+1))with
  |true=>
   rw[if_pos (by simpa[Nat.blt_eq]using hc)];exact tL d t e k
  |false=>
   rw[if_neg (by intro h;rw[<-Nat.blt_eq]at h;rw[h]at hc;cases hc)];rfl
 |const v=>
  unfold cX eZ;simp only;cases cv v<;>rfl
 |func f=>rfl
 |global g=>rfl
noncomputable def uF(d:Nat):List Tmp->FT d
 |[]=>⟨λ _ k=>k .nil⟩
 |t::l=>cond (Nat.blt t (8^(d+1))) ⟨λ e k=>(uF d l).run e λ T=>(Ac d t).run e λ v=>nR (some v) (pa t) T k⟩ (uF d l)
theorem D7(h:RE d e T)(k:Te->Bool):∀l:List Tmp,∃T',(∀k,(uF d l).run e k=k T')∧∀t∈l,T'.get t=T.get t
 |[]=>⟨.nil,λ _=>rfl,λ _ ht=>by cases ht⟩
 |t::l=>by
  obtain⟨T',p,q⟩:=D7 h k l;unfold uF;cases hc:Nat.blt t (8^(d+1))with
  |true=>
   have hlt:t<8^(d+1):=by simpa[Nat.blt_eq]using hc
   refine⟨T'.put t (some (lq d e t)),λ k=>?_,λ u hu=>?_⟩
   .show(uF d l).run e _=_
    rw[p,tL,pz]
   .rw[Tr.get_put]
    by_cases e:u=t
    .rw[if_pos e,e,h t,if_pos hlt]
    .rw[if_neg e]
     rcases List.mem_cons.1 hu with hu|hu
     .exact absurd hu e
     .exact q u hu
  |false=>
   have hlt:¬t<8^(d+1):=by intro h;rw[<-Nat.blt_eq]at h;rw[h]at hc;cases hc
   have:∃T',(∀k,(uF d l).run e k=k T')∧(∀t∈l,T'.get t=T.get t)∧∀u,¬u<8^(d+1)->T'.get u=none:=by
    clear p q;induction l with
    |nil=>exact⟨.nil,λ _=>rfl,(λ _ ht=>by cases ht),λ u _=>Tr.get_nil u⟩
    |cons s l ih=>
     obtain⟨T1,p1,q1,r1⟩:=ih;unfold uF;cases hs:Nat.blt s (8^(d+1))with
     |true=>
      have hlt:s<8^(d+1):=by simpa[Nat.blt_eq]using hs
      refine⟨T1.put s (some (lq d e s)),λ k=>?_,λ u hu=>?_,λ u hu=>?_⟩
      .show(uF d l).run e _=_
       rw[p1,tL,pz]
      .rw[Tr.get_put]
       by_cases e:u=s
       .rw[if_pos e,e,h s,if_pos hlt]
       .rw[if_neg e]
        rcases List.mem_cons.1 hu with hu|hu
        .exact absurd hu e
        .exact q1 u hu
      .rw[Tr.get_put,if_neg λ e=>hu (by rw[e];exact hlt)];exact r1 u hu
     |false=>
      refine⟨T1,p1,λ u hu=>?_,r1⟩;rcases List.mem_cons.1 hu with hu|hu
      .subst hu
       have hlt:¬u<8^(d+1):=by intro h;rw[<-Nat.blt_eq]at h;rw[h]at hs;cases hs
       rw[r1 u hlt,h u,if_neg hlt]
      .exact q1 u hu
   obtain⟨T1,p1,q1,r1⟩:=this;refine⟨T1,p1,λ u hu=>?_⟩;rcases List.mem_cons.1 hu with hu|hu
   .subst hu;rw[r1 u hlt,h u,if_neg hlt]
   .exact q1 u hu
def zm(o:Oper):List Tmp:=o.op.operands.toList.filterMap λ| .tmp t=>some t|_=>none
theorem EI{o:Oper}{t:Tmp}(h:Operand.tmp t∈o.op.operands):t∈zm o:=by
 unfold zm;rw[List.mem_filterMap];exact⟨.tmp t,by simpa using h,rfl⟩
noncomputable def mY(P:Program)(d:Nat)(o:Oper):FQ d:=⟨λ e H id k=>(uF d (zm o)).run e λ T=>cu P bn o T H id k⟩
theorem Rt{P:Program}(h:RE d e T)(o:Oper)(k:AV->Hp->Bool):(mY P d o).run e H id k=cu P bn o T H id k:=by
 obtain⟨T',p,q⟩:=D7 h (λ _=>true) (zm o);unfold mY;simp only;rw[p];exact Bo λ t ht=>q t (EI ht)
noncomputable def JY(o:Ob)(k:Option TypeId->Te->Nat->Bool->Bool):Bool:=match o with| .cells el c n sp false=>k el c n sp|_=>false
noncomputable def asAgg(a:AV)(k:List AV->Bool):Bool:=match a with| .agg l=>k l|_=>false
noncomputable def Tt(a:AV)(k:List AV->Bool):Bool:=match a with| .tuple l=>k l|_=>false
noncomputable def asNat(a:AV)(k:Nat->Bool):Bool:=match a with| .int _ (.ofNat n)=>k n|_=>false
noncomputable def Vx(a:AV)(k:Nat->Nat->Nat->Nat->Bool):Bool:=match a with| .slice b o l s _=>k b o l s|_=>false
noncomputable def Jl(v:AV)(y n:Bool):Bool:=match v with| .agg _=>n| .tuple _=>n|_=>y
noncomputable def Gz(c:Te)(off:Nat)(s:Nat):List AV->(List AV->Bool)->Bool:=
 Nat.rec (λ acc k=>k acc) (λ s ih acc k=>uE (pa (Nat.add off s)) c λ v=>ih (v::acc) k) s
theorem EJ(c:Te)(off:Nat)(k:List AV->Bool):∀(s:Nat)(acc:List AV),Gz c off s acc k=gather c off s false acc k
 |0,acc=>rfl
 |s+1,acc=>by
  show uE (pa (Nat.add off s)) c (λ v=>Gz c off s (v::acc) k)=match c.get (Nat.add off s)with|some v=>gather c off s false (v::acc) k|none=>false
  rw[wV];split
  .rename_i v hv;rw[hv];exact EJ c off k s _
  .rename_i hv;rw[hv]
noncomputable def ld1(a:AV)(H:Hp)(k:AV->Bool):Bool:=yh a λ b off=>uE (pa b) H λ ob=>CU ob λ c=>uE (pa off) c k
noncomputable def Tv(s:Nat)(a:AV)(H:Hp)(k:AV->Bool):Bool:=yh a λ b off=>uE (pa b) H λ ob=>CU ob λ c=>Gz c off s [] λ l=>k (.agg l)
theorem OO{P:Program}{t:TypeId}(h:iE P t=some false)(a:AV)(k:AV->Bool):ld1 a H k=o9 P bn t a H k:=by
 unfold ld1 o9;cases a<;>try rfl
 rename_i b off;simp only[yh,wV];cases H.get b with
 |none=>rfl
 |some ob=>
  cases ob<;>try rfl
  rename_i c _ _ _;simp only[CU,h];cases c.get off<;>rfl
theorem OQ{P:Program}{t:TypeId}{s:Nat}(h:iE P t=some true)(hs:fD P t=some s)(a:AV)(k:AV->Bool):Tv s a H k=o9 P bn t a H k:=by
 unfold Tv o9;cases a<;>try rfl
 rename_i b off;simp only[yh,wV];cases H.get b with
 |none=>rfl
 |some ob=>
  cases ob<;>try rfl
  simp only[CU,h,hs,EJ]
noncomputable def Nl(l:List AV):Nat->Te->(Te->Bool)->Bool:=
 List.rec (λ _ t k=>k t) (λ x _ ih i t k=>nR (some x) (pa i) t λ t=>vN (Nat.succ i) λ i=>ih i t k) l
theorem oq(n:Nat)(k:Nat->Bool):vN n k=k n:=by cases n<;>rfl
theorem JZ(k:Te->Bool):∀(l:List AV)(i:Nat)(t:Te),Nl l i t k=o8 l i t λ t _=>k t
 |[],_,_=>rfl
 |x::l,i,t=>by
  show nR (some x) (pa i) t (λ t=>vN (Nat.succ i) λ i=>Nl l i t k)=fT (t.put i (some x)) λ t=>fJ (Nat.succ i) λ i=>o8 l i t λ t _=>k t;rw[pz,iU,oq,dO];exact JZ k l _ _
noncomputable def Vy(s:Nat)(a v:AV)(H:Hp)(k:Hp->Bool):Bool:=
 yh a λ b off=>uE (pa b) H λ ob=>JY ob λ el c n sp=>
  Jl v (Bool.rec false (Bool.rec false (nR (some v) (pa off) c λ c=>nR (some (.cells el c n sp false)) (pa b) H k) (Nat.ble (Nat.add off s) n)) (Nat.beq 1 s))
   (cond (Nat.beq (fE v.cellsOf) s&&Nat.ble (Nat.add off s) n&&v.fB) (Nl v.cellsOf off c λ c=>nR (some (.cells el c n sp false)) (pa b) H k) false)
theorem Vz{P:Program}{t:TypeId}{s:Nat}(hs:fD P t=some s)(a v:AV)(k:Hp->Bool):Vy s a v H k=zf P bn t a v H k:=by
 unfold Vy zf;cases a<;>try rfl
 rename_i b off;simp only[yh,wV];cases H.get b with
 |none=>rfl
 |some ob=>
  cases ob with
  |cells el c n sp fz=>
   cases fz with
   |true=>rfl
   |false=>
    simp only[JY,hs,JZ,pz,iU]
    have one:∀v:AV,v.cellsOf=[v]->v.fB=true->
      (Bool.rec false (Bool.rec false (k (H.put b (some (.cells el (c.put off (some v)) n sp false)))) (Nat.ble (Nat.add off s) n)) (Nat.beq 1 s):Bool)=
      cond (Nat.beq (fE v.cellsOf) s&&Nat.ble (Nat.add off s) n&&v.fB) (o8 v.cellsOf off c λ c _=>k (H.put b (some (.cells el c n sp false)))) (bn ""):=by
     intro v h1 h2;have e1:fE v.cellsOf=1:=by rw[fO,h1];rfl
     have e2:(o8 v.cellsOf off c λ c _=>k (H.put b (some (.cells el c n sp false))))=k (H.put b (some (.cells el (c.put off (some v)) n sp false))):=by
      rw[h1];show fT (c.put off (some v)) (λ t=>fJ (Nat.succ off) λ _=>k (H.put b (some (.cells el t n sp false))))=_;rw[iU,dO]
     rw[e1,e2,h2];cases Nat.beq 1 s<;>cases Nat.ble (Nat.add off s) n<;>rfl
    cases v<;>first|exact one _ rfl rfl|rfl
  |_=>rfl
end
end Go.cK
end
section
namespace Go.cK
section
variable {P:Program} {T:Te} {H:Hp} {n:Nat}
variable {dst:Option Tmp} {ty:TypeId} {pos:String} {after:Array Edge} {guard:Option (Nat×Bool)}
def alt0(l:List Bool):Bool:=l.all id
def NS(P:Program)(o:Oper)(T:Te)(H:Hp)(n:Nat)(k:AV->Hp->Nat->Bool):Prop:=
 ∀(ι:Pl)(a:Act)(w:World)(next:Act->World->Prop)(Q:Exit->Act->World->Prop),Rel ι H n w->TR ι T a->
  (∀aV v x H' n' w',k v H' n'=true->VR aV v x->Rel aV H' n' w'->Step ι H n w aV H' n' w'->next (a.put o.dst x) w')->o.wp P a w next Q
theorem lU{o:Oper}{k:AV->Hp->Nat->Bool}(h:∀ι a w,Rel ι H n w->TR ι T a->∃x w' aV v H' n',(execOp a.eval o).run P w= .ok (.value x) w'∧k v H' n'=true∧VR aV v x∧Rel aV H' n' w'∧Step ι H n w aV H' n' w'):
  NS P o T H n k:=λ ι a w next Q hr ht hn=>by
 obtain⟨x,w',aV,v,H',n',h1,h2,h3,h4,h5⟩:=h ι a w hr ht;unfold Oper.wp;rw[h1];exact hn aV v x H' n' w' h2 h3 h4 h5
theorem Gs{o:Oper}{k:AV->Hp->Nat->Bool}(h:∀ι a w,Rel ι H n w->TR ι T a->∃w' aV H' n',(execOp a.eval o).run P w= .ok .skip w'∧k iM H' n'=true∧Rel aV H' n' w'∧Step ι H n w aV H' n' w'):
  NS P o T H n k:=λ ι a w next Q hr ht hn=>by
 obtain⟨w',aV,H',n',h1,h2,h4,h5⟩:=h ι a w hr ht;unfold Oper.wp;rw[h1];exact hn aV iM undef H' n' w' h2 (.tuple .nil) h4 h5
theorem qA{ι:Pl}{w:World}{el:Option TypeId}{c:Te}{m:Nat}{sp:Bool}{κ δ C off:Nat}{xs:List Value}(h:qo ι H w (.cells el c m sp false) κ δ C)(hfit:off+xs.length≤m)
  (h1:∀x∈xs,x.oneCell'=true):(storeCells ⟨κ,δ+off,none⟩ xs).run P w= .ok () (w.setCells κ (δ+off) xs):=by
 obtain⟨arr,elem,fr,g1,g2,g3,g4,g5,g6,g7⟩:=h;have:=run_storeCells_cells (P:=P) κ (δ+off) xs 0 w (λ j hj=>by simp[World.cell?,g1];omega) (λ j hj=>by
  have:=g6 rfl (δ+off+j) (by omega) (by omega);simp[World.frozen?,g1];omega) h1
 simpa using this
theorem dV.oneCell{ι:Pl}:∀{vs:List AV}{xs:List Value},dV ι vs xs->(∀v∈vs,v.one=true)->∀x∈xs,x.oneCell'=true
 |_,_,.nil,_,x,hx=>by cases hx
 |_,_,.cons h t,h1,x,hx=>by
  cases hx with
  |head=>exact h.oneCell (h1 _ (by simp))
  |tail _ hx=>exact t.oneCell (λ v hv=>h1 v (by simp[hv])) x hx
theorem zT{ι:Pl}{w:World}{el:Option TypeId}{c c':Te}{b m:Nat}{sp fz:Bool}{κ δ C off:Nat}{vs:List AV}{xs:List Value}(hr:Rel ι H n w)(hb:H.get b=some (.cells el c m sp fz))(s:ι b=some (κ,δ,C))
  (hv:dV ι vs xs)(h1:∀v∈vs,v.one=true)(hfit:off+vs.length≤m)(hc:∀j,c'.get j=if off≤j∧j<off+vs.length then vs[j-off]? else c.get j):
  Rel ι (H.put b (some (.cells el c' m sp fz))) n (w.setCells κ (δ+off) xs)∧Step ι H n w ι (H.put b (some (.cells el c' m sp fz))) n (w.setCells κ (δ+off) xs):=by
 have z:=hr.ob b _ _ _ _ hb s;have D:=z.wrote hv h1 rfl hfit hc (H.put b (some (.cells el c' m sp fz)));obtain⟨arr,elem,fr,g1,g2,g3,g4,g5,g6,g7⟩:=z;have hxl:=hv.length;obtain⟨arr',a1,a2,a3,a4,a5,a6,a7,a8⟩:=qM κ elem fr xs (δ+off) w arr g1 (by omega);exact hr.write hb s a4 a5 a6 a7 a8 D (λ _ _ e=>by cases e)
theorem JD{t:TypeId}{a v:AV}{kk:Hp->Bool}(h:zf P bn t a v H kk=true):
  ∃H',kk H'=true∧∀ι n w A X,Rel ι H n w->VR ι a A->VR ι v X->∃w',(Instr.storeAt t A X).run P w= .ok () w'∧Rel ι H' n w'∧Step ι H n w ι H' n w':=by
 unfold zf at h;split at h
 .rename_i b off
  split at h
  .rename_i el c m sp hb
   split at h
   .rename_i s hs
    cases hc:(Nat.beq (fE v.cellsOf) s&&Nat.ble (Nat.add off s) m&&v.fB)with
    |false=>rw[hc]at h;exact Bool.noConfusion h
    |true=>
     rw[hc]at h;simp only[cond_true]at h;simp only[Bool.and_eq_true]at hc;obtain⟨⟨c1,c2⟩,c3⟩:=hc;have c1:=Nat.eq_of_beq_eq_true c1;have c2:=Nat.le_of_ble_eq_true c2;rw[fO]at c1;obtain⟨c',e1,e2⟩:=iK (β:=Bool) v.cellsOf off c;rw[e1,iU]at h;refine⟨_,h,λ ι n w A X hr hA hX=>?_⟩;cases hA with
     |ptr off z=>
      rename_i κ δ C;have hcs:=hX.cells;have hlen:=hcs.length;have hfit:off+v.cellsOf.length≤m:=by rw[c1];exact c2
      refine⟨w.setCells κ (δ+off) X.cells.toList,?_,zT hr hb z hcs (hX.o7 c3) hfit e2⟩;have hst:=qA (P:=P) (xs:=X.cells.toList) (off:=off) (hr.ob b _ _ _ _ hb z) (by rw[<-hlen];exact hfit) (hcs.oneCell (hX.o7 c3));have hsz:X.cells.size=s:=by rw[<-c1,hlen];simp
      simp only[Instr.storeAt,Instr.sureAddr,Sem.run_bind,Sem.run_pure,Result.andThen_ok,storeVar,jo hs,hsz];simpa using hst
   .cases h
  .cases h
  .cases h
 .cases h
theorem Ug{call:FuncId->List AV->Hp->Nat->(AV->Hp->Nat->Bool)->Bool}{k:AV->Hp->Nat->Bool}{t:TypeId}{x y:Operand}(h:ji P bn alt0 call ⟨dst,.store t x y,ty,pos,after,guard⟩ T H n k=true):
  NS P ⟨dst,.store t x y,ty,pos,after,guard⟩ T H n k:=by
 simp only[ji]at h;obtain⟨av,h1,-,r1⟩:=bR h;obtain⟨xv,h2,-,r2⟩:=bR h1;obtain⟨H',h3,r3⟩:=JD h2;refine Gs λ ι a w hr ht=>?_;obtain⟨w',e,hr',hs⟩:=r3 ι n w _ _ hr (r1 ι a ht) (r2 ι a ht);exact⟨w',ι,H',n,by simp[execOp,e],h3,hr',hs⟩
end
end Go.cK
end
