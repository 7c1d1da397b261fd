/-
  Proved: CheckTexts: Text of any faults, and Values of any run and use, are what chapter 24 says (checkTexts.card : CheckTextsUptoCardSaid).
  Conditions: the row's own: the arguments and the package variables that are read hold together at most 1048576 values and letters; the listed variables lie as the card ties them to the program's text (the pruned copy of the project that the seat holds); one witness is given.
-/
import Derived.Carry
import Derived.ChangeSame
import Derived.Deep.DeepHandedRow
import Derived.Deep.Fields
import Derived.Deep.Slices
import Derived.Deep.Strs
import Derived.JoinedCond
import Derived.LaidSub
import Derived.Lay
import Derived.Lib.LaidTab
import Derived.MakeChecks
import Derived.OpenShut
import Derived.ProofKit
import Derived.Test.YtcclielbggpoaaaGreatDoorCards
import Derived.Test.YtcclielbggpoaaaGreatDoorTie
import Derived.Test.YtcclielbggpoaaaGreatDoorA19
import Derived.Test.YtcclielbggpoaaaGreatDoorA43
set_option linter.all false
namespace Go.Proofs.YtcclielbggpoaaaGreatDoor.checkTexts
open Go.ChangeShapes Go.WideShapes Go.ChangeAt
set_option maxHeartbeats 0
set_option maxRecDepth 1000000
noncomputable abbrev sp:ChangeSpec:=(Rows.OpenSpec.upto Rows.checkTextsSpec).bare
theorem jk{a b:Bool}(h:a=true)(k:b=true):(a&&b)=true:=by rw[h,k];rfl
noncomputable abbrev Zz(g:FuncId):List FuncId:=(Tryz.prog.funcs[g]?).elim [] Tryz.prog.leadsTo
noncomputable def cnt:Nat:=(Tryz.prog.funcs.toList.map λ g=>(Tryz.prog.leadsTo g).length+1).sum
theorem VY:Tryz.prog.closure 3=Go.cK.Bz Zz (1+cnt) [3] [] 0:=Go.cK.Nj (λ _=>rfl) rfl
theorem YJ:Tryz.prog.unfollowed 3=true:=by
 unfold Program.unfollowed;rw[VY];kernel_rfl
theorem j0:(Rows.checkTextsUptoRow.wf (OpenSpec.ofChange sp))=true:=by kernel_rfl
theorem j1:(laidOutB Tryz.prog)=true:=by kernel_rfl
theorem j2:(mapsRowed Tryz.prog)=true:=by kernel_rfl
theorem j3:(Tryz.f3.params.all (Tryz.prog.readableRec ·))=true:=by kernel_rfl
theorem j4:(namedTie Tryz.prog Rows.checkTextsUptoRow.named sp.vars)=true:=by kernel_rfl
theorem j5:((Rows.checkTextsUptoRow.stops==[]))=true:=by kernel_rfl
theorem j6:((Tryz.prog.stops==[]))=true:=by kernel_rfl
theorem j7:((Rows.checkTextsUptoRow.knobs==[]))=true:=by kernel_rfl
theorem j8:((Tryz.prog.stopKnobs==[]))=true:=by kernel_rfl
theorem j9:((Rows.checkTextsUptoRow.inPlace==Tryz.prog.inPlace 3))=true:=by
 unfold Program.inPlace;rw[VY];kernel_rfl
theorem j10:((Rows.checkTextsUptoRow.unfollowed==Tryz.prog.unfollowed 3))=true:=by
 rw[YJ];rfl
theorem j11:((Rows.checkTextsUptoRow.recurses==Tryz.prog.recurses 3))=true:=by
 unfold Program.recurses;rw[YJ];rfl
theorem j12:((Rows.checkTextsUptoRow.named==Tryz.prog.varsNamed 3))=true:=by
 unfold Program.varsNamed;rw[VY];kernel_rfl
theorem j13:((Rows.checkTextsUptoRow.maps==(Tryz.f3.params.toList++sp.plain.varTypes Tryz.prog).any (Tryz.prog.mapsRec ·)))=true:=by kernel_rfl
theorem ZA:((Rows.checkTextsUptoRow.ifaces==(Tryz.f3.params.toList++sp.plain.varTypes Tryz.prog).any (Tryz.prog.ifacesRec ·)))=true:=by kernel_rfl
theorem ZB:((Rows.checkTextsUptoRow.mapsOut==Tryz.prog.mapsAmong Tryz.f3.resultTypes.toList))=true:=by kernel_rfl
theorem ZC:((Rows.checkTextsUptoRow.loops==(Tryz.f3.params.toList++sp.plain.varTypes Tryz.prog).any (Tryz.prog.loopsFrom ·)))=true:=by kernel_rfl
theorem ZE:((Rows.checkTextsUptoRow.wideKeys==(Tryz.f3.params.toList++sp.plain.varTypes Tryz.prog++Tryz.f3.resultTypes.toList).any (Tryz.prog.wideKeysFrom ·)))=true:=by kernel_rfl
theorem ZF:(sp.vars.all (Tryz.prog.varReadable ·))=true:=by kernel_rfl
theorem ZG:(Tryz.f3.resultTypes.all (λ t=>Tryz.prog.readableRec t&&decide (t<Tryz.prog.types.size)))=true:=by kernel_rfl
theorem ZH:((Rows.checkTextsUptoRow.ifacesOut==Tryz.f3.resultTypes.toList.any (Tryz.prog.ifacesRec ·)))=true:=by kernel_rfl
theorem ZI:((Rows.checkTextsUptoRow.loopsOut==Tryz.f3.resultTypes.toList.any (Tryz.prog.loopsFrom ·)))=true:=by kernel_rfl
theorem ZJ:((Rows.checkTextsUptoRow.plainKeys==Tryz.prog.plainKeys))=true:=by kernel_rfl
theorem ZK:(Rows.checkTextsUptoRow.shortTexts.isNone)=true:=by kernel_rfl
theorem ZL:(Tryz.prog.stopsHeard)=true:=by kernel_rfl
theorem ZM:(Tryz.prog.mayEnter)=true:=by kernel_rfl
theorem ZN:((Rows.checkTextsUptoRow.lifted==Tryz.prog.liftsFinal))=true:=by kernel_rfl
theorem ZO:((Tryz.prog.make==some Rows.checkTextsUptoRow.make))=true:=by kernel_rfl
theorem ZP:((Rows.checkTextsUptoRow.kinds==(if Rows.checkTextsUptoRow.domain.isEmpty then []else Tryz.f3.params.toList.map λ t=>match Tryz.prog.underlying t with|some (.int k)=>some k|_=>none)))=true:=by kernel_rfl
theorem ZQ:((Rows.checkTextsUptoRow.pinned==Rows.checkTextsUptoRow.pinnedBy))=true:=by kernel_rfl
theorem ZR:((Rows.checkTextsUptoRow.veiled==(Tryz.f3.params.toList++sp.plain.varTypes Tryz.prog++Tryz.f3.resultTypes.toList).any (Tryz.prog.veiledRec ·)))=true:=by kernel_rfl
theorem ZT:(Rows.checkTextsUptoRow.veiledFits Tryz.prog Tryz.f3.params.toList (Tryz.f3.params.toList++sp.plain.varTypes Tryz.prog++Tryz.f3.resultTypes.toList))=true:=by kernel_rfl
theorem closed:joinedFacts Tryz.prog 3 Tryz.f3 sp Rows.checkTextsUptoRow=true:=by
 unfold joinedFacts;exact jk (jk (jk (jk (jk (jk (jk (jk (jk (jk (jk (jk (jk (jk (jk (jk (jk (jk (jk (jk (jk (jk (jk (jk (jk (jk (jk (jk (jk (jk (jk (j0) j1) j2) j3) j4) j5) j6) j7) j8) j9) j10) j11) j12) j13) ZA) ZB) ZC) ZE) ZF) ZG) ZH) ZI) ZJ) ZK) ZL) ZM) ZN) ZO) ZP) ZQ) ZR) ZT
theorem PN{P:Program}(h:(P.funcs.toList.all λ fn=>match fn.body with|some c=> !c.goes|none=>true)=true)(h':(P.funcs.toList.all λ fn=>match fn.body with|some _=>true|none=> !fn.goes)=true)(f:FuncId):P.goes f=false:=by
 have h1:∀fn∈P.funcs.toList,fn.goes=false:=λ fn hf=>by
  have k1:=List.all_eq_true.1 h fn hf;have k2:=List.all_eq_true.1 h' fn hf;cases hb:fn.body with
  |none=>rw[hb]at k2;simpa using k2
  |some c=>rw[hb]at k1;unfold Func.goes;rw[hb];simpa using k1
 have h2:((P.closure f).any λ g=>(P.funcs[g]?).any Func.goes)=false:=List.any_eq_false.2 λ g _=>by
  cases hg:P.funcs[g]? with
  |none=>simp
  |some fn=>simp[h1 fn (Array.mem_toList_iff.2 (Array.mem_of_getElem? hg))]
 have h3:P.funcs.any Func.goes=false:=by
  rw[<-Array.any_toList];exact List.any_eq_false.2 λ fn hf=>by simp[h1 fn hf]
 unfold Program.goes;rw[h2,h3,Bool.and_false];rfl
theorem RL:(Tryz.prog.funcs.toList.all λ fn=>match fn.body with|some c=> !c.goes|none=>true)=true:=by kernel_rfl
theorem PO:(Tryz.prog.funcs.toList.all λ fn=>match fn.body with|some _=>true|none=> !fn.goes)=true:=by kernel_rfl
theorem PS:Tryz.prog.funcNamed Rows.checkTextsUptoRow.func=some 3:=by kernel_rfl
theorem VZ:Rows.checkTextsUptoRow.start= .entering:=rfl
theorem Uq(P:Program)(c:OpenClaim)(f:FuncId)(hs:c.start= .entering)(hf:P.funcNamed c.func=some f)(hg:P.goes f=false):false=c.goesBy P:=by
 unfold OpenClaim.goesBy Program.goesAt Program.goesFrom;rw[hs,hf,Option.any_some,hg];rfl
theorem goes:false=Rows.checkTextsUptoRow.goesBy Tryz.prog:=Uq _ _ 3 VZ PS (PN RL PO 3)
end Go.Proofs.YtcclielbggpoaaaGreatDoor.checkTexts
section
namespace Go.Proofs.Ct.Q
open Go.ChangeShapes Go.WideShapes Go.Deep Go.RowKit Go.Proofs.aA.ak Go.Proofs.aA.aC Go.Proofs.aA.aG
open Go.Proofs.YtcclielbggpoaaaGreatDoor.Rows (uptoBulk uptoBulkAll)
theorem Sb{H:Type}(d:DataW H):1≤uptoBulk d:=by
 cases d with
 |lit l=>cases l<;>simp[uptoBulk]
 |nil=>simp[uptoBulk]
 |ptr d=>simp[uptoBulk]
 |slice elems spare=>simp[uptoBulk]
 |agg parts=>simp[uptoBulk]
 |iface t d=>simp[uptoBulk]
 |map entries=>simp[uptoBulk]
 |held h=>simp[uptoBulk]
theorem Qg{H:Type}{d:DataW H}{l:List (DataW H)}(h:d∈l):uptoBulk d≤uptoBulkAll l:=by
 induction l with
 |nil=>cases h
 |cons x r ih=>
  simp only[uptoBulkAll];rcases List.mem_cons.1 h with e|e
  .subst e;omega
  .have:=ih e;omega
theorem Sc{H:Type}(l:List (DataW H)):l.length≤uptoBulkAll l:=by
 induction l with
 |nil=>simp[uptoBulkAll]
 |cons x r ih=>have:=Sb x;simp only[uptoBulkAll,List.length_cons];omega
theorem pick{α:Type}{p:Nat->α->Prop}:∀n,(∀i,i<n->∃a,p i a)->∃l:List α,l.length=n∧∀(i:Nat) a,l[i]? =some a->p i a
 |0,_=>⟨[],rfl,λ i a h=>by simp at h⟩
 |n+1,h=>by
  obtain⟨l,h1,h2⟩:=pick n λ i hi=>h i (by omega);obtain⟨a,ha⟩:=h n (by omega);refine⟨l++[a],by simp[h1],λ i b hb=>?_⟩;by_cases hi:i<n
  .rw[List.getElem?_append_left (by omega)]at hb;exact h2 i b hb
  .have:i<(l++[a]).length:=(List.getElem?_eq_some_iff.1 hb).1
   have:i=n:=by simp[h1]at this;omega
   subst this;rw[List.getElem?_append_right (by omega),h1]at hb;simp at hb;subst hb;exact ha
section
variable {H:Type} {enc:TypeId×Value->H} {w:World} {base:Nat} {sp:Nat->Bool} {hd:Bool} {n:Nat} {cs:List Value} {x:DataW H×List MemPlace}
theorem Ee{α:Type}{d:Kd α}{good:α->Nat->Prop}{t e:TypeId}(ht:Tryz.prog.underlying t=some (.slice e))(hsz:Tryz.prog.cellsOf e=d.sz)(hup:∀a b c,good a b->b≤c->good a c)
  (hel:∀n cs' x,DataW.trod enc Tryz.prog w base sp hd n e cs'=some x->∃a,cs'.length=d.sz∧d.K w a cs'∧good a (uptoBulk x.1))(h:DataW.trod enc Tryz.prog w base sp hd n t cs=some x):
  ∃(A:Option Addr)(c:Nat)(l:List α),cs=[.slice A l.length c]∧l.length≤c∧d.C w A l.length l∧l.length+1≤uptoBulk x.1∧∀y∈l,good y (uptoBulk x.1):=by
 rcases open_slice ht h with⟨rfl,rfl⟩|⟨a,len,cap,m,n',D,Pl,rfl,_,hl,hm,hmm,rfl,hi⟩
 .exact⟨none,0,[],rfl,Nat.le_refl _,⟨rfl,by simp,λ h=>by cases h⟩,by simp[uptoBulk],λ y hy=>by cases hy⟩
 .have hML:maxLen≤9223372036854775807:=by decide
  have hlm:len≤m:=by rw[hmm];split<;>omega
  obtain⟨l,h1,h2⟩:=pick (p:=λ i y=>∃cs',cs'.length=d.sz∧d.K w y cs'∧(∀j u,cs'[j]? =some u->w.cell? (a.add (i*d.sz+j))=some u)∧good y (uptoBulk (D i))) len λ i hil=>by
   obtain⟨cs',hc,htr⟩:=hi i (by omega);obtain⟨y,e1,e2,e3⟩:=hel n' cs' _ htr;obtain⟨_,hcl,hat⟩:=World.cells?_some hc;refine⟨y,cs',e1,e2,λ j u hu=>?_,e3⟩;have hj:j<cs'.length:=(List.getElem?_eq_some_iff.1 hu).1;have:=hat j (by rw[hsz];omega);rw[hsz,Go.Deep.add_add]at this;rw[this,hu]
  subst h1;have hB:∀i,i<l.length->uptoBulk (D i)≤uptoBulk (DataW.slice ((List.range l.length).map D) ((List.range (m-l.length)).map λ j=>D (l.length+j))):=λ i hi=>by
   have:=Qg (d:=D i) (l:=(List.range l.length).map D) (List.mem_map.2 ⟨i,List.mem_range.2 hi,rfl⟩);simp only[uptoBulk];omega
  refine⟨some a,cap,l,rfl,hl,⟨rfl,by omega,λ _=>⟨a,rfl,λ j p hj=>?_⟩⟩,?_,λ y hy=>?_⟩
  .obtain⟨cs',e1,e2,e3,_⟩:=h2 j p hj
   exact⟨cs',e1,e2,e3⟩
  .have:=Sc ((List.range l.length).map D)
   simp only[List.length_map,List.length_range]at this;simp only[uptoBulk];omega
  .obtain⟨i,hi⟩:=List.getElem?_of_mem hy
   obtain⟨_,_,_,_,g⟩:=h2 i y hi;exact hup _ _ _ g (hB i (List.getElem?_eq_some_iff.1 hi).1)
theorem c9:Tryz.prog.cellsOf 9=1:=by kernel_rfl
theorem c3:Tryz.prog.cellsOf 3=1:=by kernel_rfl
theorem c4:Tryz.prog.cellsOf 4=1:=by kernel_rfl
theorem Qh:Tryz.prog.cellsOf 25=3:=by kernel_rfl
theorem c28:Tryz.prog.cellsOf 28=4:=by kernel_rfl
theorem TK:Tryz.prog.cellsOf 29=1:=by kernel_rfl
theorem c31:Tryz.prog.cellsOf 31=3:=by kernel_rfl
theorem YK:Tryz.prog.cellsOf 33=4:=by kernel_rfl
theorem Iz:Tryz.prog.cellsOf 56=4:=by kernel_rfl
theorem ug(s:ByteArray):uptoBulk (DataW.lit (H:=H) (.string s.data.toList))=s.size+1:=by simp[uptoBulk]
theorem Wq{l:List Value}(h:l.length=3):∃a b c,l=[a,b,c]:=match l,h with|[a,b,c],_=>⟨a,b,c,rfl⟩
theorem Sd{l:List Value}(h:l.length=4):∃a b c d,l=[a,b,c,d]:=match l,h with|[a,b,c,d],_=>⟨a,b,c,d,rfl⟩
theorem YL(s:ByteArray):uptoBulk (DataW.lit (H:=H) (.string s.data.toList),([]:List MemPlace)).1=s.size+1:=ug s
theorem Qi(h:DataW.trod enc Tryz.prog w base sp hd n 25 cs=some x):∃a:zI,cs=[.string a.f0,.int .i64 a.f1,.bool a.f2]∧a.f0.size≤uptoBulk x.1:=by
 obtain⟨y0,y1,y2,n',rfl,hl,h0,h1,h2⟩:=trod_struct3 Tryz.underlying25 h;clear h;obtain⟨a,b,c,rfl⟩:=Wq (hl.trans Qh);replace h0:DataW.trod enc Tryz.prog w base sp hd n' 9 (([a,b,c].drop 0).take (Tryz.prog.cellsOf 9))=some y0:=h0;replace h1:DataW.trod enc Tryz.prog w base sp hd n' 3 (([a,b,c].drop 1).take (Tryz.prog.cellsOf 3))=some y1:=h1;replace h2:DataW.trod enc Tryz.prog w base sp hd n' 4 (([a,b,c].drop 2).take (Tryz.prog.cellsOf 4))=some y2:=h2;rw[c9]at h0;rw[c3]at h1;rw[c4]at h2;obtain⟨s,e0,rfl,_⟩:=DataW.trod_string Tryz.underlying9 h0;obtain⟨o,e1,rfl,_⟩:=DataW.trod_int Tryz.underlying3 h1;obtain⟨p,e2,rfl⟩:=DataW.trod_bool Tryz.underlying4 h2;cases e0;cases e1;cases e2;refine⟨⟨s,o,p⟩,rfl,?_⟩;have:=ug (H:=H) s;simp only[uptoBulk,uptoBulkAll]at this|-
 omega
theorem UG(h:DataW.trod enc Tryz.prog w base sp hd n 56 cs=some x):∃a:f_,cs.length=nG.sz∧nG.K w a cs∧a.f0.f0.size≤uptoBulk x.1∧a.f1.size≤uptoBulk x.1:=by
 obtain⟨y0,y1,n',rfl,hl,h0,h1⟩:=trod_struct2 Tryz.underlying56 h;clear h;obtain⟨a,b,c,d,rfl⟩:=Sd (hl.trans Iz);replace h0:DataW.trod enc Tryz.prog w base sp hd n' 25 (([a,b,c,d].drop 0).take (Tryz.prog.cellsOf 25))=some y0:=h0;replace h1:DataW.trod enc Tryz.prog w base sp hd n' 9 (([a,b,c,d].drop 3).take (Tryz.prog.cellsOf 9))=some y1:=h1;rw[Qh]at h0;rw[c9]at h1;obtain⟨u,e0,hu⟩:=Qi h0;obtain⟨s,e1,rfl,_⟩:=DataW.trod_string Tryz.underlying9 h1;cases e0;cases e1;refine⟨⟨u,s⟩,rfl,Ws w ⟨u,s⟩,?_,?_⟩
 .simp only[uptoBulk,uptoBulkAll];show u.f0.size≤_;omega
 .have:=ug (H:=H) s
  simp only[uptoBulk,uptoBulkAll]at this|-
  show s.size≤_;omega
def BZ(l:List f_)(b:Nat):Prop:=l.length≤b∧∀y∈l,y.f0.f0.size≤b∧y.f1.size≤b
theorem B_{l:List f_}{b c:Nat}(h:BZ l b)(hc:b≤c):BZ l c:=⟨Nat.le_trans h.1 hc,λ y hy=>⟨Nat.le_trans (h.2 y hy).1 hc,Nat.le_trans (h.2 y hy).2 hc⟩⟩
theorem Wt(h:DataW.trod enc Tryz.prog w base sp hd n 31 cs=some x):∃(a:Kw)(A:Option Addr)(c:Nat),cs=[.string a.f0,.bool a.f1,.slice A a.f2.length c]∧a.f2.length≤c∧nG.C w A a.f2.length a.f2∧a.f0.size≤uptoBulk x.1∧BZ a.f2 (uptoBulk x.1):=by
 obtain⟨y0,y1,y2,n',rfl,hl,h0,h1,h2⟩:=trod_struct3 Tryz.underlying31 h;clear h;obtain⟨a,b,c,rfl⟩:=Wq (hl.trans c31);replace h0:DataW.trod enc Tryz.prog w base sp hd n' 9 (([a,b,c].drop 0).take (Tryz.prog.cellsOf 9))=some y0:=h0;replace h1:DataW.trod enc Tryz.prog w base sp hd n' 4 (([a,b,c].drop 1).take (Tryz.prog.cellsOf 4))=some y1:=h1;replace h2:DataW.trod enc Tryz.prog w base sp hd n' 29 (([a,b,c].drop 2).take (Tryz.prog.cellsOf 29))=some y2:=h2;rw[c9]at h0;rw[c4]at h1;rw[TK]at h2;obtain⟨s,e0,rfl,_⟩:=DataW.trod_string Tryz.underlying9 h0;obtain⟨p,e1,rfl⟩:=DataW.trod_bool Tryz.underlying4 h1;obtain⟨A,cc,l,e2,hlc,hC,hlen,hgood⟩:=Ee (d:=nG) (good:=λ y b=>y.f0.f0.size≤b∧y.f1.size≤b) Tryz.underlying29 Iz (λ a b c h hc=>⟨Nat.le_trans h.1 hc,Nat.le_trans h.2 hc⟩) (λ n cs' x h=>UG h) h2;cases e0;cases e1;cases e2;have hb:uptoBulk y2.1≤uptoBulk (DataW.agg [DataW.lit (.string s.data.toList),DataW.lit (.bool p),y2.1]):=by simp only[uptoBulk,uptoBulkAll];omega
 refine⟨⟨s,p,l⟩,A,cc,rfl,hlc,hC,?_,B_ ⟨by show l.length≤_;omega,hgood⟩ hb⟩;have:=ug (H:=H) s;simp only[uptoBulk,uptoBulkAll]at this|-
 show s.size≤_;omega
theorem NW(h:DataW.trod enc Tryz.prog w base sp hd n 33 cs=some x):∃a:nP,cs.length=sU.sz∧sU.K w a cs∧a.f1.f0.size≤uptoBulk x.1∧BZ a.f1.f2 (uptoBulk x.1):=by
 obtain⟨y0,y1,n',rfl,hl,h0,h1⟩:=trod_struct2 Tryz.underlying33 h;clear h;obtain⟨a,b,c,d,rfl⟩:=Sd (hl.trans YK);replace h0:DataW.trod enc Tryz.prog w base sp hd n' 3 (([a,b,c,d].drop 0).take (Tryz.prog.cellsOf 3))=some y0:=h0;replace h1:DataW.trod enc Tryz.prog w base sp hd n' 31 (([a,b,c,d].drop 1).take (Tryz.prog.cellsOf 31))=some y1:=h1;rw[c3]at h0;rw[c31]at h1;obtain⟨o,e0,rfl,_⟩:=DataW.trod_int Tryz.underlying3 h0;obtain⟨v,A,cc,e1,hlc,hC,hs,hb⟩:=Wt h1;cases e0;cases e1;have hb':uptoBulk y1.1≤uptoBulk (DataW.agg [DataW.lit (.int .i64 o),y1.1]):=by simp only[uptoBulk,uptoBulkAll];omega
 exact⟨⟨o,v⟩,rfl,Wu w ⟨o,v⟩ hlc hC,Nat.le_trans hs hb',B_ hb hb'⟩
theorem Sg(h:DataW.trod enc Tryz.prog w base sp hd n 28 cs=some x):∃a:iY,cs.length=k28.sz∧k28.K w a cs∧(a.f2.size≤uptoBulk x.1∧a.f3.size≤uptoBulk x.1∧(Lit.int .i64 a.f0).wf=true):=by
 obtain⟨xs,n',_,rfl,hl,hlen,hf⟩:=DataW.trod_struct Tryz.underlying28 h;clear h;obtain⟨a,b,c,d,rfl⟩:=Sd (hl.trans c28)
 match xs,hlen with
 |[y0,y1,y2,y3],_=>
 have h0:DataW.trod enc Tryz.prog w base sp hd n' 3 (([a,b,c,d].drop 0).take (Tryz.prog.cellsOf 3))=some y0:=hf 0 _ rfl;have h1:DataW.trod enc Tryz.prog w base sp hd n' 3 (([a,b,c,d].drop 1).take (Tryz.prog.cellsOf 3))=some y1:=hf 1 _ rfl;have h2:DataW.trod enc Tryz.prog w base sp hd n' 9 (([a,b,c,d].drop 2).take (Tryz.prog.cellsOf 9))=some y2:=hf 2 _ rfl;have h3:DataW.trod enc Tryz.prog w base sp hd n' 9 (([a,b,c,d].drop 3).take (Tryz.prog.cellsOf 9))=some y3:=hf 3 _ rfl;clear hf;rw[c3]at h0 h1;rw[c9]at h2 h3;obtain⟨o,e0,rfl,ho⟩:=DataW.trod_int Tryz.underlying3 h0;obtain⟨o1,e1,rfl,_⟩:=DataW.trod_int Tryz.underlying3 h1;obtain⟨s,e2,rfl,_⟩:=DataW.trod_string Tryz.underlying9 h2;obtain⟨t,e3,rfl,_⟩:=DataW.trod_string Tryz.underlying9 h3;cases e0;cases e1;cases e2;cases e3;have z1:=ug (H:=H) s;have z2:=ug (H:=H) t;refine⟨⟨o,o1,s,t⟩,rfl,Wv w ⟨o,o1,s,t⟩,?_,?_,ho⟩
 .simp only[uptoBulk,uptoBulkAll,List.map_cons,List.map_nil]at z1|-
  show s.size≤_;omega
 .simp only[uptoBulk,uptoBulkAll,List.map_cons,List.map_nil]at z2|-
  show t.size≤_;omega
end
end Go.Proofs.Ct.Q
end
section
namespace Go.Proofs.YtcclielbggpoaaaGreatDoor.checkTexts
open Go.ChangeShapes Go.WideShapes Go.ChangeAt Go.RowKit Go.Proofs.Ct.Q
section
variable {H:Type} {enc:TypeId×Value->H} {P:Program}
theorem Je{f:Func}{s:ChangeSpec}{apart fresh handsOn again:Bool}{W W':World}{args:Array Value}{v:Value}{ds gs:List (DataW H)}{before pa pv:List MemPlace}
  (hW:DataW.Whole enc P f.params.toList s.vars apart W args.toList ds gs before)
  (hres:∀(b:Nat)(sp:Nat->Bool)(hd:Bool),DataW.TrodAll enc P W' b sp hd f.resultTypes.toList (v.resultList f.resultTypes.size) (s.fn H (ds++gs)).results [])
  (hargs:DataW.TrodAll enc P W' 0 (λ b=>decide (b<W.heap.size)) true f.params.toList args.toList (s.fn H (ds++gs)).args pa)
  (hvars:∀sp:Nat->Bool,DataW.TrodVars enc P W' sp s.vars (s.fn H (ds++gs)).vars pv)
  (hps:before=pa++pv)(hb:Below W.heap.size W W')(hag:again=false):
  s.post enc P f apart fresh handsOn again W args v W':=by
 have hlt:∀p∈before,p.block<W.heap.size:=λ p hp=>hW.lt p hp;subst hag;refine⟨ds,gs,before,[],pa,pv,hW,hres _ _ _,hargs,hvars _,World.keptBut_mono (λ p hp=>⟨hp,?_⟩) (hb.frame (· ∈before)),λ h=>(by cases h)⟩;rw[hps,List.mem_append]at hp;exact Or.inr hp
end
theorem own:ownKnob Tryz.prog.godebug=none:=by kernel_rfl
theorem laidOut:laidOutB Tryz.prog=true:=by kernel_rfl
theorem Zk:Tryz.prog.globalNamed "internal/strconv.uint64pow10"=some 1:=by kernel_rfl
theorem YB:(Tryz.prog.globals[1]?).map (·.type)=some 428:=by kernel_rfl
theorem table{W:World}(h:laidMetH Tryz.prog Rows.checkTextsUptoRow.laid W):sK W:=by
 rw[Go.MakeChecks.laidMetH_plain _ _ _ (by kernel_rfl)]at h;have h:=h.filter (λ x=>x.1== "internal/strconv.uint64pow10");have e:(Rows.checkTextsUptoRow.laid.filter λ x=>x.1== "internal/strconv.uint64pow10")=[("internal/strconv.uint64pow10",Lib.tabData .u64 Lib.pow10Tab)]:=by kernel_rfl
 rw[e]at h;exact Lib.tabIs_of_head (rest:=[]) Zk YB Tryz.underlying428 Tryz.underlying249 (by kernel_rfl) (by kernel_rfl) h
set_option maxRecDepth 100000 in
set_option maxHeartbeats 4000000 in
theorem contract(H:Type)(enc:TypeId×Value->H)(W:World)(base:Nat)(args:Array Value)(ds gs:List (DataW H))(before:List MemPlace)
  (hval:∀(j:Nat) t v,Tryz.f3.params[j]? =some t->args[j]? =some v->Value.okWide Tryz.prog W .any base t v)
  (hW:DataW.Whole enc Tryz.prog Tryz.f3.params.toList Rows.checkTextsSpec.vars false W args.toList ds gs before)(hL:laidMetH Tryz.prog Rows.checkTextsUptoRow.laid W)
  (hk:Rows.uptoSmall H (ds++gs)=true):
  Calls Tryz.prog 3 args W λ e W'=>∃v,e= .returned v∧Rows.checkTextsSpec.post enc Tryz.prog Tryz.f3 false true false false W args v W':=by
 have hW':=hW;obtain⟨p,q,E,hV,rfl,hfz,hnd⟩:=hW;have hA:DataW.TrodAll enc Tryz.prog W 0 (λ _=>true) true Tryz.f3.params.toList args.toList ds p:=E;rw[Tryz.params3]at hA hval;obtain⟨v0,vs0,d0,ds0,p0,q0,hargs,rfl,rfl,h0,r0⟩:=trodAll_cons hA;obtain⟨v1,vs1,d1,ds1,p1,q1,rfl,rfl,rfl,h1,r1⟩:=trodAll_cons r0;obtain⟨v2,vs2,d2,ds2,p2,q2,rfl,rfl,rfl,h2,r2⟩:=trodAll_cons r1;obtain⟨rfl,rfl,rfl⟩:=trodAll_nil r2;obtain rfl:args= #[v0,v1,v2]:=by cases args;simp_all
 obtain⟨rfl,rfl⟩:=trodVars_none hV;clear E;have hU:Rows.uptoBulkAll ([d0,d1,d2]++([]:List (DataW H)))≤1048576:=of_decide_eq_true hk;simp only[List.append_nil,Rows.uptoBulkAll]at hU hW';obtain⟨a0,n0,k0,rfl⟩:=okWide_slice Tryz.underlying22 (hval 0 22 v0 rfl rfl);obtain⟨a1,n1,k1,rfl⟩:=okWide_slice Tryz.underlying23 (hval 1 23 v1 rfl rfl);obtain⟨cs,rfl,hsz⟩:=okWide_struct Tryz.underlying25 (hval 2 25 v2 rfl rfl);have h0':=h0;have h1':=h1;have h2':=h2;obtain⟨f0,h0⟩:=h0;obtain⟨f1,h1⟩:=h1;obtain⟨f2,h2⟩:=h2;obtain⟨A,c,l,e0,hlc,hC,hlen,hgood⟩:=Ee (d:=k28) (good:=λ a b=>a.f2.size≤b∧a.f3.size≤b∧(Lit.int .i64 a.f0).wf=true) Tryz.underlying22 c28 (λ a b c h hc=>⟨Nat.le_trans h.1 hc,Nat.le_trans h.2.1 hc,h.2.2⟩) (λ n cs' x h=>Sg h) h0;obtain⟨B,d,l2,e1,hld,hD,D,s⟩:=Ee (d:=sU) (good:=λ a b=>a.f1.f0.size≤b∧BZ a.f1.f2 b) Tryz.underlying23 YK (λ a b c h hc=>⟨Nat.le_trans h.1 hc,B_ h.2 hc⟩) (λ n cs' x h=>NW h) h1;obtain⟨u,e2,_⟩:=Qi h2;have e0:[Value.slice a0 n0 k0]=[.slice A l.length c]:=e0;have e1:[Value.slice a1 n1 k1]=[.slice B l2.length d]:=e1;cases e0;cases e1;obtain⟨I⟩:=cs;have e2:I=[.string u.f0,.int .i64 u.f1,.bool u.f2]:=e2;subst e2;have F:=Si l l2 a0 k0 a1 k1 u.f0 u.f1 u.f2 W hC hlc hD hld (by dsimp only at hlen;omega) (by dsimp only at D;omega)
  (λ f hf=>by
    obtain⟨g1,g2,g3⟩:=hgood f hf;have g3: -9223372036854775808≤f.f0∧f.f0≤9223372036854775807:=by simpa[Lit.wf,IntKind.min,IntKind.max,IntKind.signed,IntKind.bits]using g3
    exact⟨by dsimp only at g1;omega,by dsimp only at g2;omega,g3.1,g3.2⟩)
  (λ x hx=>by
    obtain⟨g1,g2⟩:=s x hx;dsimp only at g1 g2;exact⟨by omega,λ y hy=>⟨by have:=(g2.2 y hy).2;omega,by have:=(g2.2 y hy).1;omega⟩⟩)
  (λ x hx=>by
    have g2:=(s x hx).2.1;dsimp only at g2;omega) (table hL) Go.cK.Pz
 refine F.mono λ e W' ⟨he,z⟩=>?_;subst he;have J:∀x∈p0,x.block<W.heap.size:=λ x hx=>DataW.trod_lt f0 _ _ _ h0 x hx;have L:∀x∈p1,x.block<W.heap.size:=λ x hx=>DataW.trod_lt f1 _ _ _ h1 x hx;have O:∀x∈p2,x.block<W.heap.size:=λ x hx=>DataW.trod_lt f2 _ _ _ h2 x hx;exact⟨_,rfl,Je (pv:=[]) hW' (λ _ _ _=>trodAll_cons_mk (shut_bool Tryz.underlying4 _) trodAll_mk0)
  (trodAll_cons_mk (Below.trod laidOut (by kernel_rfl) (of_decide_eq_true (by kernel_rfl)) h0' z J) (trodAll_cons_mk (Below.trod laidOut (by kernel_rfl) (of_decide_eq_true (by kernel_rfl)) h1' z L) (trodAll_cons_mk (Below.trod laidOut (by kernel_rfl) (of_decide_eq_true (by kernel_rfl)) h2' z O) trodAll_mk0)))
  (λ _=>rfl) (by simp) z rfl⟩
def Jv:Array Value:= #[.slice none 0 0,.slice none 0 0,.agg #[.string ByteArray.empty,.int .i64 0,.bool false]]
noncomputable def lw(os:Os):World:=World.laidAll Tryz.prog os Rows.checkTextsUptoRow.laid
theorem SY(os:Os):laidMet Tryz.prog Rows.checkTextsUptoRow.laid ((lw os).forCall (λ _ _=>0) ⟨#[],Jv,[]⟩).memory:=laidMet_laidAll _ (by kernel_rfl) (by kernel_rfl)
theorem reads(os:Os){H:Type}(enc:TypeId×Value->H):∃places,DataW.whole enc Tryz.prog ((lw os).forCall (λ _ _=>0) ⟨#[],Jv,[]⟩).memory Tryz.f3.params.toList Rows.checkTextsSpec.vars false Jv.toList 8=
 some ([.nil,.nil,.agg [.lit (.string []),.lit (.int .i64 0),.lit (.bool false)]],[],places):=⟨[],by kernel_rfl⟩
set_option maxRecDepth 100000 in
theorem lifted(os:Os)(started:os.Started)(H:Type)(enc:TypeId×Value->H)(F:Stop.Interp):
  ReturnsInHanded {} Tryz.checked os 3 .any ((Rows.OpenSpec.upto Rows.checkTextsSpec).preRow enc Tryz.prog Tryz.f3 Rows.checkTextsUptoRow.domain false Rows.checkTextsUptoRow.laid) (((Rows.OpenSpec.upto Rows.checkTextsSpec).at F).post enc Tryz.prog Tryz.f3 false true false false):=by
 obtain⟨places,hx⟩:=reads os enc;refine returnsInHanded_of_row (C:=Tryz.checked) (s:=Rows.OpenSpec.upto Rows.checkTextsSpec) own started (by kernel_rfl) Tryz.func3
  (witness_row_at (enc:=enc) (C:=Tryz.checked) false (lw os) Jv (World.laidAll_os _ _ _) (by kernel_rfl) (by kernel_rfl) (by kernel_rfl)
    (OpenSpec.preRow_of_cond 8 hx (by kernel_rfl) (λ k hk=>by cases hk;kernel_rfl) (by kernel_rfl) (SY os))) ?_
 intro W base args ds gs before hval hW _ hcond _ hL _ _;exact contract H enc W base args ds gs before hval hW hL (hcond _ rfl)
set_option maxRecDepth 100000 in
theorem said:Rows.CheckTextsUptoSaid:=
 OpenClaim.holds_of_cond 3 Tryz.f3 rfl rfl rfl rfl rfl rfl rfl ⟨rfl,rfl,rfl,rfl,rfl⟩ rfl rfl rfl rfl rfl PS Tryz.func3 closed
  (of_decide_eq_true (by kernel_rfl)) (by unfold Func.isWrapper;first|(rw[if_pos (by decide+kernel)];kernel_rfl)|(rw[if_neg (by decide+kernel)];exact⟨rfl,rfl⟩))
  (λ os started H enc _ F=>by rw[OpenClaim.pre_eq_preRow];exact lifted os started H enc F)
theorem plain(f:FuncId)(fn:Func)(hf:Tryz.pinned.checked.prog.funcNamed "linkwork/linkworklaw24.CheckTexts"=some f)(hfn:Tryz.pinned.checked.prog.funcs[f]? =some fn):
  false=Tryz.pinned.checked.prog.looks []∧∀(j:Nat) t,fn.params[j]? =some t->Tryz.pinned.checked.prog.wantsStandIn t=false:=by
 obtain rfl:f=3:=Option.some.inj ((show Tryz.prog.funcNamed "linkwork/linkworklaw24.CheckTexts"=some 3 by kernel_rfl).symm.trans hf)|>.symm
 obtain rfl:fn=Tryz.f3:=(Option.some.inj (Tryz.func3.symm.trans hfn)).symm;refine⟨by kernel_rfl,λ j t ht=>?_⟩;rw[Tryz.params3]at ht;have h:t=22∨t=23∨t=25:=by simpa using Array.mem_of_getElem? ht
 rcases h with rfl|rfl|rfl
 .exact(show Tryz.prog.wantsStandIn 22=false by kernel_rfl)
 .exact(show Tryz.prog.wantsStandIn 23=false by kernel_rfl)
 .exact(show Tryz.prog.wantsStandIn 25=false by kernel_rfl)
set_option maxRecDepth 100000 in
theorem card:Rows.CheckTextsUptoCardSaid:=
 Claim7.holds_tied_plain_at .later [] _ _ _ _ said (λ _ h=>by cases h) (by kernel_rfl) (λ _ h=>by cases h) checkTextsUpto_row_tie rfl ⟨rfl,rfl⟩ (by kernel_rfl) rfl plain goes
end Go.Proofs.YtcclielbggpoaaaGreatDoor.checkTexts
#print axioms Go.Proofs.YtcclielbggpoaaaGreatDoor.checkTexts.card
end
