/- Part of the proof of CheckTexts (see the last text). -/
import Derived.Test.YtcclielbggpoaaaGreatDoorA18
set_option linter.all false
namespace Go.Proofs.Ct.Q
open Go.Proofs.g_ Go.RowKit Go.Proofs.aA.ak Go.Proofs.aA.aC Go.Proofs.aA.aG Go.Proofs.bO
attribute [local go_sem] aW aX bA bB
def Zl(t:ByteArray)(l:List f_)(w:World)(e:Ending)(w':World):Prop:=
 Below w.heap.size w w'∧if jP t l=0 then∃E:Nat,e= .returned (.tuple #[.pointer (some ⟨E,0,none⟩),.int .i64 0])∧qR w' w.heap.size w'.heap.size E l else e= .returned (.tuple #[.pointer none,.int .i64 (jP t l)])
set_option maxHeartbeats 20000000 in
set_option maxRecDepth 100000 in
theorem Gc(t:ByteArray)(b:Bool)(A:Option Addr)(c:Nat)(l:List f_)(w:World)(hC:Kd.C nG w A l.length l)(hc:l.length≤c)(hz:BP t l):
 Calls Tryz.prog 26 #[.agg #[.string t,.bool b,.slice A l.length c]] w λ e w'=>Zl t l w e w':=by
 have hu31:=Tryz.underlying31;have HC:=ah.mk hC;have J:=Lib.hid hz;have F:=Lib.hid hc;clear hC hz hc;by_cases hl:1000<l.length
 .have b1:decide (1000<(l.length:Int))=true:=decide_eq_true (by omega)
  have b2:decide (1000<l.length)=true:=decide_eq_true hl;have HE:=Lib.hid (show jP t l=2 by unfold jP;rw[if_pos hl]);go_enter Tryz.func26,Tryz.ntmps26
  go_wp2_with (first|((with_reducible refine gd 1 rfl ?_);refine bx #[.string t,.bool b,.slice A l.length c] 31 ?_;intro gb hg w1 s hb;have HB:=ah.mk hb;have I:=ah.mk (show w.heap.size≤gb from Nat.le_of_eq hg.symm);have hc0:=(aj s.out 0).trans rfl;have hc1:=(aj s.out 1).trans rfl;have hc2:=(aj s.out 2).trans rfl;have z:=ah.mk (Kd.eH HC.out hb);clear hb hg))
  go_ret2;exact⟨HB.out,by rw[HE.out,if_neg (by decide)];rfl⟩
 .have b1:decide (1000<(l.length:Int))=false:=decide_eq_false (by omega)
  have b2:decide (1000<l.length)=false:=decide_eq_false hl;have HL:=Lib.hid (show l.length≤1000 by omega);obtain⟨q,hq⟩:∃q,(dW t&&qI l)=q:=⟨_,rfl⟩;have HE:=Lib.hid (show jP t l=if q=true then 0 else 1 by unfold jP;rw[if_neg hl,hq]);have HQ:=Lib.hid hq;clear hq hl;cases q with
  |true=>
   have D:=Lib.hid (show jP t l=0 by rw[HE.out];rfl);clear HE;go_enter Tryz.func26,Tryz.ntmps26
   go_wp2_with (first|((with_reducible refine gd 1 rfl ?_);refine bx #[.string t,.bool b,.slice A l.length c] 31 ?_;intro gb hg w1 s hb;have HB:=ah.mk hb;have I:=ah.mk (show w.heap.size≤gb from Nat.le_of_eq hg.symm);have hc0:=(aj s.out 0).trans rfl;have hc1:=(aj s.out 1).trans rfl;have hc2:=(aj s.out 2).trans rfl;have z:=ah.mk (Kd.eH HC.out hb);clear hb hg)|(go_at_call 67;refine(FI t b A c l _ z.out F.out J.out HL.out).mono ?_;rintro e w2 ⟨hb,ho⟩;rw[if_pos HQ.out]at ho;obtain⟨E,rfl,ho⟩:=ho;have HO:=ah.mk ho;have L:=ah.mk HB.out.size;replace HB:=kh hb;clear hb ho hc0 hc1 hc2))
   go_ret2;exact⟨HB.out,by rw[D.out,if_pos rfl];exact⟨E,rfl,HO.out.lower L.out⟩⟩
  |false=>
   have D:=Lib.hid (show jP t l=1 by rw[HE.out];rfl);clear HE;go_enter Tryz.func26,Tryz.ntmps26
   go_wp2_with (first|((with_reducible refine gd 1 rfl ?_);refine bx #[.string t,.bool b,.slice A l.length c] 31 ?_;intro gb hg w1 s hb;have HB:=ah.mk hb;have I:=ah.mk (show w.heap.size≤gb from Nat.le_of_eq hg.symm);have hc0:=(aj s.out 0).trans rfl;have hc1:=(aj s.out 1).trans rfl;have hc2:=(aj s.out 2).trans rfl;have z:=ah.mk (Kd.eH HC.out hb);clear hb hg)|(go_at_call 67;refine(FI t b A c l _ z.out F.out J.out HL.out).mono ?_;rintro e w2 ⟨hb,ho⟩;rw[if_neg (by rw[HQ.out];simp)]at ho;subst ho;replace HB:=kh hb;clear hb hc0 hc1 hc2))
   go_ret2;exact⟨HB.out,by rw[D.out,if_neg (by decide)];rfl⟩
def Ta:Kd Nat:=Kd.scalar (λ E=> .pointer (some ⟨E,0,none⟩)) (λ _=>rfl)
theorem XG:(Tryz.prog.info? 81).map (λ i=>(i.zero,i.size,i.bytes))=some (some (.pointer none),1,8):=by kernel_rfl
def mU(w:World)(row:Option Nat)(s:List Nat)(l:List nP):Prop:=
 s.length=l.length∧∀i (h:i<l.length),∃E lo hi,s[i]? =some E∧qR w lo hi E l[i].f1.f2∧hi≤w.heap.size∧∀g,row=some g->¬(lo≤g∧g<hi)
theorem mU.nil(w:World)(row:Option Nat):mU w row [] []:=⟨rfl,λ i h=>by simp at h⟩
theorem mU.below{w w':World}{row:Option Nat}{s:List Nat}{l:List nP}(h:mU w row s l)(hb:Below w.heap.size w w'):mU w' row s l:=by
 refine⟨h.1,λ i hi=>?_⟩;obtain⟨E,lo,z,h1,h2,h3,h4⟩:=h.2 i hi;exact⟨E,lo,z,h1,h2.step (λ k _ hk=>hb.block k (by omega)),Nat.le_trans h3 hb.size,h4⟩
theorem mU.snoc{w w':World}{row:Option Nat}{s:List Nat}{l:List nP}{E:Nat}{x:nP}(h:mU w row s l)(hb:Below w.heap.size w w')(ho:qR w' w.heap.size w'.heap.size E x.f1.f2)(hrow:∀g,row=some g->g<w.heap.size):mU w' row (s++[E]) (l++[x]):=by
 have h':=h.below hb;refine⟨by simp[h.1],λ i hi=>?_⟩;by_cases hil:i<l.length
 .obtain⟨E',lo,z,h1,h2,h3,h4⟩:=h'.2 i hil
  exact⟨E',lo,z,by rw[List.getElem?_append_left (by have:=h.1;omega)];exact h1,by rw[List.getElem_append_left hil];exact h2,h3,h4⟩
 .have:i=l.length:=by simp at hi;omega
  subst this;refine⟨E,w.heap.size,w'.heap.size,by rw[List.getElem?_append_right (by have:=h.1;omega),h.1];simp,by rw[List.getElem_append_right (Nat.le_refl _)];simpa using ho,Nat.le_refl _,λ g hg hc=>?_⟩;have:=hrow g hg;omega
theorem mU.grown{w w':World}{row row':Option Nat}{s:List Nat}{l:List nP}(h:mU w row s l)(hg:w.grownBy w' row)(hat:row'=row∨∃b,row'=some b∧w.heap.size≤b):mU w' row' s l:=by
 refine⟨h.1,λ i hi=>?_⟩;obtain⟨E,lo,z,h1,h2,h3,h4⟩:=h.2 i hi;refine⟨E,lo,z,h1,h2.step (λ k hk1 hk2=>hg.block k (by omega) (λ e=>h4 k e.symm ⟨hk1,hk2⟩)),Nat.le_trans h3 hg.size,λ g hg' hc=>?_⟩;rcases hat with e|⟨b,e,hb⟩
 .exact h4 g (e▸hg') hc
 .rw[e]at hg'
  cases hg';omega
def Va(r:List ByteArray×Int)(w:World)(e:Ending)(w':World):Prop:=∃v:Value,e= .returned (.tuple #[v,.int .i64 r.2])∧Kd.V Kd.string 9 w' w.heap.size (λ k=>w.heap.size≤k) v r.1∧Below w.heap.size w w'
set_option maxHeartbeats 40000000 in
set_option maxRecDepth 100000 in
theorem LV(l:List nP)(A:Option Addr)(c:Nat)(n:ByteArray)(o:Int)(p:Bool)(w:World)(hC:Kd.C sU w A l.length l)(hc:l.length≤c)(hz:∀x∈l,BP x.f1.f0 x.f1.f2)(h60:l.length≤60):
 Calls Tryz.prog 7 #[.slice A l.length c,.agg #[.string n,.int .i64 o,.bool p]] w λ e w'=>Va (iB l n o p) w e w':=by
 have hu25:=Tryz.underlying25;have hu33:=Tryz.underlying33;have hu31:=Tryz.underlying31;have hu68:=Tryz.underlying68;have hu87:=Tryz.underlying87;have HC:=ah.mk hC;have bd:=Lib.hid hz;clear hC hz;go_enter Tryz.func7,Tryz.ntmps7
 go_wp2_with (first|((with_reducible refine gd 3 rfl ?_);refine bx #[.string n,.int .i64 o,.bool p] 25 ?_;intro g3 hg w1 D hb;have HB:=ah.mk hb;have GE3:=ah.mk (show w.heap.size≤g3 from Nat.le_of_eq hg.symm);clear hb hg))
 go_loopw [6,18] (λ v i wr=>∃(j:Nat)(O:List Nat),j≤l.length∧i= .int .i64 j∧ah (kK (l.drop j)=kK l)∧ah (Below w.heap.size w wr)∧ah (wr.heap[g3]? =some (.cells #[.string n,.int .i64 o,.bool p] 25 (0,0)))∧ah (Ta.R 81 wr w.heap.size (λ _=>True) v O)∧ah (mU wr v.ownBlock O (l.take j))) (λ _ i _=>l.length-(RowKit.intOf i).toNat)
 case atStart=>exact⟨0,[],Nat.zero_le _,rfl,⟨rfl⟩,HB,D,⟨Kd.mZ _ _ _ _ _⟩,⟨mU.nil _ _⟩⟩
 case round=>
  clear HB D;obtain⟨j,O,hj,rfl,HE,HB,D,Y,az⟩:=hrel;by_cases hlt:j<l.length
  .obtain⟨ad,A2,c2,hA,hx0,hx1,hx2,hx3,hl2,hC2⟩:=Fv HC.out j (Int.natCast_nonneg j) (by omega)
   rw[Int.toNat_natCast]at hx0 hx1 hx2 hx3;subst hA;replace hx0:=au HB.out hx0;replace hx1:=au HB.out hx1;replace hx2:=au HB.out hx2;replace hx3:=au HB.out hx3;replace hC2:=Kd.eH hC2 HB.out;obtain⟨x,hx⟩:∃x,nE l (j:Int)=x:=⟨_,rfl⟩;rw[hx]at hx0 hx1 hx2 hx3 hl2 hC2;have HX:=Lib.hid hx;clear hx;have an:=ah.mk hC2;have HL2:=Lib.hid hl2;clear hC2 hl2;have ao:=Lib.hid (show BP x.f1.f0 x.f1.f2 by have:=bd.out l[j] (List.getElem_mem _);rw[<-tV hlt,HX.out]at this;exact this);have b1:decide (j<l.length)=true:=decide_eq_true hlt;have p1:((0:Int)≤(j:Int))=True:=eq_true (by omega);have q1:((j:Int)<(l.length:Int))=True:=eq_true (by omega);have HR:=ah.mk (Below.refl wr.heap.size wr);by_cases hq:jP x.f1.f0 x.f1.f2=0
   .have HQ:=Lib.hid hq
    have HE2:=ah.mk (show kK (l.drop (j+1))=kK l by rw[<-HE.out,List.drop_eq_getElem_cons hlt,kK,<-tV hlt,HX.out,if_pos hq]);clear hq
    go_wp2_with (first|((with_reducible refine gd 8 rfl ?_);refine bx #[.int .i64 0,.string (⟨#[]⟩:ByteArray),.bool false,.slice none 0 0] 33 ?_;intro g8 hg w1 s hb;have U:=ah.mk (show wr.heap.size≤g8 from Nat.le_of_eq hg.symm);replace hx0:=au hb hx0;replace hx1:=au hb hx1;replace hx2:=au hb hx2;replace hx3:=au hb hx3;clear HR hg;have HR:=ah.mk hb;clear hb;have hc0:=(aj s.out 0).trans rfl;have hc1:=(aj s.out 1).trans rfl;have hc2:=(aj s.out 2).trans rfl;have hc3:=(aj s.out 3).trans rfl;have hf0:=aI s.out 0;have hf1:=aI s.out 1;have hf2:=aI s.out 2;have hf3:=aI s.out 3)|(go_at_call 26;refine(Gc x.f1.f0 x.f1.f1 A2 c2 x.f1.f2 _ (Kd.eH an.out (jg _ _ _ _ HR.out U.out)) HL2.out ao.out).mono ?_;rintro e w5 ⟨hb,hos⟩;rw[if_pos HQ.out]at hos;obtain⟨E,rfl,ho⟩:=hos;have Z:=jg (.int .i64 x.f0) (.string x.f1.f0) (.bool x.f1.f1) (.slice A2 x.f1.f2.length c2) HR.out U.out;have X:=ah.mk (aU Z hb);have I:=ah.mk (az.out.snoc (E:=E) (x:=x) X.out (qR.lower ho Z.size) (λ g hg=>Kd.qB Y.out g hg));have aa:=ah.mk (Kd.pX Y.out X.out);have HB2:=ah.mk (aU HB.out X.out);have J:=ah.mk (bY D.out X.out);clear HR s hb ho Z hx0 hx1 hx2 hx3 hc0 hc1 hc2 hc3 hf0 hf1 hf2 hf3 X)|((with_reducible refine eX (b:= .append) (xs:= #[.tmp 31,.tmp 33]) rfl ?_);at_builtin;refine Kd.jl Ta (w0:=w) w.heap.size rfl (.tmp 31) (.tmp 33) 80 81 (.pointer none) 8 rfl Tryz.underlying80 XG rfl (by decide) (by omega) u6 O E [.pointer (some ⟨E,0,none⟩)] (λ _=>True) (λ _=>False) rfl rfl ?aB (λ _ hk=>hk.elim) ?aD ?aE ?aF ?aL ?aO ?_;(case aB=>exact rfl);(case aF=>exact HB2.out);(case aD=>exact(λ _ _=>trivial));(case aE=>exact aa.out);(case aL=>exact HB2.out.size);(case aO=>have:=I.out.1;simp at this;omega);intro v1 w6 ho hb hg hat;have aR:=ah.mk ho;have HB3:=ah.mk hb;have ab:=ah.mk (I.out.grown hg hat);have F:=ah.mk (lH J.out hg (Kd.yY aa.out J.out (by decide)));clear ho hb hg hat aa HB2 I J))
    go_roundw
    case rel=>exact⟨j+1,O++[E],by omega,by go_num,HE2,HB3,F,aR,⟨by have:=ab.out;rw[<-HX.out,tV hlt,<-List.take_succ_eq_append_getElem hlt]at this;exact this⟩⟩
    case measure=>simp[RowKit.intOf];omega
   .have HQ:=Lib.hid hq
    have hq2:(jP x.f1.f0 x.f1.f2==0)=false:=beq_eq_false_iff_ne.2 hq;have hq3:(jP x.f1.f0 x.f1.f2 !=0)=true:=by rw[bne,hq2];rfl
    have L:=Lib.hid (show iB l n o p=([],jP x.f1.f0 x.f1.f2) by
     have e:kK l=jP x.f1.f0 x.f1.f2:=by rw[<-HE.out,List.drop_eq_getElem_cons hlt,kK,<-tV hlt,HX.out,if_neg hq]
     unfold iB;rw[e,if_neg hq])
    clear hq
    go_wp2_with (first|((with_reducible refine gd 8 rfl ?_);refine bx #[.int .i64 0,.string (⟨#[]⟩:ByteArray),.bool false,.slice none 0 0] 33 ?_;intro g8 hg w1 s hb;have U:=ah.mk (show wr.heap.size≤g8 from Nat.le_of_eq hg.symm);replace hx0:=au hb hx0;replace hx1:=au hb hx1;replace hx2:=au hb hx2;replace hx3:=au hb hx3;clear HR hg;have HR:=ah.mk hb;clear hb;have hc0:=(aj s.out 0).trans rfl;have hc1:=(aj s.out 1).trans rfl;have hc2:=(aj s.out 2).trans rfl;have hc3:=(aj s.out 3).trans rfl;have hf0:=aI s.out 0;have hf1:=aI s.out 1;have hf2:=aI s.out 2;have hf3:=aI s.out 3)|(go_at_call 26;refine(Gc x.f1.f0 x.f1.f1 A2 c2 x.f1.f2 _ (Kd.eH an.out (jg _ _ _ _ HR.out U.out)) HL2.out ao.out).mono ?_;rintro e w5 ⟨hb,hos⟩;rw[if_neg HQ.out]at hos;subst hos;have HB2:=ah.mk (aU HB.out (aU (jg (.int .i64 x.f0) (.string x.f1.f0) (.bool x.f1.f1) (.slice A2 x.f1.f2.length c2) HR.out U.out) hb));clear HR s hb hx0 hx1 hx2 hx3 hc0 hc1 hc2 hc3 hf0 hf1 hf2 hf3))
    go_ret2;exact⟨.slice none 0 0,by rw[L.out];rfl,by rw[L.out];exact Kd.lu _ _ _ _ _,HB2.out⟩
  .obtain rfl:j=l.length:=by omega
   have ac:=Lib.hid (show kK l=0 by rw[<-HE.out,List.drop_eq_nil_of_le (Nat.le_refl _)];rfl);have I:ah (mU wr u6.ownBlock O l):=⟨by have:=az.out;rwa[List.take_length]at this⟩;have b1:decide (l.length<l.length)=false:=decide_eq_false (by omega);have hc0:=(aj D.out 0).trans rfl;have hc1:=(aj D.out 1).trans rfl;have hc2:=(aj D.out 2).trans rfl;obtain⟨q,hq⟩:∃q,ny n o p=q:=⟨_,rfl⟩;have HQ:=Lib.hid hq;clear hq az HE hlt;obtain⟨A6,c6,e6⟩:=Kd.dR Y.out;subst e6;have aS:=ah.mk (Kd.d9 Y.out).2.2;have HLEN:=Lib.hid I.out.1;cases q with
   |false=>
    have L:=Lib.hid (show iB l n o p=([],1) by unfold iB;rw[if_pos ac.out,if_neg (by rw[HQ.out];simp)])
    go_wp2_with (go_at_call 27;refine(GV _ _ _ _).mono ?_;rintro e w5 ⟨rfl,hb⟩;rw[HQ.out];have HB2:=kh hb;clear hb hc0 hc1 hc2)
    go_ret2;exact⟨.slice none 0 0,by rw[L.out];rfl,by rw[L.out];exact Kd.lu _ _ _ _ _,HB2.out⟩
   |true=>
    go_wp2_with (go_at_call 27;refine(GV _ _ _ _).mono ?_;rintro e ae ⟨rfl,hb⟩;rw[HQ.out];have HB2:=kh hb;have a0:=ah.mk (Kd.eH aS.out hb);have ab:=ah.mk (I.out.below hb);have J:=kb D hb;clear hb hc0 hc1 hc2 HB aS I D Y)
    go_loopw [11,41] (λ v i wr=>∃(j:Nat)(out:List ByteArray),j≤l.length∧i= .int .i64 j∧ah (out.length=j∧l8 l n o p=(l8 (l.drop j) n o p).map (out++·))∧ah (Below ae.heap.size ae wr)∧ah (Kd.string.R 9 wr ae.heap.size (λ _=>True) v out)) (λ _ i _=>l.length-(RowKit.intOf i).toNat)
    case atStart=>exact⟨0,[],Nat.zero_le _,rfl,⟨rfl,by simp⟩,⟨Below.refl _ _⟩,⟨Kd.mZ _ _ _ _ _⟩⟩
    case round=>
     obtain⟨j,out,hj,rfl,HA,HB,a1⟩:=hrel;by_cases hlt:j<l.length
     .obtain⟨E,lo,hi,ap,hO,hhi,_⟩:=ab.out.2 j hlt
      have hO2:=hO.step (w':=wr) (λ k _ hk=>HB.out.block k (by omega));obtain⟨c0,c1,c2,c3,c4,M,hE,_,_,_,_,hM⟩:=hO2;obtain⟨es,clock,aq,hk2,hv3⟩:=hM;have z:=Sk (M:=M) (clock:=clock) hk2 hv3 n o p;have ar:=(aj hE 5).trans rfl;have a2:E<wr.heap.size:=gT hE;have F:=ah.mk (bY J.out HB.out);have hc0:=(aj F.out 0).trans rfl;have hc1:=(aj F.out 1).trans rfl;have hc2:=(aj F.out 2).trans rfl;obtain⟨ad,cs,a3,hcs,hK,hcell⟩:=Kd.Ju a0.out 0 (j:Int) (Int.natCast_nonneg _) (by rw[HLEN.out];omega);subst a3;have hgj:O.getD j 0=E:=by rw[List.getD_eq_getElem?_getD,ap];rfl
      rw[Int.toNat_natCast,hgj]at hK;rw[Int.toNat_natCast]at hcell;have hp0:wr.cell? (ad.add j)=some (.pointer (some ⟨E,0,none⟩)):=au HB.out (by have:=hcell 0 (.pointer (some ⟨E,0,none⟩)) (by rw[show cs=[_]from hK];rfl);simpa[Ta,Kd.scalar]using this);have b2:decide (j<O.length)=true:=decide_eq_true (by rw[HLEN.out];exact hlt);have p1:((0:Int)≤(j:Int))=True:=eq_true (by omega);have q1:((j:Int)<(O.length:Int))=True:=eq_true (by rw[HLEN.out];omega);have HO:=Lib.hid hO;have HM:=Lib.hid aq;have a4:=Lib.hid hE;clear ap hO hhi hcs hK hcell hgj hv3 hk2 aq hE;have hba:Below wr.heap.size wr (wr.alloc (.cells #[.bool false,.slice none 0 0,.bool false,.slice none 0 0,.bool false,.bool false] 68)).drew:=b_ (fA (Below.refl _ _) _);have a5:=au hba hc0;have a6:=au hba hc1;have a7:=au hba hc2;have a8:=au hba ar;have af:=ah.mk hba;clear hba;have e3:wr.heap.size≠g3:=Nat.ne_of_gt (gT F.out);have eE:wr.heap.size≠E:=Nat.ne_of_gt (gT a4.out);cases hbd:nD l[j].f1.f2 n o p with
      |none=>
       rw[hbd]at z;have ag:=Lib.hid (show l8 (l.drop j) n o p=none by rw[List.drop_eq_getElem_cons hlt,l8,hbd]);have hl1:=z wr.drew HM.out;have hl2:=z (wr.alloc (.cells #[.bool false,.slice none 0 0,.bool false,.slice none 0 0,.bool false,.bool false] 68)).drew ((af.out.block M (Array.getElem?_eq_some_iff.1 HM.out).1).trans HM.out);unfold qC at hl1 hl2;clear hbd z;have L:=Lib.hid (show iB l n o p=([],5) by unfold iB;rw[if_pos ac.out,if_pos HQ.out,HA.out.2,ag.out];rfl);go_wp2;go_region;all_goals
        go_wp2;go_ret2;refine⟨.slice none 0 0,by rw[L.out];rfl,by rw[L.out];exact Kd.lu _ _ _ _ _,?_⟩;exact aU (aU HB2.out HB.out) af.out
      |some t=>
       rw[hbd]at z;obtain⟨vv,hvv,z⟩:=z;obtain⟨x1,A2,n2,c2,x3,A4,n4,c4,x5,x6,z2,z4,e1,hV2,al,hstr⟩:=hvv;subst e1;have e2:n2=z2.length:=by obtain⟨_,_,e_⟩:=Kd.aY hV2;cases e_;rfl
       subst e2;have e4:n4=z4.length:=by obtain⟨_,_,e_⟩:=Kd.aY al;cases e_;rfl
       subst e4;have ag:=Lib.hid (show l8 (l.drop j) n o p=(l8 (l.drop (j+1)) n o p).map (t::·) by rw[List.drop_eq_getElem_cons hlt,l8,hbd];cases l8 (l.drop (j+1)) n o p<;>rfl);have hl1:=z wr.drew HM.out;have hl2:=z (wr.alloc (.cells #[.bool false,.slice none 0 0,.bool false,.slice none 0 0,.bool false,.bool false] 68)).drew ((af.out.block M (Array.getElem?_eq_some_iff.1 HM.out).1).trans HM.out);unfold qC at hl1 hl2;have av:=ah.mk hV2;have aw:=ah.mk al;have aP:=Lib.hid hstr;clear hbd z hV2 al hstr;go_wp2
       go_upto_region 17 with fail
       go_cut [14,15] (λ v14 v15 w'=>∃g,v14= .pointer (some ⟨g,0,none⟩)∧v15= .bool true∧ah (w'.heap[g]? =some (.cells #[.bool x1,.slice A2 z2.length c2,.bool x3,.slice A4 z4.length c4,.bool x5,.bool x6] 68 (0,0)))∧ah (Below wr.heap.size wr w'))
       case first=>
        go_region;all_goals
         go_wp2;go_meet
         case rel=>exact⟨wr.heap.size,rfl,rfl,⟨lS wr _⟩,⟨b_ (fA (Below.refl _ _) _)⟩⟩
       case rest=>
        obtain⟨g,rfl,rfl,T,HW⟩:=hcut;clear hl1 hl2 hc0 hc1 hc2 ar a5 a6 a7 a8 e3 eE a2 hp0;have hd0:=(aj T.out 0).trans rfl;have hd1:=(aj T.out 1).trans rfl;have hd2:=(aj T.out 2).trans rfl;have hd3:=(aj T.out 3).trans rfl;have hd4:=(aj T.out 4).trans rfl;have hd5:=(aj T.out 5).trans rfl;have a9:=ah.mk (Kd.eH (Kd.aH av.out).2.2 HW.out);have ba:=ah.mk (Kd.eH (Kd.aH aw.out).2.2 HW.out);have HB3:=ah.mk (aU HB.out HW.out);have ax:=ah.mk (Kd.pX a1.out HW.out)
        go_wp2_with (first|(go_at_call 28;refine(fV.calls _ _ _ _ _ _ _ _ _ _ _ _ a9.out (Kd.aH av.out).2.1 ba.out (Kd.aH aw.out).2.1 aP.out).mono ?_;rintro e w5 ⟨rfl,hb⟩;have am:=ah.mk (aU HB3.out hb);have ay:=ah.mk (Kd.pX ax.out hb);clear hb hd0 hd1 hd2 hd3 hd4 hd5 HB3 ax)|((with_reducible refine eX (b:= .append) (xs:= #[.tmp 56,.tmp 59]) rfl ?_);at_builtin;refine Kd.jl Kd.string (w0:=ae) ae.heap.size rfl (.tmp 56) (.tmp 59) 37 9 (.string ⟨#[]⟩) 16 rfl Tryz.underlying37 TQ rfl (by decide) (by omega) u11 out t [.string t] (λ _=>True) (λ _=>False) rfl rfl ?aB (λ _ hk=>hk.elim) ?aD ?aE ?aF ?aL ?aO ?_;(case aB=>exact rfl);(case aF=>exact am.out);(case aD=>exact(λ _ _=>trivial));(case aE=>exact ay.out);(case aL=>exact am.out.size);(case aO=>have:=HA.out.1;omega);intro v1 w6 ho hb hg hat;have bb:=ah.mk ho;have bc:=ah.mk hb;clear ho hb hg hat ay am))
        go_roundw
        case rel=>exact⟨j+1,out++[t],by omega,by go_num,⟨by have:=HA.out.1;simp[this],by rw[HA.out.2,ag.out];cases l8 (l.drop (j+1)) n o p<;>simp⟩,bc,bb⟩
        case measure=>simp[RowKit.intOf];omega
     .obtain rfl:j=l.length:=by omega
      have L:=Lib.hid (show iB l n o p=(out,0) by unfold iB;rw[if_pos ac.out,if_pos HQ.out,HA.out.2,List.drop_eq_nil_of_le (Nat.le_refl _)];simp[l8]);have b2:decide (l.length<O.length)=false:=decide_eq_false (by rw[HLEN.out];omega);go_wp2;go_ret2;exact⟨u11,by rw[L.out];rfl,by rw[L.out];exact Kd.kC (Kd.gY (Kd.jV a1.out) (λ k hk=>by have:=hk.2.1;have:=HB2.out.size;omega)),aU HB2.out HB.out⟩
theorem LP(l:List ByteArray)(hl:l.length<4611686018427387904)(d:Nat):∀(k i:Nat),l.length-i=d->i≤l.length->d<k->cO.l0 k l l (i:Int)=some true:=by
 induction d with
 |zero=>
  intro k i hd hi hk;obtain⟨k,rfl⟩:∃m,k=m+1:=⟨k-1,by omega⟩;simp only[cO.l0];rw[if_neg (by omega)]
 |succ d ih=>
  intro k i hd hi hk;obtain⟨k,rfl⟩:∃m,k=m+1:=⟨k-1,by omega⟩;have hih:=ih k (i+1) (by omega) (by omega) (by omega);simp only[cO.l0];have e:(i:Int)+1=((i+1:Nat):Int):=by omega
  rw[if_pos (by omega),if_pos (by omega),if_pos (by omega),if_pos trivial,eG (by omega) (by omega),e,hih]
theorem Kz(l:List ByteArray)(hl:l.length<4611686018427387904)(k:Nat)(hk:l.length<k):cO.f k l l=some true:=by
 unfold cO.f;rw[if_pos rfl];exact LP l hl l.length k 0 (by omega) (by omega) hk
theorem KA:∀(l:List nP)(n:ByteArray)(o:Int)(p:Bool)(r:List ByteArray),l8 l n o p=some r->r.length=l.length
 |[],n,o,p,r,h=>by unfold l8 at h;cases h;rfl
 |x::l,n,o,p,r,h=>by
  unfold l8 at h;split at h
  .cases h
  .split at h
   .cases h
   .rename_i r' h'
    cases h;simp[KA l n o p r' h']
theorem LQ(l:List nP)(n:ByteArray)(o:Int)(p:Bool):(iB l n o p).1.length≤l.length:=by
 unfold iB;split
 .split
  .split
   .simp
   .rename_i r h;exact Nat.le_of_eq (KA l n o p r h)
  .simp
 .simp
def Zd(w:World)(e:Ending)(w':World):Prop:=e= .returned (.bool true)∧Below w.heap.size w w'
set_option maxHeartbeats 40000000 in
set_option maxRecDepth 100000 in
theorem Si(l:List iY)(l2:List nP)(A:Option Addr)(c:Nat)(B:Option Addr)(d:Nat)(n:ByteArray)(o:Int)(p:Bool)(w:World)(hC:Kd.C k28 w A l.length l)(hc:l.length≤c)(hD:Kd.C sU w B l2.length l2)(hd:l2.length≤d)
  (hl:l.length≤1100000)(hl2:l2.length≤1100000)(hz:Dc l)(hz2:∀x∈l2,BP x.f1.f0 x.f1.f2)(hb2:∀x∈l2,x.f1.f2.length<1100000)(htab:sK w)(T:∀W:World,Calls Tryz.prog 4 #[] W λ e w'=>e= .returned (.bool true)∧Below W.heap.size W w'):
  Calls Tryz.prog 3 #[.slice A l.length c,.slice B l2.length d,.agg #[.string n,.int .i64 o,.bool p]] w λ e w'=>Zd w e w':=by
 have hu25:=Tryz.underlying25;have hu28:=Tryz.underlying28;have hu33:=Tryz.underlying33;have hu31:=Tryz.underlying31;have HC:=ah.mk hC;have U:=Lib.hid hc;have HD:=ah.mk hD;have X:=Lib.hid hd;have HL:=Lib.hid hl;have HL2:=Lib.hid hl2;have am:=Lib.hid hz;have HZ2:=Lib.hid hz2;have HB2:=Lib.hid hb2;have HT:=Lib.hid htab;have F:=Lib.hid T;clear hC hc hD hd hz hz2 hb2 htab T;by_cases h1:60<l.length
 .have b1:decide (60<(l.length:Int))=true:=decide_eq_true (by omega)
  have b2:decide (60<l.length)=true:=decide_eq_true h1;go_enter Tryz.func3,Tryz.ntmps3
  go_wp2_with (first|((with_reducible refine gV (N:=5) rfl ?_);refine rA ?hg (N:=5) ?hd (cs:= #[.string n,.int .i64 o,.bool p]) (t:=25) ?hr ?_;(case hd=>rfl);(case hg=>rfl);(case hr=>first|(go_simp;done)|(go_simp;rfl));intro g3 hg w1 s hb;have HB:=ah.mk hb;have z:=ah.mk s;clear hb s hg)|(go_at_call 4;refine(F.out _).mono ?_;rintro e wa ⟨rfl,hba⟩;have D:=ah.mk (aU HB.out hba);clear hba))
  go_ret;exact⟨rfl,D.out⟩
 have b1:decide (60<(l.length:Int))=false:=decide_eq_false (by omega);have b2:decide (60<l.length)=false:=decide_eq_false h1;by_cases h2:60<l2.length
 .have b3:decide (60<(l2.length:Int))=true:=decide_eq_true (by omega)
  have b4:decide (60<l2.length)=true:=decide_eq_true h2;go_enter Tryz.func3,Tryz.ntmps3
  go_wp2_with (first|((with_reducible refine gV (N:=5) rfl ?_);refine rA ?hg (N:=5) ?hd (cs:= #[.string n,.int .i64 o,.bool p]) (t:=25) ?hr ?_;(case hd=>rfl);(case hg=>rfl);(case hr=>first|(go_simp;done)|(go_simp;rfl));intro g3 hg w1 s hb;have HB:=ah.mk hb;have z:=ah.mk s;clear hb s hg)|(go_at_call 4;refine(F.out _).mono ?_;rintro e wa ⟨rfl,hba⟩;have D:=ah.mk (aU HB.out hba);clear hba))
  go_ret;exact⟨rfl,D.out⟩
 have b3:decide (60<(l2.length:Int))=false:=decide_eq_false (by omega);have b4:decide (60<l2.length)=false:=decide_eq_false h2;have Y:=Lib.hid (show l.length≤60 by omega);have I:=Lib.hid (show l2.length≤60 by omega);clear h1 h2;go_enter Tryz.func3,Tryz.ntmps3
 go_wp2_with (first|((with_reducible refine gV (N:=5) rfl ?_);refine rA ?hg (N:=5) ?hd (cs:= #[.string n,.int .i64 o,.bool p]) (t:=25) ?hr ?_;(case hd=>rfl);(case hg=>rfl);(case hr=>first|(go_simp;done)|(go_simp;rfl));intro g3 hg w1 s hb;have HB:=ah.mk hb;have z:=ah.mk s;clear hb s hg))
 clear b1 b2 b3 b4;go_loopw [7] (λ i wr=>∃(j:Nat),j≤l.length∧i= .int .i64 j∧ah (Below w.heap.size w wr)∧ah (wr.heap[g3]? =some (.cells #[.string n,.int .i64 o,.bool p] 25 (0,0)))) (λ i _=>l.length-(RowKit.intOf i).toNat)
 case atStart=>exact⟨0,Nat.zero_le _,rfl,HB,z⟩
 case round=>
  clear HB z;obtain⟨j,hj,rfl,HB,z⟩:=hrel;by_cases hlt:j<l.length
  .obtain⟨ad,hA,hx0,hx1,hx2,hx3⟩:=KC HC.out j (Int.natCast_nonneg j) (by omega)
   rw[Int.toNat_natCast]at hx0 hx1 hx2 hx3;subst hA;replace hx2:=au HB.out hx2;replace hx3:=au HB.out hx3;clear hx0 hx1;obtain⟨f,hf⟩:∃f,lZ l (j:Int)=f:=⟨_,rfl⟩;rw[hf]at hx2 hx3;clear hf;have c1:decide (j<l.length)=true:=decide_eq_true hlt;by_cases hv3:700<f.f3.size
   .have c3:decide (700<f.f3.size)=true:=decide_eq_true hv3
    go_wp2_with (first|(go_at_call 4;refine(F.out _).mono ?_;rintro e wa ⟨rfl,hba⟩;have D:=ah.mk (aU HB.out hba);clear hba))
    go_ret;exact⟨rfl,D.out⟩
   have c3:decide (700<f.f3.size)=false:=decide_eq_false hv3;by_cases hv2:700<f.f2.size
   .have c2:decide (700<f.f2.size)=true:=decide_eq_true hv2
    go_wp2_with (first|(go_at_call 4;refine(F.out _).mono ?_;rintro e wa ⟨rfl,hba⟩;have D:=ah.mk (aU HB.out hba);clear hba))
    go_ret;exact⟨rfl,D.out⟩
   have c2:decide (700<f.f2.size)=false:=decide_eq_false hv2;go_wp2;go_roundw
   case rel=>exact⟨j+1,by omega,by go_num,HB,z⟩
   case measure=>simp[RowKit.intOf];omega
  .obtain rfl:j=l.length:=by omega
   have c1:decide (l.length<l.length)=false:=decide_eq_false (by omega);go_wp2;clear c1;go_loopw [8] (λ i wr=>∃(j:Nat),j≤l2.length∧i= .int .i64 j∧ah (Below w.heap.size w wr)∧ah (wr.heap[g3]? =some (.cells #[.string n,.int .i64 o,.bool p] 25 (0,0)))) (λ i _=>l2.length-(RowKit.intOf i).toNat)
   case atStart=>exact⟨0,Nat.zero_le _,rfl,HB,z⟩
   case round=>
    clear HB z hj;obtain⟨j,hj,rfl,HB,z⟩:=hrel;by_cases hlt:j<l2.length
    .obtain⟨ad,A2,c2,hA,hx0,hx1,hx2,hx3,hl2,hC2⟩:=Fv HD.out j (Int.natCast_nonneg j) (by omega)
     rw[Int.toNat_natCast]at hx0 hx1 hx2 hx3;subst hA;replace hx3:=au HB.out hx3;clear hx0 hx1 hx2 hl2 hC2;obtain⟨x,hx⟩:∃x,nE l2 (j:Int)=x:=⟨_,rfl⟩;rw[hx]at hx3;clear hx;have c1:decide (j<l2.length)=true:=decide_eq_true hlt;by_cases hv3:60<x.f1.f2.length
     .have c3:decide (60<x.f1.f2.length)=true:=decide_eq_true hv3
      go_wp2_with (first|(go_at_call 4;refine(F.out _).mono ?_;rintro e wa ⟨rfl,hba⟩;have D:=ah.mk (aU HB.out hba);clear hba))
      go_ret;exact⟨rfl,D.out⟩
     have c3:decide (60<x.f1.f2.length)=false:=decide_eq_false hv3;go_wp2;go_roundw
     case rel=>exact⟨j+1,by omega,by go_num,HB,z⟩
     case measure=>simp[RowKit.intOf];omega
    .obtain rfl:j=l2.length:=by omega
     have c1:decide (l2.length<l2.length)=false:=decide_eq_false (by omega);clear c1;have c1:decide (l2.length<l2.length)=false:=decide_eq_false (by omega);obtain⟨⟨S,E⟩,hS⟩:∃S,Av l=S:=⟨_,rfl⟩;obtain⟨⟨V,G⟩,hV⟩:∃S,iB l2 n o p=S:=⟨_,rfl⟩;have HS:=Lib.hid hS;have O:=Lib.hid hV;have an:=Lib.hid (show V.length≤l2.length by have:=LQ l2 n o p;rw[hV]at this;exact this);clear hS hV
     go_wp2_with (first|(go_at_call 5;refine(Ja l A c _ (Kd.eH HC.out HB.out) U.out am.out Y.out (HT.out.below HB.out)).mono ?_;rintro e w5 ⟨rfl,hb⟩;rw[HS.out];have Z:=ah.mk (aU HB.out hb);have ao:=ah.mk (bY z.out hb);clear hb)|(go_at_call 6;refine(LU l A c _ (Kd.eH HC.out Z.out) U.out am.out Y.out).mono ?_;rintro e w6 ⟨rfl,hb⟩;rw[HS.out];have aa:=ah.mk (aU Z.out hb);have J:=ah.mk (bY ao.out hb);clear hb;have hg0:=(aj J.out 0).trans rfl;have hg1:=(aj J.out 1).trans rfl;have hg2:=(aj J.out 2).trans rfl)|(go_at_call 7;refine(LV l2 B d n o p _ (Kd.eH HD.out aa.out) X.out HZ2.out I.out).mono ?_;rintro e w7 ⟨v7,rfl,hv,hb⟩;rw[O.out]at hv;rw[O.out];have ab:=ah.mk (aU aa.out hb);have L:=ah.mk (bY J.out hb);have ac:=ah.mk hv;clear hb hv hg0 hg1 hg2;have hg0:=(aj L.out 0).trans rfl;have hg1:=(aj L.out 1).trans rfl;have hg2:=(aj L.out 2).trans rfl)|(go_at_call 8;refine(LW l2 B d n o p _ (Kd.eH HD.out ab.out) X.out HZ2.out HB2.out I.out).mono ?_;rintro e w8 ⟨v8,rfl,hv,hb⟩;rw[O.out]at hv;rw[O.out];have ap:=ah.mk (aU ab.out hb);obtain⟨ar,c8,e8⟩:=Kd.aY hv;subst e8;have ae:=ah.mk (Kd.aH hv).2;obtain⟨A7,c7,e7⟩:∃A7 c7,v7= .slice A7 V.length c7:=(by obtain⟨a_,c_,e_⟩:=Kd.aY ac.out;exact⟨a_,c_,e_⟩);subst e7;have af:=ah.mk (Kd.aH ac.out).2;have al:=ah.mk (Kd.eH af.out.2 hb);clear hb hv hg0 hg1 hg2)|(go_at_call 9;refine(cO.calls (V.length+1) A7 c7 V ar c8 V true _ al.out af.out.1 ae.out.2 ae.out.1 (Kz V (by have:=an.out;have:=I.out;omega) _ (Nat.lt_succ_self _))).mono ?_;rintro e w9 ⟨rfl,ag⟩;have aq:=ah.mk ag;clear ag)|(go_at_call 4;refine(F.out _).mono ?_;rintro e wa ⟨rfl,hba⟩;have D:=ah.mk (aU (aU ap.out aq.out.below) hba);clear hba))
     go_ret;exact⟨rfl,D.out⟩
end Go.Proofs.Ct.Q
