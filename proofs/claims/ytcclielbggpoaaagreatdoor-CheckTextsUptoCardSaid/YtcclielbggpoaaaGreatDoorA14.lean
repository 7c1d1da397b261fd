/- Part of the proof of CheckTexts (see the last text). -/
import Derived.Test.YtcclielbggpoaaaGreatDoorA13
set_option linter.all false
namespace Go.Proofs.Ct.Q
open Go.Proofs.g_ Go.RowKit Go.Proofs.aA.ak Go.Proofs.aA.aC Go.Proofs.aA.aG Go.Proofs.bO
attribute [local go_sem] aW aX bA bB
def Ux(q r:List Int)(w:World)(e:Ending)(w':World):Prop:=∃v1 v2:Value,e= .returned (.tuple #[v1,v2])∧Kd.V (Kd.int .u32) 328 w' w.heap.size (λ k=>w.heap.size≤k) v1 q∧Kd.V (Kd.int .u32) 328 w' w.heap.size (λ k=>w.heap.size≤k) v2 r∧Below w.heap.size w w'
set_option maxHeartbeats 40000000 in
set_option maxRecDepth 100000 in
theorem NI(m n:Nat)(A0:Option Addr)(c0:Nat)(A1:Option Addr)(c1:Nat)(w:World)(hr0:Kd.C (Kd.int .u32) w A0 (limbs B9 m).length (limbs B9 m))(hc0:(limbs B9 m).length≤c0)(hr1:Kd.C (Kd.int .u32) w A1 (limbs B9 n).length (limbs B9 n))(hc1:(limbs B9 n).length≤c1)(hn:0<n)(hnm:n≤m)(hlm:(limbs B9 m).length<500000):
 Calls Tryz.prog 322 #[.slice A0 (limbs B9 m).length c0,.slice A1 (limbs B9 n).length c1] w λ e w'=>Ux (limbs B9 (m/n)) (limbs B9 (m% n)) w e w':=by
 have hln:=Nat.lt_of_le_of_lt (fU iq hnm) hlm;have b8:0<(limbs B9 n).length:=Nat.pos_of_ne_zero (λ e=>nC iq (by omega) (List.length_eq_zero_iff.1 e));obtain⟨x,hx,cR,hs0,an⟩:=P6 n hn;obtain⟨s,hs⟩:∃s,1000000000/(x+1)=s:=⟨_,rfl⟩;rw[hs]at hs0 an;obtain⟨ad,hA1,hcx⟩:∃ad,A1=some ad∧w.cell? (ad.add ((limbs B9 n).length-1))=some (.int .u32 (x:Int)):=by
  obtain⟨_,_,h3⟩:=Kd.lC (d:=0) hr1;obtain⟨ad,e,hc⟩:=h3 b8;refine⟨ad,e,(hc _ (by omega)).trans ?_⟩;rw[List.getD_eq_getElem?_getD,hx];rfl
 subst hA1;have HT0:=Lib.hid (Ec m s (by omega) an 40000000 (by decide));have HT1:=Lib.hid (Ec n s (by omega) an 40000000 (by decide));have ba:=Lib.hid (Am m s an);have bb:=Lib.hid (Am n s an);have cS:=Lib.hid hlm;have HL2:=Lib.hid hln;have b9:=ah.mk hr0;have HR1:=ah.mk hr1;have HX:=Lib.hid hx;have ca:=Lib.hid (scaled m n s hs0);clear hr0 hr1 hx;obtain⟨X,hX⟩:∃X,limbs B9 m=X:=⟨_,rfl⟩;obtain⟨Y,hY⟩:∃Y,limbs B9 n=Y:=⟨_,rfl⟩;rw[hX]at b9 hc0 hlm HT0 ba cS;rw[hY]at HR1 hc1 hln HT1 bb hcx b8 HX HL2;rw[hX,hY];have HXE:=Lib.hid hX;have HYE:=Lib.hid hY;clear hX hY;have hj:IntKind.i64.wrap ((Y.length:Int)-1)=((Y.length-1:Nat):Int):=by
  have:=eY ((Y.length:Int)-1);rw[this,eG (by omega) (by omega)];omega
 have p1:((0:Int)≤((Y.length-1:Nat):Int))=True:=eq_true (by omega);have q1:(((Y.length-1:Nat):Int)<(Y.length:Int))=True:=eq_true (by omega);have HB:=ah.mk (Below.refl w.heap.size w);go_enter Tryz.func322,Tryz.ntmps322
 go_upto_region 2 with fail
 have e6:(1000000000/((x:Int)+1)% 4294967296)=(s:Int):=by
  rw[<-hs];have h1:1000000000/((x:Int)+1)=((1000000000/(x+1):Nat):Int):=by rw[Int.natCast_ediv];rfl
  rw[h1];have:1000000000/(x+1)<1000000000:=by rw[hs];exact an
  omega
 rw[e6];clear e6 hj p1 q1 hcx HX hs cR;obtain⟨XS,bc⟩:∃XS,limbs B9 (m*s)=XS:=⟨_,rfl⟩;obtain⟨al,bd⟩:∃al,limbs B9 (n*s)=al:=⟨_,rfl⟩;rw[bc]at HT0 ba;rw[bd]at HT1 bb;have be:=Lib.hid bc;have ab:=Lib.hid bd;clear bc bd;have hlXS:XS.length≤500001:=by have:=ba.out;omega
 have hlYS:al.length≤500001:=by have:=bb.out;omega
 have az:cZ.f XS=some XS:=by unfold cZ.f;rw[if_pos (by omega)]
 have cT:=Lib.hid az;clear az
 go_upto_region 5 with(first|(have _t:=HT0;go_at_call 406;refine(lF.calls 40000000 _ _ _ _ _ _ b9.out hc0 HT0.out).mono ?_;rintro e w2 ⟨v7,rfl,hv,hb⟩;have E:=ah.mk hv;have HB2:=kh hb;have bh:=ah.mk (Kd.eH HR1.out hb);have HG2:=ah.mk hb.size;clear HB HR1 hv hb HT0)|(have _t:=HT1;go_at_call 406;refine(lF.calls 40000000 _ _ _ _ _ _ bh.out hc1 HT1.out).mono ?_;rintro e w3 ⟨v8,rfl,hv,hb⟩;have bj:=ah.mk (Kd.bU hv (λ k hk=>Nat.le_trans HG2.out hk));have HB3:=ah.mk (aU HB2.out hb);have ar:=kV E hb;clear E HB2 bh HG2 hv hb HT1;obtain⟨A7,c7,e_⟩:=Kd.aY ar.out;subst e_;obtain⟨A8,c8,e_⟩:=Kd.aY bj.out;subst e_)|(go_at_call 407;refine(cZ.calls A7 c7 XS XS _ (Kd.aH ar.out).2.2 (Kd.aH ar.out).2.1 cT.out).mono ?_;rintro e w4 ⟨v9,rfl,ho,hb⟩;have bk:=ah.mk ho;have bl:=ah.mk hb;have ac:=ah.mk (Kd.iA (Kd.zG bj.out) hb);clear ar bj ho hb)|((with_reducible refine eX (b:= .append) (xs:= #[.tmp 36,.tmp 37]) rfl ?_);at_builtin;refine Kd.jl (Kd.int .u32) (w0:=w3) w3.heap.size rfl (.tmp 36) (.tmp 37) 62 328 (.int .u32 0) 4 rfl Tryz.underlying62 iR rfl (by decide) (by omega) v9 XS 0 [.int .u32 0] (λ _=>True) (λ _=>False) rfl rfl ?cC (λ _ hk=>hk.elim) ?cD ?cE ?cF ?cG ?cH ?_;(case cC=>exact rfl);(case cF=>exact bl.out);(case cD=>exact(λ _ _=>trivial));(case cE=>exact bk.out);(case cG=>exact bl.out.size);(case cH=>omega);intro v7 w5 ho hb hg hat;have cb:=ah.mk hb;have cI:=ah.mk (Kd.bU (Kd.MK ac.out hg (λ k hk e=>absurd (Kd.Kc bk.out k e.symm) (by have:=hk.2;omega))) (λ k hk=>hk.1));have E:=ah.mk (Kd.kC (base':=w.heap.size) (Kd.gY (Kd.jV ho) (λ k hk=>(show w.heap.size≤k from Nat.le_trans HB3.out.size hk.2.1))));clear ho hb hg hat bk bl ac))
 obtain⟨a9,bm⟩:∃a9,XS++[0]=a9:=⟨_,rfl⟩;rw[bm]at E;obtain⟨A9,c9,e_⟩:=Kd.aY E.out;subst e_;have ae:=Lib.hid (show 0<n*s from Nat.mul_pos hn hs0);have cc:a9.length=XS.length+1:=by rw[<-bm];simp
 have hYX:al.length≤XS.length:=by
  rw[<-be.out,<-ab.out];exact fU iq (Nat.mul_le_mul_right s hnm)
 have HD0:=ah.mk (show vJ (n*s) (m*s) a9 [] ((XS.length+1-al.length:Nat)+1) by
  have:=vJ.start (n*s) (m*s) ae.out (Nat.mul_le_mul_right s hnm) (by rw[be.out];omega);rwa[be.out,ab.out,bm]at this)
 have hw1:IntKind.i64.wrap ((a9.length:Int)-(al.length:Int))=((XS.length+1-al.length:Nat):Int):=by
  rw[eY,eG (by omega) (by omega)];omega
 have bo:=ah.mk (aU HB3.out cb.out);clear HB3 cb;have HLU:=Lib.hid cc;clear cc
 go_upto_region 7 with fail
 go_loopw [7,10,11] (λ v7 v10 v11 wr=>∃(U D:List Int)(t:Nat),v11= .int .i64 ((t:Int)-1)∧ah (vJ (n*s) (m*s) U D t)∧ah (Below w5.heap.size w5 wr)∧ah (Kd.V (Kd.int .u32) 328 wr w.heap.size (λ k=>w.heap.size≤k∧some k≠v10.ownBlock) v7 U)∧ah (Kd.R (Kd.int .u32) 328 wr w5.heap.size (λ _=>True) v10 D)) (λ _ _ i _=>(RowKit.intOf i+1).toNat)
 case atStart=>exact⟨a9,[],_,by congr 1;omega,HD0,⟨Below.refl _ _⟩,⟨Kd.bU E.out (λ k hk=>⟨hk,by simp[Value.ownBlock]⟩)⟩,⟨Kd.mZ _ _ _ _ _⟩⟩
 case round=>
  clear E HD0 hw1;obtain⟨U,D,t,rfl,HD,ao,E,HO⟩:=hrel;cases t with
  |zero=>
   obtain⟨hD1,hD2,hD3,hD4⟩:=HD.out.done ae.out;rw[ca.out.1]at hD1;have bp:=Lib.hid (V9 D 700000 (by have:=HD.out.2.2.2.2.1;omega) (by have:=HD.out.2.2.2.2.1;omega));have Z:=Lib.hid (tY U 700000 (by omega) (by omega));rw[hD2]at Z;have br:=Lib.hid (tY D.reverse 700000 (by rw[List.length_reverse];omega) (by rw[List.length_reverse];have:=HD.out.2.2.2.2.1;omega));rw[hD1]at br;obtain⟨L,hL1,hL2,hL3⟩:=Ki (m*s% (n*s)) s (by have:=mq U;rw[hD2]at this;omega) hs0 (by omega) 700000 (by have:=mq U;rw[hD2]at this;omega);rw[ca.out.2]at hL3;have cd:=Lib.hid hL1;have cU:L.length≤600000:=by have:=mq U;rw[hD2]at this;omega
   have ce:=Lib.hid (tY L 700000 (by omega) (by omega));rw[hL3]at ce;obtain⟨D',hD'⟩:∃D',D.reverse=D':=⟨_,rfl⟩;rw[hD']at br bp;obtain⟨RR,hRR⟩:∃RR,limbs B9 (m*s% (n*s))=RR:=⟨_,rfl⟩;rw[hRR]at Z cd;clear hL1 hL2 hL3 hD1 hD2 hD3 hD4 cU hRR hD' HD;have b1:decide ((0:Int)≤((0:Nat):Int)-1)=false:=decide_eq_false (by omega);obtain⟨A7,c7,e_⟩:=Kd.aY E.out;subst e_;have cg:=ah.mk (Kd.Ah (h1:=λ _=>rfl) (ok:=λ k=>some k=u10.ownBlock) (Kd.Ap HO.out) (λ k hk=>hk.symm));have cV:=ah.mk (Kd.bU E.out (λ k hk=>hk.1));clear cV
   go_wp2_with (first|(go_at_call 409;refine(aZ.calls 700000 (λ k=>some k=u10.ownBlock) u10 D D' w5 _ ao.out cg.out bp.out).mono ?_;rintro e w6 ⟨rfl,ho,hb,hk⟩;have aL:=ah.mk (Kd.BR E.out (λ k hk1 hk2=>hk.2 k hk2 (λ e=>hk1.2 e)));have aB:=ah.mk (aU bo.out hb);have aO:=ah.mk (Kd.kC (base':=w.heap.size) (Kd.gY (Kd.jV ho) (λ k hk=>(show w.heap.size≤k from Nat.le_trans bo.out.size hk.2.1))));clear HO cg E ao ho hb hk;obtain⟨A10,c10,e_⟩:=Kd.aY aO.out;subst e_)|(have _t:=aL;go_at_call 317;refine(dQ.calls 700000 (λ k=>w.heap.size≤k) _ _ U RR _ (Kd.bU aL.out (λ k hk=>hk.1)) Z.out).mono ?_;rintro e w7 ⟨v1,rfl,hv,hb⟩;have a1:=ah.mk hv;have ap:=ah.mk (aU aB.out hb);have a2:=kV aO hb;clear aL aB aO hv hb;obtain⟨A11,c11,e_⟩:=Kd.aY a1.out;subst e_)|(go_at_call 321;refine(fH.calls 700000 _ _ RR _ L _ _ (Kd.aH a1.out).2.2 (Kd.aH a1.out).2.1 cd.out).mono ?_;rintro e w8 ⟨v2,rfl,hv,hb⟩;have aa:=ah.mk (aU ap.out hb);have av:=kV a2 hb;have bs:=ah.mk (Kd.kC (base':=w.heap.size) (Kd.gY (Kd.jV hv) (λ k hk=>(show w.heap.size≤k from Nat.le_trans ap.out.size hk.2.1))));clear a1 ap a2 hv hb;obtain⟨bt,c12,e_⟩:=Kd.aY bs.out;subst e_)|(have _t:=av;go_at_call 317;refine(dQ.calls 700000 (λ k=>w.heap.size≤k) _ _ D' _ _ av.out br.out).mono ?_;rintro e cJ ⟨v3,rfl,hv,hb⟩;have ch:=ah.mk (Kd.bU (ok':=λ k=>w.heap.size≤k) hv (λ k hk=>hk.elim id (λ h=>Nat.le_trans aa.out.size h)));have T:=ah.mk (aU aa.out hb);have aP:=kV bs hb;clear av aa bs hv hb)|(have _t:=aP;go_at_call 317;refine(dQ.calls 700000 (λ k=>w.heap.size≤k) _ _ L _ _ aP.out ce.out).mono ?_;rintro e cW ⟨v4,rfl,hv,hb⟩;have cX:=ah.mk (Kd.bU (ok':=λ k=>w.heap.size≤k) hv (λ k hk=>hk.elim id (λ h=>Nat.le_trans T.out.size h)));have I:=ah.mk (aU T.out hb);have cL:=kV ch hb;clear aP T ch hv hb))
   go_ret2;exact⟨_,_,rfl,cL.out,cX.out,I.out⟩
  |succ t=>
   have hat:(((t+1:Nat):Int)-1)=(t:Int):=by omega
   rw[hat];clear hat;obtain⟨am,hw1,hw2,hw3,hw4,bu⟩:=HD.out.look ae.out;have hUl:U.length≤600000:=HD.out.2.2.2.1;obtain⟨q0,hq1,hq2,hq3⟩:=R6 am (n*s) ae.out hw3 (by rw[ab.out];omega);have Z:=Lib.hid (tY (U.drop t) 700000 (by rw[List.length_drop];omega) (by rw[List.length_drop];omega));rw[hw1]at Z;have hq4:=Ec (n*s) q0 (by rw[ab.out];omega) hq3 40000000 (by decide);rw[ab.out]at hq1 hq4;have cj:=Lib.hid hw2;have aD:=Lib.hid bu;have HW3:=Lib.hid hw3;obtain⟨PW,bv⟩:∃PW,limbs B9 am=PW:=⟨_,rfl⟩;rw[bv]at Z hq1 aD;have af:=Lib.hid bv;have HG:=Lib.hid hq1;have HT:=Lib.hid hq4;have cY:=Lib.hid hq2;clear hq1 hq4 hq2 hw1 hw2 bu hw3 bv;obtain⟨A7,c7,e_⟩:=Kd.aY E.out;subst e_;obtain⟨i,hi,_,hsz,_⟩:=info_parts iR;obtain⟨_,bw,ck⟩:=Kd.Aq (base:=w.heap.size) E.out;have cl:=Kd.TI (m:=t) ck (by omega) bw;have hsl:=Kn (P:=Tryz.prog) 62 328 .i64 Tryz.underlying62 hi 1 hsz A7 U.length c7 (t:Int) (Int.natCast_nonneg _) (by omega);rw[Int.toNat_natCast]at hsl;have hdl:U.length-t=(U.drop t).length:=by rw[List.length_drop]
   rw[hdl]at hsl;obtain⟨A',hA'⟩:∃A',(if c7=t then A7 else A7.map (·.add (t*1)))=A':=⟨_,rfl⟩;have bz:Kd.F (Kd.int .u32) wr (λ k=>w.heap.size≤k∧some k≠u10.ownBlock) A' (U.drop t).length (U.drop t):=by rw[<-hA'];exact cl
   rw[hA']at hsl;have a3:=ah.mk (show Kd.V (Kd.int .u32) 328 wr w.heap.size (λ k=>w.heap.size≤k∧some k≠u10.ownBlock) (.slice A' (U.drop t).length (c7-t)) (U.drop t)from Kd.BS (by rw[<-hdl];omega) bz);have ac:=ah.mk (Kd.iA (Kd.zG cI.out) ao.out);clear cl bz hA' ck hi hsz hdl;obtain⟨cM,bE⟩:∃cM,U.drop t=cM:=⟨_,rfl⟩;rw[bE]at a3 Z hsl cj;have cm:=Lib.hid bE;clear bE;have b1:decide ((0:Int)≤(t:Int))=true:=decide_eq_true (by omega);have cN:=Lib.hid bw;clear bw;have c2:=ah.mk (Below.refl wr.heap.size wr)
   go_upto_region 12 with(first|(have _t:=a3;go_at_call 317;refine(dQ.calls 700000 (λ k=>w.heap.size≤k) _ _ cM PW _ (Kd.bU a3.out (λ k hk=>hk.1)) Z.out).mono ?_;rintro e w6 ⟨v12,rfl,hv,hb⟩;have ag:=ah.mk hv;have aw:=kV ac hb;have aB:=ah.mk hb;clear a3 ac c2 hv hb;obtain⟨bt,c12,e_⟩:=Kd.aY ag.out;subst e_)|(go_at_call 408;refine(oJ.calls _ _ PW _ _ al _ _ (Kd.aH ag.out).2.2 (Kd.aH ag.out).2.1 (Kd.aH aw.out).2.2 (Kd.aH aw.out).2.1 HG.out).mono ?_;rintro e w7 ⟨rfl,hb⟩;have a4:=kV ag hb;have ax:=kV aw hb;have ap:=ah.mk (aU aB.out hb);clear ag aw aB hb)|(go_at_call 406;refine(lF.calls 40000000 _ _ al _ _ _ (Kd.aH ax.out).2.2 (Kd.aH ax.out).2.1 HT.out).mono ?_;rintro e w8 ⟨v14,rfl,hv,hb⟩;have z:=ah.mk (Kd.bU hv (ok':=λ _=>True) (λ _ _=>trivial));have a5:=kV a4 hb;have bI:=kV ax hb;have aa:=ah.mk (aU ap.out hb);clear a4 ax ap hv hb))
   go_loopw [13,14] (λ v13 v14 wr2=>∃q:Nat,v13= .int .u32 (q:Int)∧ah (am/(n*s)≤q∧q<1000000000)∧ah (Below w8.heap.size w8 wr2)∧ah (Kd.V (Kd.int .u32) 328 wr2 w.heap.size (λ _=>True) v14 (limbs B9 (n*s*q)))) (λ v _ _=>(RowKit.intOf v).toNat)
   case atStart=>exact⟨q0,rfl,⟨cY.out,hq3⟩,⟨Below.refl _ _⟩,z⟩
   case round=>
    clear z hq3;obtain⟨q,rfl,HQ,T,z⟩:=hrel;have hlq:(limbs B9 (n*s*q)).length<1000000:=by
     have:=Am (n*s) q HQ.out.2;rw[ab.out]at this;omega
    obtain⟨c,hc1,hc2⟩:=Aj (n*s*q) am hlq (by rw[af.out];have:=aD.out;omega) 1000000 hlq;obtain⟨aR,a6⟩:∃aR,limbs B9 (n*s*q)=aR:=⟨_,rfl⟩;rw[a6,af.out]at hc1;rw[a6]at z hlq;have aq:=Lib.hid a6;have bS:=Lib.hid hc1;have b0:=Lib.hid hc2;clear hc1 hc2 a6;obtain⟨co,c14,e_⟩:=Kd.aY z.out;subst e_;have J:=ah.mk (Kd.iA a5.out T.out);have aS:=ah.mk (Kd.iA bI.out T.out);by_cases hgt:am<n*s*q
    .have hcp:(c:Int)>0:=(b0.out.2).2 (Int.ofNat_lt.2 hgt)
     have b2:decide (0<c)=true:=decide_eq_true hcp;have c3:0<q:=Nat.pos_of_ne_zero (λ e=>by rw[e,Nat.mul_zero]at hgt;omega);have c4:am/(n*s)≤q-1:=by
      have:=(Nat.div_lt_iff_lt_mul ae.out).2 (show am<q*(n*s) by rw[Nat.mul_comm];exact hgt);omega
     have hmul:n*s*q-n*s=n*s*(q-1):=by rw[Nat.mul_sub,Nat.mul_one]
     obtain⟨L,hL1,hL2,hL3,hL4⟩:=Db (n*s*q) (n*s) (Nat.le_mul_of_pos_right _ c3) (by rw[aq.out];exact hlq) 1000000 (by rw[aq.out];exact hlq);rw[aq.out,ab.out]at hL1;rw[aq.out]at hL2;have HL:=Lib.hid hL1;have cp:=Lib.hid (tY L 2000000 (by omega) (by omega));rw[sH hL3,hL4,Int.toNat_natCast,hmul]at cp;have hwq:IntKind.u32.wrap ((q:Int)-1)=((q-1:Nat):Int):=by
      have:=HQ.out.2;have e:((q:Int)-1)=((q-1:Nat):Int):=by omega
      rw[e];show((q-1:Nat):Int)% 4294967296=_;omega
     have c5:=Lib.hid HQ.out.2;clear hL1 hL2 hL3 hL4 hmul hgt
     go_wp2_with (first|(go_at_call 320;refine(dK.calls 1000000 _ _ aR _ _ PW _ _ (Kd.aH z.out).2.2 (Kd.aH z.out).2.1 (Kd.aH J.out).2.2 (Kd.aH J.out).2.1 bS.out).mono ?_;rintro e cJ ⟨rfl,aE⟩;have hb:=aE.below;have O:=kV z hb;have ay:=kV aS hb;have I:=ah.mk (aU T.out hb);clear z aS J T hb aE)|(go_at_call 405;refine(dX.calls 1000000 _ _ aR _ _ al _ _ (Kd.aH O.out).2.2 (Kd.aH O.out).2.1 (Kd.aH ay.out).2.2 (Kd.aH ay.out).2.1 HL.out).mono ?_;rintro e cW ⟨v15,rfl,hv,hb⟩;have a0:=ah.mk (Kd.kC (base':=w.heap.size) hv);have b3:=ah.mk (aU I.out hb);clear O ay I hb hv;obtain⟨A15,c15,e_⟩:=Kd.aY a0.out;subst e_)|(go_at_call 317;refine(dQ.calls 2000000 (λ _=>True) _ _ L _ _ a0.out cp.out).mono ?_;rintro e w11 ⟨v16,rfl,hv,hb⟩;have cP:=ah.mk (Kd.bU hv (ok':=λ _=>True) (λ _ _=>trivial));have cQ:=ah.mk (aU b3.out hb);clear a0 b3 hv hb))
     go_roundw
     case rel=>exact⟨q-1,rfl,⟨c4,by have:=c5.out;omega⟩,cQ,cP⟩
     case measure=>simp[RowKit.intOf];omega
    .have b2:decide (0<c)=false:=decide_eq_false (λ h=>hgt (Int.ofNat_lt.1 ((b0.out.2).1 h)))
     have hqe:q=am/(n*s):=Nat.le_antisymm ((Nat.le_div_iff_mul_le ae.out).2 (by rw[Nat.mul_comm];omega)) HQ.out.1;obtain⟨R,b4,hR2,cr,ct⟩:=Db am (n*s*q) (by omega) (by rw[af.out];have:=aD.out;omega) 1000000 (by rw[af.out];have:=aD.out;omega);rw[af.out,aq.out]at b4;rw[af.out]at hR2;have hRl:R.length≤U.length-t:=by rw[hR2];exact aD.out
     have c6:=ah.mk (HD.out.next (R:=R) (q:=q) (W:=am) ae.out (by rw[cm.out];exact cj.out) hqe HQ.out.2 cr ct hRl);have da:=Lib.hid b4;have hDl:D.length≤600001:=by have:=HD.out.2.2.2.2.1;omega
     obtain⟨b5,db⟩:∃ad,A7=some ad:=by
      obtain⟨_,_,h3⟩:=Kd.lC (d:=0) (Kd.aH E.out).2.2;obtain⟨ad,e,_⟩:=h3 (by omega);exact⟨ad,e⟩
     subst db;have hlt:(U.take t).length=t:=by rw[List.length_take];omega
     clear hgt hqe b4 hR2 cr ct hlq b0 HQ
     go_upto_region 16 with(first|(go_at_call 320;refine(dK.calls 1000000 _ _ aR _ _ PW _ _ (Kd.aH z.out).2.2 (Kd.aH z.out).2.1 (Kd.aH J.out).2.2 (Kd.aH J.out).2.1 bS.out).mono ?_;rintro e cJ ⟨rfl,aE⟩;have hb:=aE.below;have O:=kV z hb;have aF:=kV J hb;have I:=ah.mk (aU T.out hb);clear z aS J T hb aE))
     go_cut [7] (λ v7 w'=>ah (Below w8.heap.size w8 w')∧ah (Kd.V (Kd.int .u32) 328 w' w.heap.size (λ k=>w.heap.size≤k∧some k≠u10.ownBlock) v7 (U.take t++R)))
     case first=>
      have hw9:=I.out.size;have hw8:=aa.out.size;have hwr:=ao.out.size;have bu:=bo.out.size;refine iW (F:=Fg (.slice (some b5) U.length c7) (.slice bt PW.length c12) (.slice co aR.length c14) b5 t w.heap.size (λ k=>w.heap.size≤k∧some k≠u10.ownBlock) U R) (by kernel_rfl) (by kernel_rfl) (LK _ _ _ _ _ _ _ _ _) (V6 b5 U.length c7 bt PW c12 co aR c14 t w.heap.size _ U R _ (by have:=cN.out;omega) (by omega) (by omega) ?hU (Kd.d_ (Kd.bU aF.out (λ _ _=>trivial))) (Kd.d_ O.out) da.out ?hok _ rfl rfl rfl rfl) ?_
      case hU=>
       have hF:=Kd.Fj (m:=t) (Kd.Aq (base:=w.heap.size) (Kd.d_ (Kd.iA E.out (aU aa.out I.out)))).2.2 (by omega);have hV:=Kd.BS (e:=328) (base:=w.heap.size) (c:=t) (Nat.le_of_eq hlt) hF;rwa[hlt]at hV
      case hok=>
       intro k hk;have hk':cJ.heap.size≤k:=hk;refine⟨by omega,λ e=>?_⟩;have:=Kd.qB HO.out k e.symm;omega
      intro a w' hF ha hb;have cv:_=_:=hF 0 _ 67 rfl rfl;have cw:_=_:=hF 1 _ 68 rfl rfl;have cx:_=_:=hF 2 _ 69 rfl rfl;have cy:_=_:=hF 3 _ 70 rfl rfl;have cz:_=_:=hF 4 _ 71 rfl rfl;have cA:_=_:=hF 5 _ 72 rfl rfl;have k7:Kd.V (Kd.int .u32) 328 w' w.heap.size (λ k=>w.heap.size≤k∧some k≠u10.ownBlock) (a.tmps.getD 7 undef) (U.take t++R):=hF 8 _ 7 rfl rfl;simp only[eU,List.foldl_cons,List.foldl_nil,cv,cw,cx,cy,cz,cA]at ha;generalize a.tmps.getD 73 undef=v73 at ha;generalize a.tmps.getD 74 undef=v74 at ha;generalize a.tmps.getD 7 undef=v7 at ha k7;clear hF cv cw cx cy cz cA;subst ha;simp only[Act.put,List.setIfInBounds_toArray,List.set_cons_zero,List.set_cons_succ];have a7:=ah.mk k7;have a8:=ah.mk (aU (b_ I.out) hb);clear k7 hb;go_wp2;go_meet
      case rel=>exact⟨a8,a7⟩
     case rest=>
      obtain⟨a8,a7⟩:=hcut;have b6:=ah.mk (aU aa.out a8.out);have cB:=ah.mk (Kd.pX HO.out b6.out);have b7:=ah.mk (aU ao.out b6.out);clear aa I a8 ao HO E aF O a5 bI bS aq af cm hlt;have hw7:IntKind.i64.wrap ((t:Int)-1)=(t:Int)-1:=by rw[eY,eG (by omega) (by omega)]
      go_wp2_with (first|((with_reducible refine eX (b:= .append) (xs:= #[.tmp 75,.tmp 77]) rfl ?_);at_builtin;refine Kd.jl (Kd.int .u32) (w0:=w5) w5.heap.size rfl (.tmp 75) (.tmp 77) 62 328 (.int .u32 0) 4 rfl Tryz.underlying62 iR rfl (by decide) (by omega) u10 D (q:Int) [.int .u32 (q:Int)] (λ _=>True) (λ _=>False) rfl rfl ?cC (λ _ hk=>hk.elim) ?cD ?cE ?cF ?cG ?cH ?_;(case cC=>exact rfl);(case cF=>exact b7.out);(case cD=>exact(λ _ _=>trivial));(case cE=>exact cB.out);(case cG=>exact b7.out.size);(case cH=>omega);intro v1 w12 ho hb hg hat;have dc:=ah.mk ho;have dd:=ah.mk hb;have de:=ah.mk (Kd.bU (ok':=λ k=>w.heap.size≤k∧some k≠v1.ownBlock) (Kd.MK (Kd.zG a7.out) hg (λ k hk=>hk.1.2)) (λ k hk=>⟨hk.1.1,λ e=>by(rcases hat with h|⟨b,h,hbb⟩);(exact hk.1.2 (e.trans h));(rw[h]at e;cases e;exact Nat.not_lt.2 hbb hk.2)⟩));clear ho hb hg hat cB b7 a7 b6))
      go_roundw
      case rel=>exact⟨U.take t++R,D++[(q:Int)],t,rfl,c6,dd,de,dc⟩
      case measure=>simp[RowKit.intOf]
end Go.Proofs.Ct.Q
namespace Go.Proofs.Ct.Q
open Go.Proofs.g_ Go.RowKit Go.Proofs.aA.ak Go.Proofs.aA.aC Go.Proofs.aA.aG Go.Proofs.bO
theorem PZ{w:World}{ad:Addr}{x:Int}(hb:w.heap[ad.block]? =some pG):w.cell? ad≠some (.int .u32 x):=by
 intro h;simp[World.cell?,hb,pG]at h;rcases ad with⟨b,off,t⟩
 match off with
 |0=>simp at h
 |1=>simp at h
 |n+2=>simp at h
theorem uW{W:World}{e base:Nat}{ok:Nat->Prop}{v:Value}{xs:List Int}(h:Kd.V (Kd.int .u32) e W base ok v xs)(g:Nat)(hg:W.heap[g]? =some pG):
  Kd.V (Kd.int .u32) e W base (λ k=>ok k∧k≠g) v xs:=by
 obtain⟨A,c,hv,hl,hF⟩:=h;refine⟨A,c,hv,hl,?_⟩;intro W' hW';obtain⟨r1,r2,r3⟩:=Kd.lC (d:=0) (Kd.TH hF);by_cases hx:xs=[]
 .subst hx
  exact Kd.Al (d:=0) ⟨rfl,by simp,λ h=>by simp at h⟩
 .have hpos:0<xs.length:=List.length_pos_iff.2 hx
  let H:Array Obj:=Array.ofFn (n:=max (g+1) W'.heap.size) λ i=>if i.val=g then pG else W'.heap.getD i.val pG;have hH:∀k,k<max (g+1) W'.heap.size->H[k]? =some (if k=g then pG else W'.heap.getD k pG):=λ k hk=>by simp[H,hk]
  have hag:∀k,ok k->k<W.heap.size->({W' with heap:=H}:World).heap[k]? =W.heap[k]? :=λ k hk hlt=>by
   show H[k]? =W.heap[k]?;by_cases hkg:k=g
   .subst hkg
    rw[hH k (by omega),if_pos rfl,hg]
   .have h1:=hW' k ⟨hk,hkg⟩ hlt
    have h2:k<W'.heap.size:=MJ h1 hlt;rw[hH k (by omega),if_neg hkg,<-h1];simp[h2]
  obtain⟨q1,q2,q3⟩:=Kd.lC (d:=0) (hF _ hag);obtain⟨ad,hA,hc⟩:=q3 hpos;have h0:=hc 0 hpos;refine Kd.Al (d:=0) ⟨q1,q2,λ _=>⟨ad,hA,λ j hj=>?_⟩⟩;have hj2:=hc j hj;have hbk:(ad.add j).block=ad.block:=by unfold Addr.add;split<;>rfl
  have hne:H[ad.block]? ≠some pG:=λ hz=>PZ (w:={W' with heap:=H}) (ad:=ad.add j) (by rw[hbk];exact hz) hj2;have hlt:ad.block<max (g+1) W'.heap.size:=Nat.lt_of_not_le λ hge=>by
   have:H[ad.block]? =none:=by simp[H,hge]
   have h3:({W' with heap:=H}:World).cell? (ad.add j)=none:=by simp[World.cell?,hbk,this]
   rw[h3]at hj2;cases hj2
  have h4:=hH _ hlt;have h5:ad.block≠g:=λ e=>hne (by rw[h4,if_pos e]);rw[if_neg h5]at h4;have h6:ad.block<W'.heap.size:=Nat.lt_of_not_le λ hge=>hne (by rw[h4];simp[Nat.not_lt.2 hge]);rw[<-hj2];refine(World.cell?_of_block (w:=W') (w':={W' with heap:=H}) (a:=ad.add j) ?_).symm;rw[hbk];show H[ad.block]? =W'.heap[ad.block]?;rw[h4];simp[h6]
end Go.Proofs.Ct.Q
namespace Go.Proofs.Ct.Q
open Go.Proofs.g_ Go.RowKit Go.Proofs.aA.ak Go.Proofs.aA.aC Go.Proofs.aA.aG Go.Proofs.bO
attribute [local go_sem] aW aX bA bB
def Y7(q r:List Int)(P0:Nat->Prop)(w:World)(e:Ending)(w':World):Prop:=∃v1 v3:Value,e= .returned (.tuple #[.agg #[.bool false,v1],.agg #[.bool false,v3]])∧Kd.V (Kd.int .u32) 328 w' w.heap.size (λ k=>P0 k∨w.heap.size≤k) v1 q∧Kd.V (Kd.int .u32) 328 w' w.heap.size (λ k=>P0 k∨w.heap.size≤k) v3 r∧Below w.heap.size w w'
theorem Y8(r:Nat)(h:r<1000000000):dU [(r:Int)]=limbs B9 r:=by
 have hi:inr 1000000000 [(r:Int)]:=kX.2 ⟨⟨Int.natCast_nonneg _,Int.ofNat_lt.2 h⟩,lQ _⟩;rw[sH hi];simp[val]
theorem Y9(w:World)(base:Nat)(hb:base≤w.heap.size)(x:Int)(ok:Nat->Prop)(hok:ok w.heap.size):Kd.V (Kd.int .u32) 328 (w.alloc (.cells #[.int .u32 x] 328)) base ok (.slice (some ⟨w.heap.size,0,none⟩) 1 1) [x]:=by
 refine Kd.kC (base:=base) (Kd.Ah (xs:=[x]) ⟨rfl,.inr ⟨w.heap.size,1,#[.int .u32 x],rfl,hb,lS w _,Nat.le_refl _,by decide,rfl,rfl⟩⟩ (λ k hk=>?_));have:w.heap.size=k:=by simpa[Value.ownBlock]using hk
 rw[<-this];exact hok
theorem Ai(w:World)(o:Obj):(w.alloc o).heap.size=w.heap.size+1:=Array.size_push _
theorem Eb(w:World)(o:Obj)(n:Nat)(h:n=w.heap.size):(w.alloc o).heap[n]? =some o:=by subst h;exact lS w o
theorem four(w:World)(o2 o3 o4 o5:Obj):∃wA,(((w.alloc o2).alloc o3).alloc o4).alloc o5=wA∧Below w.heap.size w wA∧wA.heap.size=w.heap.size+4∧wA.heap[w.heap.size]? =some o2∧wA.heap[w.heap.size+1]? =some o3∧wA.heap[w.heap.size+1+1]? =some o4∧wA.heap[w.heap.size+1+1+1]? =some o5:=
 ⟨_,rfl,fA (fA (fA (fA (Below.refl _ _) _) _) _) _,by simp[Ai],dP (dP (dP (lS w _) _) _) _,dP (dP (Eb _ _ _ (by simp[Ai])) _) _,dP (Eb _ _ _ (by simp[Ai])) _,Eb _ _ _ (by simp[Ai])⟩
set_option maxHeartbeats 40000000 in
set_option maxRecDepth 100000 in
theorem PY(m n:Nat)(P0:Nat->Prop)(A0:Option Addr)(c0:Nat)(A1:Option Addr)(c1:Nat)(w:World)(hs0:Kd.V (Kd.int .u32) 328 w w.heap.size P0 (.slice A0 (limbs B9 m).length c0) (limbs B9 m))(hr1:Kd.C (Kd.int .u32) w A1 (limbs B9 n).length (limbs B9 n))(hc1:(limbs B9 n).length≤c1)(hn:0<n)(hlm:(limbs B9 m).length<500000)(hln:(limbs B9 n).length<500000):
 Calls Tryz.prog 234 #[.agg #[.bool false,.slice A0 (limbs B9 m).length c0],.agg #[.bool false,.slice A1 (limbs B9 n).length c1]] w λ e w'=>Y7 (limbs B9 (m/n)) (limbs B9 (m% n)) P0 w e w':=by
 have hu64:=Tryz.underlying64;have am:=ah.mk hs0;have HR1:=ah.mk hr1;clear hs0 hr1;obtain⟨X,hX⟩:∃X,limbs B9 m=X:=⟨_,rfl⟩;obtain⟨Y,hY⟩:∃Y,limbs B9 n=Y:=⟨_,rfl⟩;go_enter Tryz.func234,Tryz.ntmps234
 go_upto_region 1 with fail
 obtain⟨wA,T,ac,hsz,k2,k3,k4,k5⟩:=four w (.cells #[.bool false,.slice A0 X.length c0] 64) (.cells #[.bool false,.slice A1 Y.length c1] 64) (.cells #[.bool false,.slice none 0 0] 64) (.cells #[.bool false,.slice none 0 0] 64);rw[T];clear T;obtain⟨g2,hg2⟩:∃g,w.heap.size=g:=⟨_,rfl⟩;obtain⟨g3,hg3⟩:∃g,w.heap.size+1=g:=⟨_,rfl⟩;obtain⟨g4,hg4⟩:∃g,w.heap.size+1+1=g:=⟨_,rfl⟩;obtain⟨g5,hg5⟩:∃g,w.heap.size+1+1+1=g:=⟨_,rfl⟩;rw[hg5]at k5;rw[hg4]at k4;rw[hg3]at k3;rw[hg2]at k2;have HG:=Lib.hid (⟨hg2,hg3,hg4,hg5,hsz⟩:w.heap.size=g2∧w.heap.size+1=g3∧w.heap.size+1+1=g4∧w.heap.size+1+1+1=g5∧wA.heap.size=w.heap.size+4);simp only[hg5];simp only[hg4];simp only[hg3];obtain⟨c,ab,an⟩:=Aj m n (by omega) (by omega) 1000000 (by omega);rw[hX,hY]at ab;have ao:=Lib.hid ab;have ax:=Lib.hid an;have E:=Lib.hid hX;have ae:=Lib.hid hY;rw[hX]at am;rw[hY]at HR1;rw[hX]at hlm;rw[hY]at hln hc1;rw[hX,hY];have U:=Lib.hid hlm;have HLN:=Lib.hid hln;have af:=Lib.hid hc1;subst hg2;have s:=ah.mk (Kd.iA am.out ac);have Z:=ah.mk (Kd.eH HR1.out ac);have I:=ah.mk ac;have K2:=ah.mk k2;have be:=ah.mk k3;have bE:=ah.mk k4;have bI:=ah.mk k5;have c20:=(aj k2 0).trans rfl;have c21:=(aj k2 1).trans rfl;have ag:=(aj k3 0).trans rfl;have c31:=(aj k3 1).trans rfl;clear ab an hX hY hg3 hg4 hg5 ac hsz k2 k3 k4 k5 am HR1
 go_upto_block 0 with fail
 go_cut [6,7] (λ v6 v7 w'=>∃Q R:List Int,ah (Below wA.heap.size wA w')∧ah (Kd.V (Kd.int .u32) 328 w' w.heap.size (λ k=>P0 k∨w.heap.size≤k) v6 Q)∧ah (Kd.V (Kd.int .u32) 328 w' w.heap.size (λ k=>P0 k∨w.heap.size≤k) v7 R)∧ah (dU Q=limbs B9 (m/n)∧dU R=limbs B9 (m% n)∧Q.length≤500000∧R.length≤500000))
 case first=>
  by_cases hmn:m<n
  .have b1:decide (c<0)=true:=decide_eq_true ((ax.out.1).2 (Int.ofNat_lt.2 hmn))
   have al:=Lib.hid hmn;clear hmn
   go_wp2_with (first|(go_at_call 320;refine(dK.calls 1000000 _ _ X _ _ Y _ _ (Kd.aH s.out).2.2 (Kd.aH s.out).2.1 Z.out af.out ao.out).mono ?_;rintro e w5 ⟨rfl,D⟩;have hb:=D.below;have z:=ah.mk hb;clear c20 c21 ag c31;have c21:=(aj (bY K2.out hb) 1).trans rfl;clear hb D))
   go_meet
   case rel=>exact⟨[],X,z,⟨Kd.lu _ _ _ _ _⟩,⟨Kd.bU (Kd.iA s.out z.out) (λ k hk=> .inl hk)⟩,⟨by rw[Nat.div_eq_of_lt al.out,bZ];rfl,by rw[Nat.mod_eq_of_lt al.out,<-E.out];exact yX iq (sI iq m),by simp,by have:=U.out;omega⟩⟩
  .have b1:decide (c<0)=false:=decide_eq_false (λ h=>hmn (Int.ofNat_lt.1 ((ax.out.1).1 h)))
   by_cases hl1:Y.length=1
   .have b3:((Y.length:Int)==1)=true:=beq_iff_eq.2 (by omega)
    have aa:n<B9:=by
     have:=nV iq n;rw[ae.out,hl1,Nat.pow_one]at this;exact this
    have ap:Y=[(n:Int)]:=by
     rw[<-ae.out,iL iq (by omega),Nat.mod_eq_of_lt aa,Nat.div_eq_of_lt aa,bZ]
    obtain⟨ad,hA1,hcy⟩:∃ad,A1=some ad∧wA.cell? ad=some (.int .u32 (n:Int)):=by
     obtain⟨_,_,h3⟩:=Kd.lC (d:=0) Z.out;obtain⟨ad,e,hc⟩:=h3 (by omega);refine⟨ad,e,?_⟩;have:=hc 0 (by omega);rw[ap]at this;simpa[Addr.add]using this
    subst hA1;obtain⟨L,hL1,hL2,hL3⟩:=Ki m n (by rw[E.out];omega) hn (Nat.lt_trans aa (by decide)) 1000000 (by rw[E.out];omega);obtain⟨rr,hrr⟩:∃rr,m% n=rr:=⟨_,rfl⟩;rw[hrr]at hL1;have HRR:=Lib.hid hrr;clear hrr;rw[E.out]at hL1 hL2;have bh:=Lib.hid hL1;have HL2:=Lib.hid hL2;have bj:=Lib.hid hL3;have HYN:=Lib.hid ap;have bk:=ah.mk hcy;have bl:=Lib.hid aa;have bm:=Lib.hid hl1;clear hL1 hL2 hL3 ap hcy aa hmn hl1
    go_upto_region 7 with(first|(go_at_call 320;refine(dK.calls 1000000 _ _ X _ _ Y _ _ (Kd.aH s.out).2.2 (Kd.aH s.out).2.1 Z.out af.out ao.out).mono ?_;rintro e w5 ⟨rfl,D⟩;have hb:=D.below;have z:=ah.mk hb;clear c20 c21 ag c31;have c21:=(aj (bY K2.out hb) 1).trans rfl;have c31:=(aj (bY be.out hb) 1).trans rfl;clear hb D))
    go_cut [6,8] (λ v6 v8 w'=>v8= .int .u32 (rr:Int)∧ah (Below wA.heap.size wA w')∧ah (Kd.V (Kd.int .u32) 328 w' w.heap.size (λ k=>P0 k∨w.heap.size≤k) v6 L))
    case first=>
     have hw5:=z.out.size;have T:=I.out.size;rw[bm.out]at c31;refine iW (F:=Jr w.heap.size g3 (.slice A0 X.length c0) (.slice (some ad) 1 c1) ad (n:Int) (rr:Int) w.heap.size (λ k=>P0 k∨w.heap.size≤k) L) (by kernel_rfl) (by kernel_rfl) (NH _ _ _ _ _ _ _ _ _ _) (Yf w.heap.size g3 A0 X c0 ad c1 (n:Int) (rr:Int) w.heap.size (λ k=>P0 k∨w.heap.size≤k) L w5.drew c21 c31 (au (b_ z.out) bk.out) (Kd.zA (Kd.aH (Kd.iA s.out z.out)).2.2) (Kd.aH s.out).2.1 bh.out (λ k hk=> .inr (by have h:w5.heap.size≤k:=hk;omega)) _ rfl rfl) ?_;intro a w' hF ha hb;have ay:_=_:=hF 0 _ 34 rfl rfl;have az:_=_:=hF 1 _ 35 rfl rfl;have aB:_=_:=hF 2 _ 36 rfl rfl;have aD:_=_:=hF 3 _ 37 rfl rfl;have aE:_=_:=hF 4 _ 38 rfl rfl;have aF:_=_:=hF 5 _ 39 rfl rfl;have aL:_=_:=hF 9 _ 42 rfl rfl;have k8:_=_:=hF 11 _ 8 rfl rfl;have k6:Kd.V (Kd.int .u32) 328 w' w.heap.size (λ k=>P0 k∨w.heap.size≤k) (a.tmps.getD 6 undef) L:=hF 10 _ 6 rfl rfl;simp only[eU,List.foldl_cons,List.foldl_nil,ay,az,aB,aD,aE,aF,aL,k8]at ha;generalize a.tmps.getD 40 undef=v40 at ha;generalize a.tmps.getD 33 undef=v33 at ha;generalize a.tmps.getD 41 undef=v41 at ha;generalize a.tmps.getD 6 undef=v6 at ha k6;clear hF ay az aB aD aE aF aL k8;subst ha;simp only[Act.put,List.setIfInBounds_toArray,List.set_cons_zero,List.set_cons_succ];have aq:=ah.mk k6;have J:=ah.mk (aU (b_ z.out) hb);clear k6 hb;go_wp2;go_meet
     case rel=>exact⟨rfl,J,aq⟩
    case rest=>
     obtain⟨rfl,J,aq⟩:=hcut;go_wp2;go_meet
     case rel=>
      have hba:Below wc.heap.size wc (wc.alloc (.cells #[.int .u32 (rr:Int)] 328)):=fA (Below.refl _ _) _;have hwc:=J.out.size;have T:=I.out.size;exact⟨L,[(rr:Int)],⟨aU J.out hba⟩,⟨Kd.iA aq.out hba⟩,⟨Y9 wc w.heap.size (by omega) _ _ (.inr (by omega))⟩,⟨bj.out,by rw[HRR.out];exact Y8 rr (by have:=Nat.mod_lt m hn;rw[HRR.out]at this;exact Nat.lt_trans this bl.out),by have:=HL2.out;have:=U.out;omega,by simp⟩⟩
   .have hge:2≤Y.length:=by
     have:Y.length≠0:=λ e=>by
      have h:=ae.out;rw[List.length_eq_zero_iff.1 e]at h;exact absurd h (nC iq (by omega))
     omega
    have b3:((Y.length:Int)=1)=False:=eq_false (by omega);have al:=Lib.hid (show n≤m by omega);have ar:=NI m n;rw[E.out,ae.out]at ar;have bo:=Lib.hid ar;clear ar hmn
    go_wp2_with (first|(go_at_call 320;refine(dK.calls 1000000 _ _ X _ _ Y _ _ (Kd.aH s.out).2.2 (Kd.aH s.out).2.1 Z.out af.out ao.out).mono ?_;rintro e w5 ⟨rfl,D⟩;have hb:=D.below;have z:=ah.mk hb;clear c20 c21 ag c31;have c21:=(aj (bY K2.out hb) 1).trans rfl;have c31:=(aj (bY be.out hb) 1).trans rfl;have aO:=ah.mk (Kd.aH (Kd.iA s.out hb)).2.2;have aP:=ah.mk (Kd.eH Z.out hb);clear hb D)|(go_at_call 322;refine(bo.out _ _ _ _ _ aO.out (Kd.aH s.out).2.1 aP.out af.out hn al.out U.out).mono ?_;rintro e w6 ⟨v1,v2,rfl,h1,h2,hb⟩;have bp:=ah.mk h1;have br:=ah.mk h2;have O:=ah.mk (aU z.out hb);clear h1 h2 hb c21 c31 aO aP))
    go_meet
    case rel=>exact⟨limbs B9 (m/n),limbs B9 (m% n),O,⟨Kd.bU bp.out (λ k hk=> .inr (Nat.le_trans (Nat.le_trans I.out.size z.out.size) hk))⟩,⟨Kd.bU br.out (λ k hk=> .inr (Nat.le_trans (Nat.le_trans I.out.size z.out.size) hk))⟩,⟨yX iq (sI iq _),yX iq (sI iq _),by have:=fU iq (Nat.div_le_self m n);rw[E.out]at this;have:=U.out;omega,by have:=fU iq (Nat.mod_le m n);rw[E.out]at this;have:=U.out;omega⟩⟩
 case rest=>
  obtain⟨Q,R,O,HQ,HR,HE⟩:=hcut;obtain⟨A6,c6,e_⟩:=Kd.aY HQ.out;subst e_;obtain⟨A7,c7,e_⟩:=Kd.aY HR.out;subst e_;have hQ:=Ak Q false 1000000 (by have:=HE.out.2.2.1;omega) (by have:=HE.out.2.2.1;omega);have hR:=Ak R false 1000000 (by have:=HE.out.2.2.2;omega) (by have:=HE.out.2.2.2;omega);rw[Bool.false_and,HE.out.1]at hQ;rw[Bool.false_and,HE.out.2.1]at hR;have bs:=Lib.hid hQ;have bt:=Lib.hid hR;clear hQ hR c20 c21 ag c31;have aR:=(aj (bY K2.out O.out) 0).trans rfl;have aS:=(aj (bY be.out O.out) 0).trans rfl
  go_upto_region 10 with fail
  go_cut [9,10] (λ v9 v10 w'=>∃(g h:Nat)(v1 v2:Value),v9= .pointer (some ⟨g,0,none⟩)∧v10= .pointer (some ⟨h,0,none⟩)∧ah (w'.cell? ⟨g,0,none⟩=some (.bool false)∧w'.cell? ⟨g,1,none⟩=some v1∧w'.cell? ⟨h,0,none⟩=some (.bool false)∧w'.cell? ⟨h,1,none⟩=some v2)∧ah (Below wA.heap.size wA w'∧wA.heap.size≤g∧wA.heap.size≤h)∧ah (Kd.V (Kd.int .u32) 328 w' w.heap.size (λ k=>(P0 k∨w.heap.size≤k)∧k≠g∧k≠h) v1 (limbs B9 (m/n)))∧ah (Kd.V (Kd.int .u32) 328 w' w.heap.size (λ k=>(P0 k∨w.heap.size≤k)∧k≠g∧k≠h) v2 (limbs B9 (m% n))))
  case first=>
   have hwc:=O.out.size;have T:=I.out.size;refine Dj (F:=Js w.heap.size g3 (.slice A6 Q.length c6) (.slice A7 R.length c7) wc.drew w.heap.size (λ k=>P0 k∨w.heap.size≤k) (limbs B9 (m/n)) (limbs B9 (m% n))) sJ 13 _ _ (by kernel_rfl) (by kernel_rfl) rfl (by kernel_rfl) (by kernel_rfl) rfl rfl (NJ _ _ _ _ _ _ _ _ _) ?hT (jO.step (Yg w.heap.size g3 A6 Q c6 A7 R c7 w.heap.size (λ k=>P0 k∨w.heap.size≤k) _ _ wc.drew aR aS (Kd.d_ HQ.out) (Kd.d_ HR.out) bs.out bt.out (λ k hk=> .inr (by have h:wc.heap.size≤k:=hk;omega)) _ rfl rfl rfl rfl rfl)) ?_
   case hT=>exact⟨λ g e=>(by cases(show undef=Value.pointer (some ⟨g,0,none⟩)from e)),λ g e=>(by cases(show undef=Value.pointer (some ⟨g,0,none⟩)from e)),λ g h e=>(by cases(show undef=Value.pointer (some ⟨g,0,none⟩)from e))⟩
   intro a w' hF ha hb hT;have a0:_=_:=hF 0 _ 45 (by decide) rfl rfl;have a1:_=_:=hF 1 _ 46 (by decide) rfl rfl;have a2:_=_:=hF 2 _ 47 (by decide) rfl rfl;have a3:_=_:=hF 3 _ 48 (by decide) rfl rfl;have a4:_=_:=hF 4 _ 49 (by decide) rfl rfl;have a5:_=_:=hF 5 _ 50 (by decide) rfl rfl;obtain⟨v1,a6,m1⟩:=hF 6 _ 51 (by decide) rfl rfl;have a7:_=_:=hF 7 _ 52 (by decide) rfl rfl;have a8:_=_:=hF 8 _ 53 (by decide) rfl rfl;have a9:_=_:=hF 9 _ 54 (by decide) rfl rfl;obtain⟨v2,ba,m2⟩:=hF 10 _ 55 (by decide) rfl rfl;obtain⟨g,k9,n1,n2⟩:=hF 11 _ 9 (by decide) rfl rfl;obtain⟨h,k10,n3,n4⟩:=hF 12 _ 10 (by decide) rfl rfl;have hgh:=hT.2.2 g h k9 k10;have hhg:h≠g:=Ne.symm hgh;obtain⟨bb,c51,e_⟩:=Kd.aY m1;subst e_;obtain⟨bc,bd,e_⟩:=Kd.aY m2;subst e_;simp only[eU,List.take_succ_cons,List.take_zero,List.foldl_cons,List.foldl_nil,a0,a1,a2,a3,a4,a5,a6,a7,a8,a9,ba,k9,k10]at ha;have M1:=ah.mk (uW (uW m1 g n2) h n4);have M2:=ah.mk (uW (uW m2 g n2) h n4);have J:=ah.mk (aU (b_ O.out) hb);have av:wA.heap.size≤g:=Nat.le_trans hwc n1;have aw:wA.heap.size≤h:=Nat.le_trans hwc n3;have f0:=(aj n2 0).trans rfl;have f1:=(aj n2 1).trans rfl;have f2:=(aj n4 0).trans rfl;have f3:=(aj n4 1).trans rfl;have z0:=aI n2 0;have z1:=aI n2 1;have z2:=aI n4 0;have z3:=aI n4 1;clear hF a0 a1 a2 a3 a4 a5 a6 a7 a8 a9 ba k9 k10 m1 m2 hT hb n1 n3;subst ha;simp only[Act.put,List.setIfInBounds_toArray,List.set_cons_zero,List.set_cons_succ];go_wp2;go_meet
   case rel=>
    have far:∀(v:Value)(xs:List Int)(x1 x2 x3 x4:Value),Kd.V (Kd.int .u32) 328 w' w.heap.size (λ k=>((P0 k∨w.heap.size≤k)∧k≠g)∧k≠h) v xs->Kd.V (Kd.int .u32) 328 ((((w'.setCell ⟨g,0,none⟩ x1).setCell ⟨g,1,none⟩ x2).setCell ⟨h,0,none⟩ x3).setCell ⟨h,1,none⟩ x4) w.heap.size (λ k=>(P0 k∨w.heap.size≤k)∧k≠g∧k≠h) v xs:=λ v xs x1 x2 x3 x4 hv=>
     Kd.bU (Kd.oU (p:=⟨h,1,none⟩) (Kd.oU (p:=⟨h,0,none⟩) (Kd.oU (p:=⟨g,1,none⟩) (Kd.oU (p:=⟨g,0,none⟩) hv (λ k hk=>hk.1.2) x1) (λ k hk=>hk.1.2) x2) (λ k hk=>hk.2) x3) (λ k hk=>hk.2) x4) (λ k hk=>⟨hk.1.1,hk.1.2,hk.2⟩)
    exact⟨g,h,_,_,rfl,rfl,⟨by go_simp,by go_simp,by go_simp,by go_simp⟩,⟨bH (bH (bH (bH J.out av) av) aw) aw,av,aw⟩,⟨far _ _ _ _ _ _ M1.out⟩,⟨far _ _ _ _ _ _ M2.out⟩⟩
  case rest=>
   obtain⟨g,h,v1,v2,rfl,rfl,HC,bu,M1,M2⟩:=hcut;obtain⟨f0,f1,f2,f3⟩:=HC.out;obtain⟨bb,c51,e_⟩:=Kd.aY M1.out;subst e_;obtain⟨bc,bd,e_⟩:=Kd.aY M2.out;subst e_;clear aR aS;obtain⟨hb1,hg1,bv⟩:=bu.out;have k4:=bY bE.out hb1;have k5:=bY bI.out hb1;obtain⟨_,hg3,hg4,hg5,hsz⟩:=HG.out;have n45:g4≠g5:=by omega
   have n54:g5≠g4:=by omega
   have nh5:h≠g5:=by omega
   have nh4:h≠g4:=by omega
   have ng5:g≠g5:=by omega
   have ng4:g≠g4:=by omega
   have nh5':g5≠h:=by omega
   have nh4':g4≠h:=by omega
   have ng5':g5≠g:=by omega
   have ng4':g4≠g:=by omega
   have l4:w.heap.size≤g4:=by omega
   have bw:w.heap.size≤g5:=by omega
   have e40:=(aj k4 0).trans rfl;have e41:=(aj k4 1).trans rfl;have e50:=(aj k5 0).trans rfl;have e51:=(aj k5 1).trans rfl;have z40:=aI k4 0;have z41:=aI k4 1;have z50:=aI k5 0;have z51:=aI k5 1;have N1:=ah.mk (uW (uW M1.out g4 k4) g5 k5);have N2:=ah.mk (uW (uW M2.out g4 k4) g5 k5);have bz:=ah.mk (aU I.out hb1);clear hb1 hg1 bv k4 k5 hg3 hg4 hg5 hsz;go_wp2;go_region;all_goals
    go_wp2;refine bodyPost_ret_by (v:= .tuple #[.agg #[.bool false,.slice bb (limbs B9 (m/n)).length c51],.agg #[.bool false,.slice bc (limbs B9 (m% n)).length bd]]) ?hr rfl ?hR
    case hr=>
     rw[show results Tryz.f234 _=results Tryz.f234 _ from rfl];simp only[results,show Tryz.f234.results= #[.cell 4 64,.cell 5 64]from rfl];go_simp
    case hR=>
     have far:∀(v:Value)(xs:List Int)(x1 x2 x3 x4:Value),Kd.V (Kd.int .u32) 328 wc w.heap.size (λ k=>(((P0 k∨w.heap.size≤k)∧k≠g∧k≠h)∧k≠g4)∧k≠g5) v xs->Kd.V (Kd.int .u32) 328 ((((wc.setCell ⟨g4,0,none⟩ x1).setCell ⟨g4,1,none⟩ x2).setCell ⟨g5,0,none⟩ x3).setCell ⟨g5,1,none⟩ x4).drew w.heap.size (λ k=>P0 k∨w.heap.size≤k) v xs:=λ v xs x1 x2 x3 x4 hv=>
      Kd.d_ (Kd.bU (Kd.oU (p:=⟨g5,1,none⟩) (Kd.oU (p:=⟨g5,0,none⟩) (Kd.oU (p:=⟨g4,1,none⟩) (Kd.oU (p:=⟨g4,0,none⟩) hv (λ k hk=>hk.1.2) x1) (λ k hk=>hk.1.2) x2) (λ k hk=>hk.2) x3) (λ k hk=>hk.2) x4) (λ k hk=>hk.1.1.1))
     exact⟨_,_,rfl,far _ _ _ _ _ _ N1.out,far _ _ _ _ _ _ N2.out,b_ (bH (bH (bH (bH bz.out l4) l4) bw) bw)⟩
end Go.Proofs.Ct.Q
namespace Go.Proofs.Ct.Q
open Go.RowKit Go.Proofs.aA.ak Go.Proofs.aA.aC Go.Proofs.aA.aG Go.Proofs.bO
def tX(l:List Int):Nat:=(val 1000000000 l).toNat
def jG.f(D:Bool)(z:List Int)(E:Bool)(s:List Int):Option (Bool×List Int×Bool×List Int):=
 if D=false∧E=false∧norm 1000000000 z∧norm 1000000000 s∧s≠[]∧z.length<500000∧s.length<500000 then
  some (false,limbs 1000000000 (tX z/tX s),false,limbs 1000000000 (tX z% tX s))
 else none
theorem jG.calls(L:Bool)(D:Nat->Prop)(E:Option Addr)(F:Nat)(z:List Int)(O:Bool)(I:Option Addr)(J:Nat)(s:List Int)(r1:Bool)(r2:List Int)(r3:Bool)(r4:List Int)(w:World)(T:Kd.V (Kd.int .u32) 328 w w.heap.size (λ k_=>D k_) (.slice E z.length F) z)(U:Kd.C (Kd.int .u32) w I s.length s)(X:s.length≤J)(h:jG.f L z O s=some (r1,r2,r3,r4)):
  Calls Tryz.prog 234 #[.agg #[.bool L,.slice E z.length F],.agg #[.bool O,.slice I s.length J]] w λ e w'=>∃Y Z:Value,e= .returned (.tuple #[.agg #[.bool r1,Y],.agg #[.bool r3,Z]])∧Kd.V (Kd.int .u32) 328 w' w.heap.size (λ k_=>(D k_∨w.heap.size≤k_)) Y r2∧Kd.V (Kd.int .u32) 328 w' w.heap.size (λ k_=>(D k_∨w.heap.size≤k_)) Z r4∧Below w.heap.size w w':=by
 unfold jG.f at h;split at h
 .rename_i hc
  obtain⟨rfl,rfl,h1,h2,h3,h4,h5⟩:=hc;obtain⟨rfl,rfl,rfl,rfl⟩:false=r1∧_=r2∧false=r3∧_=r4:=by simpa using h
  have e0:limbs 1000000000 (tX z)=z:=uX (by decide) h1;have e1:limbs 1000000000 (tX s)=s:=uX (by decide) h2;have hn:0<tX s:=Nat.pos_of_ne_zero λ e=>h3 (by rw[<-e1,e,bZ]);have hd:=PY (tX z) (tX s) D E F I J w;rw[show limbs B9 (tX z)=z from e0,show limbs B9 (tX s)=s from e1]at hd;exact hd T U X hn h4 h5
 .cases h
end Go.Proofs.Ct.Q
namespace Go.Proofs.Ct.Q
open Go.RowKit Go.Proofs.aA.ak Go.Proofs.aA.aC Go.Proofs.aA.aG
attribute [local go_sem] aW aX bA bB
def gL.l0:Nat->Bool->List Int->Bool->List Int->Option (Bool×List Int)
 |0,_,_,_,_=>none
 |k+1,D,E,s,z=>(dZ.f s z).bind λ I=>(if I=true then(some (D,E))else((jG.f D E s z).bind λ F=>(gL.l0 k s z F.2.2.1 F.2.2.2)))
def gL.f(k:Nat)(D:Bool)(E:List Int)(F:Bool)(I:List Int):Option (Bool×List Int):=(gF.f D E).bind λ s=>((gF.f F I).bind λ z=>(gL.l0 k s.1 s.2 z.1 z.2))
set_option maxHeartbeats 8000000 in
set_option maxRecDepth 100000 in
theorem gL.calls(k:Nat)(aL:Bool)(ab:Nat->Prop)(aO:Option Addr)(aP:Nat)(aq:List Int)(aR:Bool)(ac:Nat->Prop)(aS:Option Addr)(a0:Nat)(ar:List Int)(r1:Bool)(r2:List Int)(w:World)(b3:Kd.V (Kd.int .u32) 328 w w.heap.size (λ k_=>ab k_) (.slice aO aq.length aP) aq)(b4:Kd.V (Kd.int .u32) 328 w w.heap.size (λ k_=>ac k_) (.slice aS ar.length a0) ar)(H:gL.f k aL aq aR ar=some (r1,r2)):
 Calls Tryz.prog 131 #[.agg #[.bool aL,.slice aO aq.length aP],.agg #[.bool aR,.slice aS ar.length a0]] w λ e w'=>∃b5:Value,e= .returned (.agg #[.bool r1,b5])∧Kd.V (Kd.int .u32) 328 w' w.heap.size (λ k_=>((ab k_∨ac k_)∨w.heap.size≤k_)) b5 r2∧Below w.heap.size w w':=by
 have hu64:=Tryz.underlying64;have X:=ah.mk (show Kd.V (Kd.int .u32) 328 w w.heap.size (λ k_=>((ab k_∨ac k_)∨w.heap.size≤k_)) (.slice aO aq.length aP) aq from Kd.bU b3 (λ k_ hk=> .inl (.inl hk)));have Y:=ah.mk (show Kd.V (Kd.int .u32) 328 w w.heap.size (λ k_=>((ab k_∨ac k_)∨w.heap.size≤k_)) (.slice aS ar.length a0) ar from Kd.bU b4 (λ k_ hk=> .inl (.inr hk)));have HB:=ah.mk (Below.refl w.heap.size w);unfold gL.f at H;revert H;refine bi λ bs A3 H=>?_;obtain⟨bt,bh⟩:=bs;dsimp only at H;revert H;refine bi λ bs A4 H=>?_;obtain⟨bu,bj⟩:=bs;dsimp only at H;have H':=ah.mk H;clear H;go_enter Tryz.func131,Tryz.ntmps131;try go_wp2_with (first|((with_reducible refine gd 2 rfl ?_);refine bx #[.bool aL,.slice aO aq.length aP] 64 ?_;intro U hg w5 s hb;replace X:=kW X hg hb;replace Y:=kW Y hg hb;have GW266:=kz hg;have GE266:=kz hg;replace HB:=kh hb;clear hb hg)|((with_reducible refine gd 3 rfl ?_);refine bx #[.bool aR,.slice aS ar.length a0] 64 ?_;intro T hg w6 z hb;replace X:=kW X hg hb;replace Y:=kW Y hg hb;have GW267:=kz hg;have GE267:=kz hg;replace HB:=kh hb;have L:=kl s hg;have O:=kr s hg;replace s:=kb s hb;clear hb hg)|((with_reducible refine gd 4 rfl ?_);refine bx #[.bool false,.slice none 0 0] 64 ?_;intro am hg w7 F hb;replace X:=kW X hg hb;replace Y:=kW Y hg hb;have GW268:=kz hg;have GE268:=kz hg;replace HB:=kh hb;have ae:=kl s hg;have af:=kr s hg;replace s:=kb s hb;have ag:=kl z hg;have al:=kr z hg;replace z:=kb z hb;clear hb hg))
 replace X:=ah.mk (Kd.d_ X.out);replace Y:=ah.mk (Kd.d_ Y.out);replace s:=kx s;replace z:=kx z;replace F:=kx F;replace HB:=ky HB;refine mR (n:=6) (S:=λ w'=>w'.cell? ⟨U,0,none⟩=some (.bool aL)∧w'.cell? ⟨U,1,none⟩=some (.slice aO aq.length aP)∧w'.cell? ⟨T,0,none⟩=some (.bool aR)∧w'.cell? ⟨T,1,none⟩=some (.slice aS ar.length a0)) (ds:=[4,5]) #[false,false,false,false,false,false] (by kernel_rfl) rfl rfl hs λ hHeld=>?_;generalize w7.drew=w8 at X Y s z F HB hHeld|-
 refine yu (i:=0) (N:=some 7) (v:=?_) (a':=?_) #[true,false,false,false,false,false] rfl rfl (by kernel_rfl) (λ _ _ _ h=>h) (Or.inl ⟨by rfl,?_⟩) hHeld ?_ ?_;rotate_left
 .rintro w' ⟨s0,s1,s2,s3⟩
  go_simp
  with_reducible rfl
 rotate_left
 .simp only[Act.put,List.setIfInBounds_toArray,List.set_cons_zero,List.set_cons_succ,eY,iI]
  rfl
 refine yu (i:=2) (N:=some 9) (v:=?_) (a':=?_) #[true,false,true,false,false,false] rfl rfl (by kernel_rfl) (λ _ _ _ h=>h) (Or.inl ⟨by rfl,?_⟩) hHeld ?_ ?_;rotate_left
 .rintro w' ⟨s0,s1,s2,s3⟩
  go_simp
  with_reducible rfl
 rotate_left
 .simp only[Act.put,List.setIfInBounds_toArray,List.set_cons_zero,List.set_cons_succ,eY,iI]
  rfl
 refine Af (i:=1) (N:=some 8) #[true,true,true,false,false,false] rfl rfl (by kernel_rfl) (by decide) (λ K hK=>?_);refine gs Tryz.func231 #[.agg #[.bool aL,.slice aO aq.length aP]] (gF.calls aL (λ k_=>(((((ab k_∨ac k_)∨w.heap.size≤k_)∧k_≠U)∧k_≠T)∧k_≠am)) _ _ aq bt bh _ (kd X) A3.out) ?_;rintro e w9 ⟨v271,rfl,ho0,hb⟩;refine⟨_,rfl,?_⟩;replace X:=kV X hb;replace Y:=kV Y hb;have a1:=kL (λ k_=>((ab k_∨ac k_)∨w.heap.size≤k_)∧k_≠U∧k_≠T∧k_≠am) ho0;replace s:=kb s hb;replace z:=kb z hb;replace F:=kb F hb;replace HB:=kh hb;clear hb ho0;refine hK.out _ _ hs λ hHeld=>?_;clear hK K;refine nm ?_;refine Af (i:=3) (N:=some 10) #[true,true,true,true,false,false] rfl rfl (by kernel_rfl) (by decide) (λ K hK=>?_);refine gs Tryz.func231 #[.agg #[.bool aR,.slice aS ar.length a0]] (gF.calls aR (λ k_=>(((((ab k_∨ac k_)∨w.heap.size≤k_)∧k_≠U)∧k_≠T)∧k_≠am)) _ _ ar bu bj _ (kd Y) A4.out) ?_;rintro e bm ⟨v275,rfl,ho0,hb⟩;refine⟨_,rfl,?_⟩;replace X:=kV X hb;replace Y:=kV Y hb;replace a1:=kV a1 hb;have bo:=kL (λ k_=>((ab k_∨ac k_)∨w.heap.size≤k_)∧k_≠U∧k_≠T∧k_≠am) ho0;replace s:=kb s hb;replace z:=kb z hb;replace F:=kb F hb;replace HB:=kh hb;clear hb ho0;obtain⟨b8,b9,bv⟩:=Kd.aY a1.out
 (first|subst bv|(injection bv with a7 bw a8;have bz:=a7.symm;have bE:=a8.symm;clear a7 bw a8;subst bz;subst bE))
 obtain⟨ca,cb,bI⟩:=Kd.aY bo.out
 (first|subst bI|(injection bI with a7 bw a8;have bz:=a7.symm;have bE:=a8.symm;clear a7 bw a8;subst bz;subst bE))
 refine hK.out _ _ hs λ hHeld=>?_;clear hK K;refine nm ?_;refine Jq (i:=4) (N:=none) #[true,true,true,true,true,false] rfl rfl (by kernel_rfl) (by decide) (λ K hK=>?_);have hs11:bm.cell? ⟨U,0,none⟩=some (.bool aL):=(aj s.out 0).trans rfl;have hfs11:=aI s.out 0;have hns11_1:=O.out;have hns11_2:=af.out;have hms11_1:=L.out;have hms11_2:=ae.out;have hs13:bm.cell? ⟨U,1,none⟩=some (.slice aO aq.length aP):=(aj s.out 1).trans rfl;have hfs13:=aI s.out 1;have hns13_1:=O.out;have hns13_2:=af.out;have hms13_1:=L.out;have hms13_2:=ae.out;refine sk ?_;refine hK.out _ _ ?_;clear hK K;refine Jq (i:=5) (N:=none) #[true,true,true,true,true,true] rfl rfl (by kernel_rfl) (by decide) (λ K hK=>?_);have hs14:bm.cell? ⟨T,0,none⟩=some (.bool aR):=(aj z.out 0).trans rfl;have hfs14:=aI z.out 0;have hns14_0:=L.out;have hns14_2:=al.out;have hms14_0:=O.out;have hms14_2:=ag.out;have hs16:bm.cell? ⟨T,1,none⟩=some (.slice aS ar.length a0):=(aj z.out 1).trans rfl;have hfs16:=aI z.out 1;have hns16_0:=L.out;have hns16_2:=al.out;have hms16_0:=O.out;have hms16_2:=ag.out;refine sk ?_;refine hK.out _ _ ?_;clear hK K;refine E9 (by kernel_rfl) ?_;try go_wp2
 go_loopg [] k (λ kq w'=>∃(Z:Bool)(aa:List Int)(J:Bool)(I:List Int)(u267001:Value)(u268001:Value),ah (gL.l0 kq Z aa J I=some (r1,r2))∧ah (kq≤k)∧ah (Kd.V (Kd.int .u32) 328 w' w.heap.size (λ k_=>((ab k_∨ac k_)∨w.heap.size≤k_)∧k_≠U∧k_≠T∧k_≠am) u267001 aa)∧ah (Kd.V (Kd.int .u32) 328 w' w.heap.size (λ k_=>((ab k_∨ac k_)∨w.heap.size≤k_)∧k_≠U∧k_≠T∧k_≠am) u268001 I)∧ah (w'.heap[U]? =some (.cells #[.bool Z,u267001] 64 (0,0)))∧ah (w'.heap[T]? =some (.cells #[.bool J,u268001] 64 (0,0)))∧ah (w'.heap[am]? =some (.cells #[.bool false,(.slice none 0 0)] 64 (0,0)))∧ah (Below w.heap.size w w'))
 case atStart=>exact⟨(bt),(bh),(bu),(bj),(.slice b8 bh.length b9),(.slice ca bj.length cb),H',⟨Nat.le_refl _⟩,⟨kv a1⟩,⟨kv bo⟩,⟨kp s⟩,⟨kp z⟩,⟨kp F⟩,⟨hB⟩⟩
 case round=>
  clear H';obtain⟨Z,aa,J,I,u267001,u268001,HA,b6,E,D,s,z,F,HB⟩:=hrel;cases gk with
  |zero=>exact absurd HA.out (by simp[gL.l0])
  |succ k1=>
   have H:=HA.out;clear HA;simp only[gL.l0]at H;revert H;refine bi λ cc b7 H=>?_;obtain rfl|rfl:=tb cc
   .replace H:=it H
    simp only[Option.some.injEq,Prod.mk.injEq]at H;obtain⟨rfl,rfl⟩:=H;have hnb19:=O.out;have hnc19:=L.out;have hnb20:=ag.out;have hnc20:=al.out;have hcz21_0:=z2 z;obtain⟨cd,ce,cg⟩:=Kd.aY D.out;subst cg
    go_wp2_with (first|((with_reducible refine gc 233 rfl ?_);refine gl (some 12) Tryz.func233 (args:= #[.agg #[.bool J,.slice cd I.length ce]]) (dZ.calls J _ _ I true _ (sc ((Kd.aH D.out).2.2)) ((Kd.aH D.out).2.1) b7.out) ?_;rintro e w23 ⟨rfl,hb⟩;refine⟨_,rfl,?_⟩;replace E:=kV E hb;replace D:=kV D hb;replace s:=kb s hb;replace z:=kb z hb;replace F:=kb F hb;replace HB:=kh hb;clear hb;have hnb24:=ae.out;have hnc24:=af.out;have hcz25_0:=z2 s;have hcz26_0:=z2 F;obtain⟨ch,cj,ck⟩:=Kd.aY E.out;subst ck))
    refine bodyPost_ret (results_cell_row rfl _ _ am 64 #[.bool Z,.slice ch aa.length cj] (0,0) _ rfl (kp F) Tryz.underlying64 rfl (by kernel_rfl)) rfl ?_;exact⟨_,rW,kv E,hB⟩
   .replace H:=jf H
    revert H;refine bi λ bs cv H=>?_;obtain⟨bS,b0,a6,a3⟩:=bs;dsimp only at H;have H':=ah.mk H;clear H;have hnb29:=O.out;have hnc29:=L.out;have hnb30:=ag.out;have hnc30:=al.out;have hcz31_0:=z2 z;obtain⟨a4,a5,cl⟩:=Kd.aY D.out;subst cl;try go_wp2_with (first|((with_reducible refine gc 233 rfl ?_);refine gl (some 12) Tryz.func233 (args:= #[.agg #[.bool J,.slice a4 I.length a5]]) (dZ.calls J _ _ I false _ (sc ((Kd.aH D.out).2.2)) ((Kd.aH D.out).2.1) b7.out) ?_;rintro e w33 ⟨rfl,hb⟩;refine⟨_,rfl,?_⟩;replace E:=kV E hb;replace D:=kV D hb;replace s:=kb s hb;replace z:=kb z hb;replace F:=kb F hb;replace HB:=kh hb;clear hb;have hnb34:=ae.out;have hnc34:=af.out;have hcz35_0:=z2 s;have hcz36_0:=z2 z;obtain⟨b1,b2,cm⟩:=Kd.aY E.out;subst cm)|((with_reducible refine gc 234 rfl ?_);refine gl (some 17) Tryz.func234 (args:= #[.agg #[.bool Z,.slice b1 aa.length b2],.agg #[.bool J,.slice a4 I.length a5]]) (jG.calls Z (λ k_=>(((ab k_∨ac k_)∨w.heap.size≤k_)∧(k_≠U∧(k_≠T∧k_≠am)))) _ _ aa J _ _ I bS b0 a6 a3 _ (kd E) (sc ((Kd.aH D.out).2.2)) ((Kd.aH D.out).2.1) cv.out) ?_;rintro e w38 ⟨v280,v284,rfl,ho0,ho1,hb⟩;refine⟨_,rfl,?_⟩;replace E:=kV E hb;replace D:=kV D hb;have ao:=kL (λ k_=>((ab k_∨ac k_)∨w.heap.size≤k_)∧k_≠U∧k_≠T∧k_≠am) ho0;have an:=kL (λ k_=>((ab k_∨ac k_)∨w.heap.size≤k_)∧k_≠U∧k_≠T∧k_≠am) ho1;replace s:=kb s hb;replace z:=kb z hb;replace F:=kb F hb;replace HB:=kh hb;clear hb ho0 ho1)|((with_reducible refine gd 5 rfl ?_);refine bx #[.bool false,.slice none 0 0] 64 ?_;intro bp hg w39 ap hb;replace E:=kW E hg hb;replace D:=kW D hg hb;replace ao:=kW ao hg hb;replace an:=kW an hg hb;have GW286:=kz hg;have GE286:=kz hg;replace HB:=kh hb;have av:=kl s hg;have aw:=kr s hg;replace s:=kb s hb;have ax:=kl z hg;have ay:=kr z hg;replace z:=kb z hb;have a9:=kl F hg;have ba:=kr F hg;replace F:=kb F hb;clear hb hg)|((with_reducible refine gd 6 rfl ?_);refine bx #[.bool false,.slice none 0 0] 64 ?_;intro a2 hg cw aF hb;replace E:=kW E hg hb;replace D:=kW D hg hb;replace ao:=kW ao hg hb;replace an:=kW an hg hb;have GW287:=kz hg;have GE287:=kz hg;replace HB:=kh hb;have az:=kl s hg;have aB:=kr s hg;replace s:=kb s hb;have aD:=kl z hg;have aE:=kr z hg;replace z:=kb z hb;have bb:=kl F hg;have bc:=kr F hg;replace F:=kb F hb;have bd:=kl ap hg;have be:=kr ap hg;replace ap:=kb ap hb;clear hb hg;have hnb41:=aw.out;have hnc41:=av.out;have hnb42:=ay.out;have hnc42:=ax.out;have hnb43:=ba.out;have hnc43:=a9.out;have hnb44:=bd.out;have hnc44:=be.out;have hcz45_0:=z2 ap;obtain⟨co,cp,cr⟩:=Kd.aY ao.out;subst cr;have hnb47:=aB.out;have hnc47:=az.out;have hnb48:=aE.out;have hnc48:=aD.out;have hnb49:=bc.out;have hnc49:=bb.out;have hcz50_0:=z2 aF;obtain⟨bk,bl,ct⟩:=Kd.aY an.out;subst ct))
    generalize hw:((((cw.setCell ⟨bp,0,none⟩ (.bool bS)).setCell ⟨bp,1,none⟩ (.slice co b0.length cp)).setCell ⟨a2,0,none⟩ (.bool a6)).setCell ⟨a2,1,none⟩ (.slice bk a3.length bl))=cx;replace hw:=hw.symm;replace E:=ks E hw;replace D:=ks D hw;replace ao:=ks ao hw;replace an:=ks an hw;replace s:=kq s hw;replace z:=kq z hw;replace F:=kq F hw;replace ap:=kq ap hw;replace aF:=kq aF hw;replace HB:=kt hw;clear hw;replace E:=ah.mk (Kd.d_ E.out);replace D:=ah.mk (Kd.d_ D.out);replace ao:=ah.mk (Kd.d_ ao.out);replace an:=ah.mk (Kd.d_ an.out);replace s:=kx s;replace z:=kx z;replace F:=kx F;replace ap:=kx ap;replace aF:=kx aF;replace HB:=ky HB;refine mR (n:=4) (S:=λ w'=>w'.cell? ⟨T,0,none⟩=some (.bool J)∧w'.cell? ⟨T,1,none⟩=some (.slice a4 I.length a5)∧w'.cell? ⟨a2,0,none⟩=some (.bool a6)∧w'.cell? ⟨a2,1,none⟩=some (.slice bk a3.length bl)) (ds:=[3]) #[false,false,false,false] (by kernel_rfl) rfl rfl hs λ hHeld=>?_;generalize cx.drew=br at E D ao an s z F ap aF HB hHeld|-
    refine yu (i:=0) (N:=some 20) (v:=?_) (a':=?_) #[true,false,false,false] rfl rfl (by kernel_rfl) (λ _ _ _ h=>h) (Or.inl ⟨by rfl,?_⟩) hHeld ?_ ?_;rotate_left
    .rintro w' ⟨s0,s1,s2,s3⟩
     go_simp
     with_reducible rfl
    rotate_left
    .simp only[Act.put,List.setIfInBounds_toArray,List.set_cons_zero,List.set_cons_succ,eY,iI]
     rfl
    refine yu (i:=1) (N:=some 21) (v:=?_) (a':=?_) #[true,true,false,false] rfl rfl (by kernel_rfl) (λ _ _ _ h=>h) (Or.inl ⟨by rfl,?_⟩) hHeld ?_ ?_;rotate_left
    .rintro w' ⟨s0,s1,s2,s3⟩
     go_simp
     with_reducible rfl
    rotate_left
    .simp only[Act.put,List.setIfInBounds_toArray,List.set_cons_zero,List.set_cons_succ,eY,iI]
     rfl
    refine Af (i:=2) (N:=none) #[true,true,true,false] rfl rfl (by kernel_rfl) (by decide) (λ K hK=>?_);have hs54:br.cell? ⟨U,0,none⟩=some (.bool Z):=(aj s.out 0).trans rfl;have hfs54:=aI s.out 0;have hns54_1:=O.out;have hns54_2:=af.out;have hns54_3:=aw.out;have hns54_4:=aB.out;have hms54_1:=L.out;have hms54_2:=ae.out;have hms54_3:=av.out;have hms54_4:=az.out;have hs55:br.cell? ⟨U,1,none⟩=some (.slice b1 aa.length b2):=(aj s.out 1).trans rfl;have hfs55:=aI s.out 1;have hns55_1:=O.out;have hns55_2:=af.out;have hns55_3:=aw.out;have hns55_4:=aB.out;have hms55_1:=L.out;have hms55_2:=ae.out;have hms55_3:=av.out;have hms55_4:=az.out;refine sk ?_;refine hK.out _ _ hs λ hHeld=>?_;clear hK K;refine Jq (i:=3) (N:=none) #[true,true,true,true] rfl rfl (by kernel_rfl) (by decide) (λ K hK=>?_);have hs56:br.cell? ⟨T,0,none⟩=some (.bool J):=(aj z.out 0).trans rfl;have hfs56:=aI z.out 0;have hns56_0:=L.out;have hns56_2:=al.out;have hns56_3:=ay.out;have hns56_4:=aE.out;have hms56_0:=O.out;have hms56_2:=ag.out;have hms56_3:=ax.out;have hms56_4:=aD.out;have hs57:br.cell? ⟨T,1,none⟩=some (.slice a4 I.length a5):=(aj z.out 1).trans rfl;have hfs57:=aI z.out 1;have hns57_0:=L.out;have hns57_2:=al.out;have hns57_3:=ay.out;have hns57_4:=aE.out;have hms57_0:=O.out;have hms57_2:=ag.out;have hms57_3:=ax.out;have hms57_4:=aD.out;refine sk ?_;refine hK.out _ _ ?_;clear hK K;refine E9 (by kernel_rfl) ?_;try go_wp2
    go_roundg k1
    case measure=>have:=b6.out;omega
    case rel=>exact⟨(J),(I),(a6),(a3),(.slice a4 I.length a5),(.slice bk a3.length bl),H',⟨by have:=b6.out;omega⟩,⟨kv D⟩,⟨kv an⟩,⟨kp s⟩,⟨kp z⟩,⟨kp F⟩,⟨hB⟩⟩
end Go.Proofs.Ct.Q
