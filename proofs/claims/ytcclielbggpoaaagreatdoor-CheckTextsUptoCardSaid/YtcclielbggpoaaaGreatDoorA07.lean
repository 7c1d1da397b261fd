/- Part of the proof of CheckTexts (see the last text). -/
import Derived.Test.YtcclielbggpoaaaGreatDoorA05
import Derived.Test.YtcclielbggpoaaaGreatDoorA06
set_option linter.all false
namespace Go.Proofs.Ct.Q
open Go.RowKit Go.Proofs.aA.ak Go.Proofs.aA.aC Go.Proofs.aA.aG
attribute [local go_sem] aW aX bA bB
def dZ.f(a0_0:Bool)(s:List Int):Option (Bool):=some ((s.length:Int)==0)
set_option maxHeartbeats 8000000 in
set_option maxRecDepth 100000 in
theorem dZ.calls(z:Bool)(D:Option Addr)(E:Nat)(s:List Int)(r:Bool)(w:World)(F:Kd.C (Kd.int .u32) w D s.length s)(I:s.length≤E)(H:dZ.f z s=some r):
 Calls Tryz.prog 233 #[.agg #[.bool z,.slice D s.length E]] w λ e w'=>e= .returned (.bool r)∧Below w.heap.size w w':=by
 have hu64:=Tryz.underlying64;have HR0_1:=ah.mk F;have HC0_1:=ah.mk I;clear F I;have HB:=ah.mk (Below.refl w.heap.size w);unfold dZ.f at H;obtain rfl:=Option.some.inj H;go_enter Tryz.func233,Tryz.ntmps233
 go_wp2_with (first|((with_reducible refine gd 1 rfl ?_);refine bx #[.bool z,.slice D s.length E] 64 ?_;intro gb120 hg w2 J hb;have GW120:=kz hg;have GE120:=kz hg;replace HB:=kh hb;clear hb hg;have hcz3_0:=z2 J))
 go_ret;exact⟨rW,hB⟩
def uj.f(z:ByteArray)(s:Int)(D:Bool):Option (Bool):=(lG.f z).bind λ E=>(if E=true then(if s≥0 then(if s≤6 then(if D=true then(some (s==0))else(some true))else(some false))else(some false))else(some false))
set_option maxHeartbeats 8000000 in
set_option maxRecDepth 100000 in
theorem uj.calls(z:ByteArray)(D:Int)(E:Bool)(r:Bool)(w:World)(H:uj.f z D E=some r):
 Calls Tryz.prog 27 #[.agg #[.string z,.int .i64 D,.bool E]] w λ e w'=>e= .returned (.bool r)∧Below w.heap.size w w':=by
 have hu25:=Tryz.underlying25;have HB:=ah.mk (Below.refl w.heap.size w);unfold uj.f at H;revert H;refine bi λ L A2 H=>?_;obtain rfl|rfl:=tb L
 .replace H:=it H
  revert H;refine ci (λ c4 H=>?_) λ c4 H=>?_
  .have O:=decide_eq_true c4
   clear c4;revert H;refine ci (λ c5 H=>?_) λ c5 H=>?_
   .have T:=decide_eq_true c5
    clear c5;obtain rfl|rfl:=tb E
    .replace H:=it H
     obtain rfl:=Option.some.inj H;go_enter Tryz.func27,Tryz.ntmps27
     go_wp2_with (first|((with_reducible refine gd 1 rfl ?_);refine bx #[.string z,.int .i64 D,.bool true] 25 ?_;intro F hg w7 s hb;have I:=kz hg;have J:=kz hg;replace HB:=kh hb;clear hb hg;have hcz8_0:=z3 s)|((with_reducible refine gc 17 rfl ?_);refine gl (some 5) Tryz.func17 (args:= #[.string z]) (lG.calls z true _ A2.out) ?_;rintro e w9 ⟨rfl,hb⟩;refine⟨_,rfl,?_⟩;replace s:=kb s hb;replace HB:=kh hb;clear hb;have hcz10_0:=z3 s))
     go_ret;exact⟨rW,hB⟩
    .replace H:=jf H
     obtain rfl:=Option.some.inj H;go_enter Tryz.func27,Tryz.ntmps27
     go_wp2_with (first|((with_reducible refine gd 1 rfl ?_);refine bx #[.string z,.int .i64 D,.bool false] 25 ?_;intro F hg w11 s hb;have I:=kz hg;have J:=kz hg;replace HB:=kh hb;clear hb hg;have hcz12_0:=z3 s)|((with_reducible refine gc 17 rfl ?_);refine gl (some 5) Tryz.func17 (args:= #[.string z]) (lG.calls z true _ A2.out) ?_;rintro e w13 ⟨rfl,hb⟩;refine⟨_,rfl,?_⟩;replace s:=kb s hb;replace HB:=kh hb;clear hb;have hcz14_0:=z3 s))
     go_ret;exact⟨rW,hB⟩
   .have T:=decide_eq_false c5
    clear c5;obtain rfl:=Option.some.inj H;go_enter Tryz.func27,Tryz.ntmps27
    go_wp2_with (first|((with_reducible refine gd 1 rfl ?_);refine bx #[.string z,.int .i64 D,.bool E] 25 ?_;intro F hg w15 s hb;have I:=kz hg;have J:=kz hg;replace HB:=kh hb;clear hb hg;have hcz16_0:=z3 s)|((with_reducible refine gc 17 rfl ?_);refine gl (some 5) Tryz.func17 (args:= #[.string z]) (lG.calls z true _ A2.out) ?_;rintro e w17 ⟨rfl,hb⟩;refine⟨_,rfl,?_⟩;replace s:=kb s hb;replace HB:=kh hb;clear hb;have hcz18_0:=z3 s))
    go_ret;exact⟨rW,hB⟩
  .have O:=decide_eq_false c4
   clear c4;obtain rfl:=Option.some.inj H;go_enter Tryz.func27,Tryz.ntmps27
   go_wp2_with (first|((with_reducible refine gd 1 rfl ?_);refine bx #[.string z,.int .i64 D,.bool E] 25 ?_;intro F hg w19 s hb;have I:=kz hg;have J:=kz hg;replace HB:=kh hb;clear hb hg;have hcz20_0:=z3 s)|((with_reducible refine gc 17 rfl ?_);refine gl (some 5) Tryz.func17 (args:= #[.string z]) (lG.calls z true _ A2.out) ?_;rintro e w21 ⟨rfl,hb⟩;refine⟨_,rfl,?_⟩;replace s:=kb s hb;replace HB:=kh hb;clear hb;have hcz22_0:=z3 s))
   go_ret;exact⟨rW,hB⟩
 .replace H:=jf H
  obtain rfl:=Option.some.inj H;go_enter Tryz.func27,Tryz.ntmps27
  go_wp2_with (first|((with_reducible refine gd 1 rfl ?_);refine bx #[.string z,.int .i64 D,.bool E] 25 ?_;intro F hg w23 s hb;have I:=kz hg;have J:=kz hg;replace HB:=kh hb;clear hb hg;have hcz24_0:=z3 s)|((with_reducible refine gc 17 rfl ?_);refine gl (some 5) Tryz.func17 (args:= #[.string z]) (lG.calls z false _ A2.out) ?_;rintro e w25 ⟨rfl,hb⟩;refine⟨_,rfl,?_⟩;replace s:=kb s hb;replace HB:=kh hb;clear hb))
  go_ret;exact⟨rW,hB⟩
def dS.f(z:Bool)(D:List Int)(E:Bool)(F:List Int):Option (ByteArray):=(gX.f E F).bind λ J=>(if J=true then((dz.f z D).bind λ L=>(some L))else((dz.f z D).bind λ s=>(if s.size+1≤9223372036854775807 then((dz.f E F).bind λ I=>(if(s++(⟨#[47]⟩:ByteArray)).size+I.size≤9223372036854775807 then(some ((s++(⟨#[47]⟩:ByteArray))++I))else(none)))else(none))))
def dS.T3:Bool×List (List Nat×List Nat):=(true,[([],[]),([0],[0]),([1],[1]),([2],[2]),([],[]),([4],[4]),([5,2],[5]),([3,6],[3,6]),([7,6,0,1,2,3,4,5,6,7],[7])])
def dS.B3:List Nat:=[0,1,3,7,0,16,55,127,255]
theorem dS.SN:jQ .any (opsOf Tryz.f68 3)=dS.T3:=by kernel_rfl
theorem dS.Od:mF dS.T3.2 dS.B3=true:=by kernel_rfl
set_option maxHeartbeats 8000000 in
set_option maxRecDepth 100000 in
theorem dS.calls(F:Bool)(L:Option Addr)(O:Nat)(D:List Int)(E:Bool)(I:Option Addr)(J:Nat)(z:List Int)(r:ByteArray)(w:World)(aa:Kd.C (Kd.int .u32) w L D.length D)(ab:D.length≤O)(ac:Kd.C (Kd.int .u32) w I z.length z)(ae:z.length≤J)(H:dS.f F D E z=some r):
 Calls Tryz.prog 68 #[.agg #[.bool F,.slice L D.length O,.bool E,.slice I z.length J]] w λ e w'=>e= .returned (.string r)∧Below w.heap.size w w':=by
 have hu66:=Tryz.underlying66;have hu64:=Tryz.underlying64;have af:=ah.mk aa;have ag:=ah.mk ab;clear aa ab;have U:=ah.mk ac;have X:=ah.mk ae;clear ac ae;have HB:=ah.mk (Below.refl w.heap.size w);unfold dS.f at H;revert H;refine bi λ an A2 H=>?_;obtain rfl|rfl:=tb an
 .replace H:=it H
  revert H;refine bi λ ao A4 H=>?_;obtain rfl:=Option.some.inj H;go_enter Tryz.func68,Tryz.ntmps68
  go_wp2_with (first|((with_reducible refine gd 1 rfl ?_);refine bx #[.bool F,.slice L D.length O,.bool E,.slice I z.length J] 66 ?_;intro T hg w5 s hb;have al:=kz hg;have am:=kz hg;replace HB:=kh hb;clear hb hg;have hcz6_0:=z4 s)|((with_reducible refine gc 132 rfl ?_);refine gl (some 5) Tryz.func132 (args:= #[.agg #[.bool E,.slice I z.length J]]) (gX.calls E _ _ z true _ (sC U) X.out A2.out) ?_;rintro e w7 ⟨rfl,hb⟩;refine⟨_,rfl,?_⟩;replace s:=kb s hb;replace HB:=kh hb;clear hb;have hcz8_0:=z4 s)|((with_reducible refine gc 141 rfl ?_);refine gl (some 8) Tryz.func141 (args:= #[.agg #[.bool F,.slice L D.length O]]) (dz.calls F _ _ D ao _ (sC af) ag.out A4.out) ?_;rintro e w9 ⟨rfl,hb⟩;refine⟨_,rfl,?_⟩;replace s:=kb s hb;replace HB:=kh hb;clear hb))
  go_ret;exact⟨rW,hB⟩
 .replace H:=jf H
  revert H;refine bi λ Y ap H=>?_;revert H;refine cn λ c11 H=>?_;have c11b0:=eq_true c11;have c11b1:=decide_eq_true c11;try have c11b2:(9223372036854775807<Y.size+1)=False:=eq_false (Nat.not_lt.2 c11)
  revert H;refine bi λ Z aq H=>?_;revert H;refine cn λ c13 H=>?_;have c13b0:=eq_true c13;have c13b1:=decide_eq_true c13;try have c13b2:(9223372036854775807<(Y++(⟨#[47]⟩:ByteArray)).size+Z.size)=False:=eq_false (Nat.not_lt.2 c13)
  try have c13b2x:(9223372036854775807<Y.size+1+Z.size)=False:=eq_false (by have h_:=c13;simp only[ByteArray.size_append]at h_;have h2_:(⟨#[47]⟩:ByteArray).size=1:=rfl;omega)
  obtain rfl:=Option.some.inj H;go_enter Tryz.func68,Tryz.ntmps68;try go_wp2_with (first|((with_reducible refine gd 1 rfl ?_);refine bx #[.bool F,.slice L D.length O,.bool E,.slice I z.length J] 66 ?_;intro T hg w14 s hb;have al:=kz hg;have am:=kz hg;replace HB:=kh hb;clear hb hg;have hcz15_0:=z4 s)|((with_reducible refine gc 132 rfl ?_);refine gl (some 5) Tryz.func132 (args:= #[.agg #[.bool E,.slice I z.length J]]) (gX.calls E _ _ z false _ (sC U) X.out A2.out) ?_;rintro e w16 ⟨rfl,hb⟩;refine⟨_,rfl,?_⟩;replace s:=kb s hb;replace HB:=kh hb;clear hb))
  replace s:=kx s;replace HB:=ky HB;refine mR (n:=9) (S:=λ w'=>w'.cell? ⟨T,0,none⟩=some (.bool F)∧w'.cell? ⟨T,1,none⟩=some (.slice L D.length O)∧w'.cell? ⟨T,2,none⟩=some (.bool E)∧w'.cell? ⟨T,3,none⟩=some (.slice I z.length J)) (ds:=[]) #[false,false,false,false,false,false,false,false,false] (by kernel_rfl) rfl rfl hs λ hHeld=>?_;refine lI dS.SN dS.Od (λ wY Dy=>?_);generalize w16.drew=w17 at s HB hHeld|-
  refine pu 0 (some 9) ?_;refine pu 4 (some 13) ?_;refine tk 1 (some 10) ?_;refine tk 5 (some 14) ?_;refine on 2 (some 11) λ K hK=>?_;refine gs Tryz.func141 #[.agg #[.bool F,.slice L D.length O]] (dz.calls F _ _ D Y _ (sC af) ag.out ap.out) ?_;rintro e w18 ⟨rfl,hb⟩;refine⟨_,rfl,?_⟩;replace s:=kb s hb;replace HB:=kh hb;clear hb;refine hK.out _ _ hs λ hHeld=>?_;clear hK K;refine nm ?_;refine pu 3 (some 12) ?_;refine on 6 (some 15) λ K hK=>?_;refine gs Tryz.func141 #[.agg #[.bool E,.slice I z.length J]] (dz.calls E _ _ z Z _ (sC U) X.out aq.out) ?_;rintro e w19 ⟨rfl,hb⟩;refine⟨_,rfl,?_⟩;replace s:=kb s hb;replace HB:=kh hb;clear hb;refine hK.out _ _ hs λ hHeld=>?_;clear hK K;refine nm ?_;refine pu 7 (some 16) ?_;refine pu 8 (some 2) ?_;refine dn ?_;try go_wp2
  go_ret;exact⟨rW,hB⟩
mutual
def aN.l0:Nat->List Int->List Int->List Int->Int->Option (List Int)
 |0,_,_,_,_=>none
 |k+1,x0,x1,x5,x6=>if x6<(x0.length:Int)then(aN.l1 k x0 x1 x5 x6 0 0)else((bL.f k x5).bind λ s=>(some s))
def aN.l1:Nat->List Int->List Int->List Int->Int->Int->Int->Option (List Int)
 |0,_,_,_,_,_,_=>none
 |k+1,x0,x1,x5,x6,x7,x8=>if x8<(x1.length:Int)then(aN.j2 k x0 x1 x5 x6 x7 x8 true)else(aN.j2 k x0 x1 x5 x6 x7 x8 (decide (x7>0)))
def aN.j2:Nat->List Int->List Int->List Int->Int->Int->Int->Bool->Option (List Int)
 |0,_,_,_,_,_,_,_=>none
 |k+1,x0,x1,x5,x6,x7,x8,x30=>if x30=true then(if 0≤(wrap64 (x6+x8))then(if(wrap64 (x6+x8))<(x5.length:Int)then(if x8<(x1.length:Int)then(if 0≤x6 then(if x6<(x0.length:Int)then(if 0≤x8 then(aN.l1 k x0 x1 (x5.set ((wrap64 (x6+x8)):Int).toNat (Int.tmod (wrap64 ((wrap64 ((rd x5 (wrap64 (x6+x8)))+x7))+(wrap64 ((rd x0 x6)*(rd x1 x8))))) 10000)) x6 (wrap64 (Int.tdiv (wrap64 ((wrap64 ((rd x5 (wrap64 (x6+x8)))+x7))+(wrap64 ((rd x0 x6)*(rd x1 x8))))) 10000)) (wrap64 (x8+1)))else(none))else(none))else(none))else(aN.l1 k x0 x1 (x5.set ((wrap64 (x6+x8)):Int).toNat (Int.tmod (wrap64 ((rd x5 (wrap64 (x6+x8)))+x7)) 10000)) x6 (wrap64 (Int.tdiv (wrap64 ((rd x5 (wrap64 (x6+x8)))+x7)) 10000)) (wrap64 (x8+1))))else(none))else(none))else(aN.l0 k x0 x1 x5 (wrap64 (x6+1)))
end
def aN.f(k:Nat)(l0:List Int)(l1:List Int):Option (List Int):=if 0≤(wrap64 ((wrap64 ((l0.length:Int)+(l1.length:Int)))+1))then(if(wrap64 ((wrap64 ((l0.length:Int)+(l1.length:Int)))+1):Int).toNat≤35184372088832 then(aN.l0 k l0 l1 (List.replicate (wrap64 ((wrap64 ((l0.length:Int)+(l1.length:Int)))+1):Int).toNat 0) 0)else(none))else(none)
set_option maxHeartbeats 8000000 in
set_option maxRecDepth 100000 in
theorem aN.calls(k:Nat)(A0:Option Addr)(c0:Nat)(l0:List Int)(A1:Option Addr)(c1:Nat)(l1:List Int)(r:List Int)(w:World)(hr0:Kd.C (Kd.int .i64) w A0 l0.length l0)(hc0:l0.length≤c0)(hr1:Kd.C (Kd.int .i64) w A1 l1.length l1)(hc1:l1.length≤c1)(H:aN.f k l0 l1=some r):
 Calls Tryz.prog 184 #[.slice A0 l0.length c0,.slice A1 l1.length c1] w λ e w'=>∃bI:Value,e= .returned (bI)∧Kd.V (Kd.int .i64) 3 w' w.heap.size (λ k_=>(w.heap.size≤k_)) bI r∧Below w.heap.size w w':=by
 have ch:=ah.mk hr0;have HC0:=ah.mk hc0;clear hr0 hc0;have HR1:=ah.mk hr1;have HC1:=ah.mk hc1;clear hr1 hc1;have HB:=ah.mk (Below.refl w.heap.size w);unfold aN.f at H;obtain⟨al,aP⟩:∃b2,(wrap64 ((wrap64 ((l0.length:Int)+(l1.length:Int)))+1))=b2:=⟨_,rfl⟩;first|rw[aP]at H|simp only[aP]at H
 have hji3w:(IntKind.i64.wrap ((wrap64 ((l0.length:Int)+(l1.length:Int)))+1))=al:=(eY _).trans aP;revert H;refine cn λ c4 H=>?_;have b3:=eq_true c4;have b4:=decide_eq_true c4;clear c4;revert H;refine cn λ c5 H=>?_;have b5:=eq_true c5;have b6:=decide_eq_true c5;clear c5;first|(revert H;with_reducible refine gy λ bc X H=>?_)|(generalize a9:((List.replicate (al:Int).toNat 0):List Int)=bc at H;have X:=ah.mk a9.symm;clear a9)
 have H':=ah.mk H;clear H;go_enter Tryz.func184,Tryz.ntmps184
 go_wp2_with (first|((with_reducible refine gV (N:=16) rfl ?_);refine Kd.sQ (Kd.int .i64) _ 3 rfl (N:=16) rfl 120 _ _ rfl al rfl rfl Tryz.underlying120 (.int .i64 0) 8 info3 rfl (by decide) (by omega) 0 (ok:=λ _=>True) (kZ:=λ _=>True) rfl (λ _ hk=>hk) trivial oA (Nat.le_trans (Nat.mul_le_mul_right _ (oA:al.toNat≤35184372088832)) (by omega)) (Below.refl _ _) (Nat.le_refl _) ?_;intro ar w6 L hb a0 aa;clear a0 aa;(first|rw[<-X.out]at L|(simp only[Int.reduceToNat]at L;rw[<-X.out]at L));have aR:=kN L;replace HB:=kh hb;clear hb L))
 repeat(go_quiet (first|((with_reducible refine gV (N:=16) rfl ?_);refine Kd.sQ (Kd.int .i64) _ 3 rfl (N:=16) rfl 120 _ _ rfl al rfl rfl Tryz.underlying120 (.int .i64 0) 8 info3 rfl (by decide) (by omega) 0 (ok:=λ _=>True) (kZ:=λ _=>True) rfl (λ _ hk=>hk) trivial oA (Nat.le_trans (Nat.mul_le_mul_right _ (oA:al.toNat≤35184372088832)) (by omega)) (Below.refl _ _) (Nat.le_refl _) ?_;intro ar w6 L hb a0 aa;clear a0 aa;(first|rw[<-X.out]at L|(simp only[Int.reduceToNat]at L;rw[<-X.out]at L));have aR:=kN L;replace HB:=kh hb;clear hb L));try go_wp2_with (first|((with_reducible refine gV (N:=16) rfl ?_);refine Kd.sQ (Kd.int .i64) _ 3 rfl (N:=16) rfl 120 _ _ rfl al rfl rfl Tryz.underlying120 (.int .i64 0) 8 info3 rfl (by decide) (by omega) 0 (ok:=λ _=>True) (kZ:=λ _=>True) rfl (λ _ hk=>hk) trivial oA (Nat.le_trans (Nat.mul_le_mul_right _ (oA:al.toNat≤35184372088832)) (by omega)) (Below.refl _ _) (Nat.le_refl _) ?_;intro ar w6 L hb a0 aa;clear a0 aa;(first|rw[<-X.out]at L|(simp only[Int.reduceToNat]at L;rw[<-X.out]at L));have aR:=kN L;replace HB:=kh hb;clear hb L)))
 go_loopg [6] k (λ kq v6 w'=>∃(U:List Int)(F:Int),v6= .int .i64 F∧ah (aN.l0 kq l0 l1 U F=some r)∧ah (kq≤k)∧ah (Kd.R (Kd.int .i64) 3 w' w.heap.size (λ k_=>(w.heap.size≤k_)) ar U)∧ah (Below w.heap.size w w'))
 case atStart=>exact⟨(bc),(0),rS,H',⟨Nat.le_refl _⟩,⟨kw aR⟩,⟨hB⟩⟩
 case round=>
  clear H';clear b3 b4 b5 b6;obtain⟨U,F,rfl,HA,am,s,HB⟩:=hrel;cases gk with
  |zero=>exact absurd HA.out (by simp[aN.l0])
  |succ k1=>
   have H:=HA.out;clear HA;simp only[aN.l0]at H;revert H;refine ci (λ c8 H=>?_) λ c8 H=>?_
   .have bd:=decide_eq_true c8
    clear c8;have H':=ah.mk H;clear H;go_wp2;repeat(go_quiet (fail);try go_wp2)
    go_loopg [7,8] k1 (λ kq v7 v8 w'=>∃(D:List Int)(E:Int)(I:Int),v7= .int .i64 E∧v8= .int .i64 I∧ah (aN.l1 kq l0 l1 D F E I=some r)∧ah (kq≤k1)∧ah (Kd.R (Kd.int .i64) 3 w' w.heap.size (λ k_=>(w.heap.size≤k_)) ar D)∧ah (Below w.heap.size w w'))
    case atStart=>exact⟨(U),(0),(0),rS,rS,H',⟨Nat.le_refl _⟩,⟨kd s⟩,⟨hB⟩⟩
    case round=>
     clear H'
     (try clear bd)
     obtain⟨D,E,I,rfl,rfl,HA,an,s,HB⟩:=hrel;cases gk with
     |zero=>exact absurd HA.out (by simp[aN.l1])
     |succ k2=>
      have H:=HA.out;clear HA;simp only[aN.l1]at H;have be:=ah.mk H;clear H
      go_upto_region 7 with(fail)
      repeat(go_quiet (fail);go_upto_region 7 with(fail))
      go_cut [30] (λ v30 wc=>∃(kq:Nat)(ao:Bool),v30= .bool ao∧ah (aN.j2 kq l0 l1 D F E I ao=some r)∧ah (kq≤k2)∧ah (Kd.R (Kd.int .i64) 3 wc w.heap.size (λ k_=>(w.heap.size≤k_)) ar D)∧ah (Below w.heap.size w wc))
      case first=>
       have H:=be.out;clear be;revert H;refine ci (λ c10 H=>?_) λ c10 H=>?_
       .have ab:=decide_eq_true c10
        clear c10
        (first|rw[ab]|(simp only[eY,iI];rw[ab])|skip)
        have H':=ah.mk H;clear H;go_wp2;repeat(go_quiet (fail);try go_wp2)
        go_meet
        case rel=>exact⟨_,(true),rS,H',⟨by have:=am.out;have:=an.out;first|omega|exact Nat.le_refl _⟩,⟨kd s⟩,⟨hB⟩⟩
       .have ab:=decide_eq_false c10
        clear c10
        (first|rw[ab]|(simp only[eY,iI];rw[ab])|skip)
        have H':=ah.mk H;clear H;go_wp2;repeat(go_quiet (fail);try go_wp2)
        go_meet
        case rel=>exact⟨_,(decide (E>0)),rS,H',⟨by have:=am.out;have:=an.out;first|omega|exact Nat.le_refl _⟩,⟨kd s⟩,⟨hB⟩⟩
      case rest=>
       clear be;obtain⟨kq,ao,rfl,HA,az,s,HB⟩:=hcut;cases kq with
       |zero=>exact absurd HA.out (by simp[aN.j2])
       |succ bh=>
        have H:=HA.out;clear HA;simp only[aN.j2]at H;obtain rfl|rfl:=tb ao
        .replace H:=it H
         obtain⟨z,ac⟩:∃b2,(wrap64 (F+I))=b2:=⟨_,rfl⟩;first|rw[ac]at H|simp only[ac]at H
         have hji12w:(IntKind.i64.wrap (F+I))=z:=(eY _).trans ac;revert H;refine cn λ c13 H=>?_;have c13b0:=decide_eq_true c13;clear c13;revert H;refine cn λ c14 H=>?_;have c14b0:=decide_eq_true c14;clear c14;revert H;refine ci (λ c15 H=>?_) λ c15 H=>?_
         .have bz:=decide_eq_true c15
          clear c15;revert H;refine cn λ c16 H=>?_;have c16b0:=decide_eq_true c16;clear c16;revert H;refine cn λ c17 H=>?_;have c17b0:=decide_eq_true c17;clear c17;revert H;refine cn λ c18 H=>?_;have c18b0:=decide_eq_true c18;clear c18;first|(revert H;with_reducible refine gy λ bj ap H=>?_)|(generalize ba:((D.set ((z):Int).toNat (Int.tmod (wrap64 ((wrap64 ((rd D (z))+E))+(wrap64 ((rd l0 F)*(rd l1 I))))) 10000)):List Int)=bj at H;have ap:=ah.mk ba.symm;clear ba)
          have H':=ah.mk H;clear H;obtain⟨Ao20,co20,b7⟩:=Kd.dR s.out;subst b7;obtain⟨bE,a3,ag,b8,b9⟩:=ai (Kd.d9 s.out).2.2 (z);cases a3;obtain⟨ad409,ca,aB,p409,q409⟩:=ai ch.out F;cases ca;replace aB:=hc aB;obtain⟨ad410,cb,aD,p410,q410⟩:=ai HR1.out I;cases cb;replace aD:=hc aD;have aE:0≤((z):Int):=oA;have aF:((z):Int)<((D.length:Int):Int):=oA;obtain⟨a4,co19,bk,bl,cc,cl19,bm⟩:=Kd.jT s.out (by omega)
          (first|cases bk|(injection bk with ae bo bp;(first|subst ae|(injection ae with ae;subst ae));subst bp;clear bo))
          have GB19:=ah.mk bl;have GG19:=ah.mk bm;clear bl cc bm
          (first|simp only[add_plain]at ag|skip)
          obtain⟨av,aw⟩:=Kd.fC 0 s.out ((z):Int) aE aF;replace aE:=eq_true aE;replace aF:=eq_true aF;have Y:=Kd.iH s.out ((z):Int) (Int.tmod (wrap64 ((wrap64 ((rd D (z))+E))+(wrap64 ((rd l0 F)*(rd l1 I))))) 10000)
          go_wp2_with (first|((with_reducible refine qh (t:=3) (p:=62) rfl ?_);(try(rw[qj wc];generalize J:World.drewN wc _=wc;have O:=ah.mk (Kd.G5 J s.out);have T:=ah.mk (um J HB.out);clear J s HB;have s:=O;have HB:=T;clear O T;(try(obtain⟨av,aw⟩:=Kd.fC 0 s.out ((z):Int) (of_eq_true aE) (of_eq_true aF)));(try(have Y:=Kd.iH s.out ((z):Int) (Int.tmod (wrap64 ((wrap64 ((rd D (z))+E))+(wrap64 ((rd l0 F)*(rd l1 I))))) 10000)))));refine mX (t:=3) (p:=62) (v:=?a1) (w1:=(wc.setCell ⟨a4,((z):Int).toNat,none⟩ (.int .i64 (Int.tmod (wrap64 ((wrap64 ((rd D (z))+E))+(wrap64 ((rd l0 F)*(rd l1 I))))) 10000)))) ?hg ?ho ?hn ?hr ?_;(case ho=>rfl);(case hg=>rfl);(case hn=>rfl);(case hr=>first|(go_simp;done)|(go_simp;rfl));intro bS hw;replace s:=kP Y ap hw;replace HB:=kt hw;clear hw Y))
          repeat(go_quiet (first|((with_reducible refine qh (t:=3) (p:=62) rfl ?_);(try(rw[qj wc];generalize J:World.drewN wc _=wc;have O:=ah.mk (Kd.G5 J s.out);have T:=ah.mk (um J HB.out);clear J s HB;have s:=O;have HB:=T;clear O T;(try(obtain⟨av,aw⟩:=Kd.fC 0 s.out ((z):Int) (of_eq_true aE) (of_eq_true aF)));(try(have Y:=Kd.iH s.out ((z):Int) (Int.tmod (wrap64 ((wrap64 ((rd D (z))+E))+(wrap64 ((rd l0 F)*(rd l1 I))))) 10000)))));refine mX (t:=3) (p:=62) (v:=?a1) (w1:=(wc.setCell ⟨a4,((z):Int).toNat,none⟩ (.int .i64 (Int.tmod (wrap64 ((wrap64 ((rd D (z))+E))+(wrap64 ((rd l0 F)*(rd l1 I))))) 10000)))) ?hg ?ho ?hn ?hr ?_;(case ho=>rfl);(case hg=>rfl);(case hn=>rfl);(case hr=>first|(go_simp;done)|(go_simp;rfl));intro bS hw;replace s:=kP Y ap hw;replace HB:=kt hw;clear hw Y));try go_wp2_with (first|((with_reducible refine qh (t:=3) (p:=62) rfl ?_);(try(rw[qj wc];generalize J:World.drewN wc _=wc;have O:=ah.mk (Kd.G5 J s.out);have T:=ah.mk (um J HB.out);clear J s HB;have s:=O;have HB:=T;clear O T;(try(obtain⟨av,aw⟩:=Kd.fC 0 s.out ((z):Int) (of_eq_true aE) (of_eq_true aF)));(try(have Y:=Kd.iH s.out ((z):Int) (Int.tmod (wrap64 ((wrap64 ((rd D (z))+E))+(wrap64 ((rd l0 F)*(rd l1 I))))) 10000)))));refine mX (t:=3) (p:=62) (v:=?a1) (w1:=(wc.setCell ⟨a4,((z):Int).toNat,none⟩ (.int .i64 (Int.tmod (wrap64 ((wrap64 ((rd D (z))+E))+(wrap64 ((rd l0 F)*(rd l1 I))))) 10000)))) ?hg ?ho ?hn ?hr ?_;(case ho=>rfl);(case hg=>rfl);(case hn=>rfl);(case hr=>first|(go_simp;done)|(go_simp;rfl));intro bS hw;replace s:=kP Y ap hw;replace HB:=kt hw;clear hw Y)))
          go_roundg bh
          case measure=>have:=am.out;have:=an.out;have:=az.out;omega
          case rel=>exact⟨(bj),(wrap64 (Int.tdiv (wrap64 ((wrap64 ((rd D (z))+E))+(wrap64 ((rd l0 F)*(rd l1 I))))) 10000)),(wrap64 (I+1)),(by first|rfl|(simp;done)|(simp only[<-ac]<;>(first|rfl|simp))|(simp[*];done)),rS,H',⟨by have:=am.out;have:=an.out;have:=az.out;omega⟩,⟨kd s⟩,⟨hB⟩⟩
         .have bz:=decide_eq_false c15
          clear c15;first|(revert H;with_reducible refine gy λ br aq H=>?_)|(generalize bb:((D.set ((z):Int).toNat (Int.tmod (wrap64 ((rd D (z))+E)) 10000)):List Int)=br at H;have aq:=ah.mk bb.symm;clear bb)
          have H':=ah.mk H;clear H;obtain⟨Ao24,co24,cd⟩:=Kd.dR s.out;subst cd;obtain⟨bE,a3,ag,b8,b9⟩:=ai (Kd.d9 s.out).2.2 (z);cases a3;have aL:0≤((z):Int):=oA;have aO:((z):Int)<((D.length:Int):Int):=oA;obtain⟨a5,co23,bs,bt,ce,cl23,bu⟩:=Kd.jT s.out (by omega)
          (first|cases bs|(injection bs with ae bo bp;(first|subst ae|(injection ae with ae;subst ae));subst bp;clear bo))
          have GB23:=ah.mk bt;have GG23:=ah.mk bu;clear bt ce bu
          (first|simp only[add_plain]at ag|skip)
          obtain⟨ax,ay⟩:=Kd.fC 0 s.out ((z):Int) aL aO;replace aL:=eq_true aL;replace aO:=eq_true aO;have Z:=Kd.iH s.out ((z):Int) (Int.tmod (wrap64 ((rd D (z))+E)) 10000)
          go_wp2_with (first|((with_reducible refine qh (t:=3) (p:=62) rfl ?_);(try(rw[qj wc];generalize J:World.drewN wc _=wc;have O:=ah.mk (Kd.G5 J s.out);have T:=ah.mk (um J HB.out);clear J s HB;have s:=O;have HB:=T;clear O T;(try(obtain⟨ax,ay⟩:=Kd.fC 0 s.out ((z):Int) (of_eq_true aL) (of_eq_true aO)));(try(have Z:=Kd.iH s.out ((z):Int) (Int.tmod (wrap64 ((rd D (z))+E)) 10000)))));refine mX (t:=3) (p:=62) (v:=?a2) (w1:=(wc.setCell ⟨a5,((z):Int).toNat,none⟩ (.int .i64 (Int.tmod (wrap64 ((rd D (z))+E)) 10000)))) ?hg ?ho ?hn ?hr ?_;(case ho=>rfl);(case hg=>rfl);(case hn=>rfl);(case hr=>first|(go_simp;done)|(go_simp;rfl));intro b0 hw;replace s:=kP Z aq hw;replace HB:=kt hw;clear hw Z))
          repeat(go_quiet (first|((with_reducible refine qh (t:=3) (p:=62) rfl ?_);(try(rw[qj wc];generalize J:World.drewN wc _=wc;have O:=ah.mk (Kd.G5 J s.out);have T:=ah.mk (um J HB.out);clear J s HB;have s:=O;have HB:=T;clear O T;(try(obtain⟨ax,ay⟩:=Kd.fC 0 s.out ((z):Int) (of_eq_true aL) (of_eq_true aO)));(try(have Z:=Kd.iH s.out ((z):Int) (Int.tmod (wrap64 ((rd D (z))+E)) 10000)))));refine mX (t:=3) (p:=62) (v:=?a2) (w1:=(wc.setCell ⟨a5,((z):Int).toNat,none⟩ (.int .i64 (Int.tmod (wrap64 ((rd D (z))+E)) 10000)))) ?hg ?ho ?hn ?hr ?_;(case ho=>rfl);(case hg=>rfl);(case hn=>rfl);(case hr=>first|(go_simp;done)|(go_simp;rfl));intro b0 hw;replace s:=kP Z aq hw;replace HB:=kt hw;clear hw Z));try go_wp2_with (first|((with_reducible refine qh (t:=3) (p:=62) rfl ?_);(try(rw[qj wc];generalize J:World.drewN wc _=wc;have O:=ah.mk (Kd.G5 J s.out);have T:=ah.mk (um J HB.out);clear J s HB;have s:=O;have HB:=T;clear O T;(try(obtain⟨ax,ay⟩:=Kd.fC 0 s.out ((z):Int) (of_eq_true aL) (of_eq_true aO)));(try(have Z:=Kd.iH s.out ((z):Int) (Int.tmod (wrap64 ((rd D (z))+E)) 10000)))));refine mX (t:=3) (p:=62) (v:=?a2) (w1:=(wc.setCell ⟨a5,((z):Int).toNat,none⟩ (.int .i64 (Int.tmod (wrap64 ((rd D (z))+E)) 10000)))) ?hg ?ho ?hn ?hr ?_;(case ho=>rfl);(case hg=>rfl);(case hn=>rfl);(case hr=>first|(go_simp;done)|(go_simp;rfl));intro b0 hw;replace s:=kP Z aq hw;replace HB:=kt hw;clear hw Z)))
          go_roundg bh
          case measure=>have:=am.out;have:=an.out;have:=az.out;omega
          case rel=>exact⟨(br),(wrap64 (Int.tdiv (wrap64 ((rd D (z))+E)) 10000)),(wrap64 (I+1)),(by first|rfl|(simp;done)|(simp only[<-ac]<;>(first|rfl|simp))|(simp[*];done)),rS,H',⟨by have:=am.out;have:=an.out;have:=az.out;omega⟩,⟨kd s⟩,⟨hB⟩⟩
        .replace H:=jf H
         have H':=ah.mk H;clear H;go_wp2;repeat(go_quiet (fail);try go_wp2)
         go_roundg bh
         case measure=>have:=am.out;have:=an.out;have:=az.out;omega
         case rel=>exact⟨(D),(wrap64 (F+1)),rS,H',⟨by have:=am.out;have:=an.out;have:=az.out;omega⟩,⟨kd s⟩,⟨hB⟩⟩
   .have bd:=decide_eq_false c8
    clear c8;revert H;refine bi λ a6 bv H=>?_;obtain rfl:=Option.some.inj H;obtain⟨a7,a8,cg⟩:=Kd.dR s.out;subst cg
    go_wp2_with (first|(go_at_call 263;(with_reducible refine(bL.calls k1 (λ k_=>some k_=(.slice a7 U.length a8:Value).ownBlock) _ _ U a6 _ ?af bv.out).mono ?_);(case af=>exact Kd.kC (Kd.jr rfl (s.out)));rintro e b1 ⟨bw,rfl,ho0,hb⟩;have aS:=kL (λ k_=>(w.heap.size≤k_)) ho0 (fo (s.out).1);replace s:=kR s hb;replace HB:=kh hb;clear hb ho0))
    repeat(go_quiet (first|(go_at_call 263;(with_reducible refine(bL.calls k1 (λ k_=>some k_=(.slice a7 U.length a8:Value).ownBlock) _ _ U a6 _ ?af bv.out).mono ?_);(case af=>exact Kd.kC (Kd.jr rfl (s.out)));rintro e b1 ⟨bw,rfl,ho0,hb⟩;have aS:=kL (λ k_=>(w.heap.size≤k_)) ho0 (fo (s.out).1);replace s:=kR s hb;replace HB:=kh hb;clear hb ho0));try go_wp2_with (first|(go_at_call 263;(with_reducible refine(bL.calls k1 (λ k_=>some k_=(.slice a7 U.length a8:Value).ownBlock) _ _ U a6 _ ?af bv.out).mono ?_);(case af=>exact Kd.kC (Kd.jr rfl (s.out)));rintro e b1 ⟨bw,rfl,ho0,hb⟩;have aS:=kL (λ k_=>(w.heap.size≤k_)) ho0 (fo (s.out).1);replace s:=kR s hb;replace HB:=kh hb;clear hb ho0)))
    go_ret;exact⟨_,by first|rfl|(simp[eP,eT]<;>rfl)|(simp only[<-aP];first|rfl|(simp[eP,eT]<;>rfl))|(simp[*,eP,eT]<;>rfl),kd aS,hB⟩
def fQ.f(k:Nat)(a0_0:Bool)(l0_1:List Int)(s:List Int):Option (Bool):=(bq.f k 1).bind λ z=>((bg.f k s z).bind λ D=>(some (D==0)))
set_option maxHeartbeats 8000000 in
set_option maxRecDepth 100000 in
theorem fQ.calls(k:Nat)(I:Bool)(J:Option Addr)(L:Nat)(z:List Int)(E:Option Addr)(F:Nat)(s:List Int)(r:Bool)(w:World)(X:Kd.C (Kd.int .i64) w J z.length z)(Y:z.length≤L)(Z:Kd.C (Kd.int .i64) w E s.length s)(aa:s.length≤F)(H:fQ.f k I z s=some r):
 Calls Tryz.prog 139 #[.agg #[.bool I,.slice J z.length L,.slice E s.length F]] w λ e w'=>e= .returned (.bool r)∧Below w.heap.size w w':=by
 have hu122:=Tryz.underlying122;have HR0_1:=ah.mk X;have HC0_1:=ah.mk Y;clear X Y;have ab:=ah.mk Z;have ac:=ah.mk aa;clear Z aa;have HB:=ah.mk (Below.refl w.heap.size w);unfold fQ.f at H;revert H;refine bi λ U A2 H=>?_;revert H;refine bi λ al A3 H=>?_;obtain rfl:=Option.some.inj H;go_enter Tryz.func139,Tryz.ntmps139;try go_wp2_with (first|((with_reducible refine gd 1 rfl ?_);refine bx #[.bool I,.slice J z.length L,.slice E s.length F] 122 ?_;intro O hg w4 D hb;have GW533:=kz hg;have GE533:=kz hg;replace HB:=kh hb;clear hb hg))
 replace D:=kx D;replace HB:=ky HB;refine mR (n:=6) (S:=λ w'=>w'.cell? ⟨O,0,none⟩=some (.bool I)∧w'.cell? ⟨O,1,none⟩=some (.slice J z.length L)∧w'.cell? ⟨O,2,none⟩=some (.slice E s.length F)) (ds:=[]) #[false,false,false,false,false,false] (by kernel_rfl) rfl rfl hs λ hHeld=>?_;generalize w4.drew=w5 at D HB hHeld|-
 refine E8 (i:=0) (N:=some 3) (v:=?_) (a':=?_) #[true,false,false,false,false,false] rfl rfl (by kernel_rfl) (λ _ _ _ h=>h) (Or.inl ⟨by rfl,?_⟩) ?_ ?_;rotate_left
 .intro w'
  go_simp
  with_reducible rfl
 rotate_left
 .simp only[Act.put,List.setIfInBounds_toArray,List.set_cons_zero,List.set_cons_succ,eY,iI]
  rfl
 refine yu (i:=1) (N:=some 4) (v:=?_) (a':=?_) #[true,true,false,false,false,false] rfl rfl (by kernel_rfl) (λ _ _ _ h=>h) (Or.inl ⟨by rfl,?_⟩) hHeld ?_ ?_;rotate_left
 .rintro w' ⟨s0,s1,s2⟩
  go_simp
  with_reducible rfl
 rotate_left
 .simp only[Act.put,List.setIfInBounds_toArray,List.set_cons_zero,List.set_cons_succ,eY,iI]
  rfl
 refine Af (i:=2) (N:=some 5) #[true,true,true,false,false,false] rfl rfl (by kernel_rfl) (by decide) (λ K hK=>?_);refine gs Tryz.func137 #[.int .u64 1] (bq.calls k 1 U _ A2.out) ?_;rintro e w6 ⟨v535,rfl,ho0,hb⟩;refine⟨_,rfl,?_⟩;have T:=kO ho0;replace D:=kb D hb;replace HB:=kh hb;clear hb ho0;obtain⟨am,an,ae⟩:=Kd.dR T.out
 (first|subst ae|(injection ae with af ao ag;have ap:=af.symm;have aq:=ag.symm;clear af ao ag;subst ap;subst aq))
 refine hK.out _ _ hs λ hHeld=>?_;clear hK K;refine nm ?_;refine Af (i:=3) (N:=some 6) #[true,true,true,true,false,false] rfl rfl (by kernel_rfl) (by decide) (λ K hK=>?_);refine gs Tryz.func176 #[.slice E s.length F,.slice am U.length an] (bg.calls k _ _ s _ _ U al _ (sC ab) ac.out (sc ((Kd.d9 T.out).2.2)) ((Kd.d9 T.out).2.1) A3.out) ?_;rintro e w' ⟨rfl,⟨nd,rfl⟩⟩;refine⟨_,rfl,?_⟩;refine hK.out _ _ hs λ hHeld=>?_;clear hK K;refine nm ?_;refine E8 (i:=4) (N:=some 7) (v:=?_) (a':=?_) #[true,true,true,true,true,false] rfl rfl (by kernel_rfl) (λ _ _ _ h=>h) (Or.inl ⟨by rfl,?_⟩) ?_ ?_;rotate_left
 .intro w'
  go_simp
  with_reducible rfl
 rotate_left
 .simp only[Act.put,List.setIfInBounds_toArray,List.set_cons_zero,List.set_cons_succ,eY,iI]
  rfl
 refine E8 (i:=5) (N:=some 2) (v:=?_) (a':=?_) #[true,true,true,true,true,true] rfl rfl (by kernel_rfl) (λ _ _ _ h=>h) (Or.inl ⟨by rfl,?_⟩) ?_ ?_;rotate_left
 .intro w'
  go_simp
  with_reducible rfl
 rotate_left
 .simp only[Act.put,List.setIfInBounds_toArray,List.set_cons_zero,List.set_cons_succ,eY,iI]
  rfl
 refine E9 (by kernel_rfl) ?_;try go_wp2
 go_ret;exact⟨rW,hB⟩
mutual
def bJ.l0:Nat->ByteArray->List Int->Int->Option (List Int)
 |0,_,_,_=>none
 |k+1,x0,x3,x4=>if x4>0 then(bJ.l1 k x0 x3 x4 0 (mx 0 (wrap64 (x4-4))))else((bL.f k x3).bind λ s=>(some s))
def bJ.l1:Nat->ByteArray->List Int->Int->Int->Int->Option (List Int)
 |0,_,_,_,_,_=>none
 |k+1,x0,x3,x4,x5,x6=>if x6<x4 then(if 0≤x6 then(if x6<(x0.size:Int)then(bJ.l1 k x0 x3 x4 (wrap64 ((wrap64 (10*x5))+(((bt x0 x6)-48)% 256))) (wrap64 (x6+1)))else(none))else(none))else(if x3.length<17592186044416 then(bJ.l0 k x0 (x3++[x5]) (wrap64 (x4-4)))else(none))
end
def bJ.f(k:Nat)(a0:ByteArray):Option (List Int):=bJ.l0 k a0 ([]:List Int) (a0.size:Int)
set_option maxHeartbeats 8000000 in
set_option maxRecDepth 100000 in
theorem bJ.calls(k:Nat)(a0:ByteArray)(r:List Int)(w:World)(H:bJ.f k a0=some r):
 Calls Tryz.prog 175 #[.string a0] w λ e w'=>∃ac:Value,e= .returned (ac)∧Kd.V (Kd.int .i64) 3 w' w.heap.size (λ k_=>(w.heap.size≤k_)) ac r∧Below w.heap.size w w':=by
 have HB:=ah.mk (Below.refl w.heap.size w);unfold bJ.f at H;have H':=ah.mk H;clear H;go_enter Tryz.func175,Tryz.ntmps175;go_wp2;go_loopg [3,4] k (λ kq v3 v4 w'=>∃(s:List Int)(D:Int),v4= .int .i64 D∧ah (bJ.l0 kq a0 s D=some r)∧ah (kq≤k)∧ah (Kd.R (Kd.int .i64) 3 w' w.heap.size (λ k_=>(w.heap.size≤k_)) v3 s)∧ah (Below w.heap.size w w'))
 case atStart=>exact⟨(([]:List Int)),((a0.size:Int)),rS,H',⟨Nat.le_refl _⟩,⟨by first|exact Kd.mZ _ _ _ _ _|exact Kd.F3 _ _ _ _ _|exact Kd.lu _ _ _ _ _|exact Kd.F4 _ _ _ _ _|exact Kd.F5 _ _ _ _ _⟩,⟨hB⟩⟩
 case round=>
  clear H';obtain⟨s,D,rfl,HA,J,z,HB⟩:=hrel;cases gk with
  |zero=>exact absurd HA.out (by simp[bJ.l0])
  |succ k1=>
   have H:=HA.out;clear HA;simp only[bJ.l0]at H;revert H;refine ci (λ c2 H=>?_) λ c2 H=>?_
   .have U:=decide_eq_true c2
    clear c2;obtain⟨ae,I⟩:∃ao,(mx 0 (wrap64 (D-4)))=ao:=⟨_,rfl⟩;first|rw[I]at H|simp only[I]at H
    have hji3_:(if 0<(wrap64 (D-4))then(wrap64 (D-4))else 0)=ae:=I;have H':=ah.mk H;clear H;go_wp2;go_loopg [5,6] k1 (λ kq v5 v6 w'=>∃(F:Int)(E:Int),v5= .int .i64 F∧v6= .int .i64 E∧ah (bJ.l1 kq a0 s D F E=some r)∧ah (kq≤k1)∧ah (Kd.R (Kd.int .i64) 3 w' w.heap.size (λ k_=>(w.heap.size≤k_)) u3 s)∧ah (Below w.heap.size w w'))
    case atStart=>exact⟨(0),(ae),rS,(by first|rfl|(simp;done)|(simp only[<-I]<;>(first|rfl|simp))|(simp[*];done)),H',⟨Nat.le_refl _⟩,⟨kd z⟩,⟨hB⟩⟩
    case round=>
     clear H'
     (try clear U)
     obtain⟨F,E,rfl,rfl,HA,L,z,HB⟩:=hrel;cases gk with
     |zero=>exact absurd HA.out (by simp[bJ.l1])
     |succ k2=>
      have H:=HA.out;clear HA;simp only[bJ.l1]at H;revert H;refine ci (λ c4 H=>?_) λ c4 H=>?_
      .have af:=decide_eq_true c4
       clear c4;revert H;refine cn λ c5 H=>?_;have c5b0:=decide_eq_true c5;clear c5;revert H;refine cn λ c6 H=>?_;have c6b0:=decide_eq_true c6;clear c6;have H':=ah.mk H;clear H;have p7:0≤(E:Int):=oA;have q7:E<(a0.size:Int):=oA;have hx7:=iX a0 E;replace p7:=eq_true p7;replace q7:=eq_true q7;go_wp2;go_roundg k2
       case measure=>have:=J.out;have:=L.out;omega
       case rel=>exact⟨(wrap64 ((wrap64 (10*F))+(((bt a0 E)-48)% 256))),(wrap64 (E+1)),rS,rS,H',⟨by have:=J.out;have:=L.out;omega⟩,⟨kd z⟩,⟨hB⟩⟩
      .have af:=decide_eq_false c4
       clear c4;revert H;refine cn λ c8 H=>?_;have ag:=ah.mk c8;clear c8;first|(revert H;with_reducible refine gy λ X O H=>?_)|(generalize T:((s++[F]):List Int)=X at H;have O:=ah.mk T.symm;clear T)
       have H':=ah.mk H;clear H
       go_wp2_with (first|((with_reducible refine eX (b:= .append) (xs:= #[.tmp 29,.tmp 31]) rfl ?_);at_builtin;refine Kd.jl (Kd.int .i64) (w0:=w) w.heap.size rfl (.tmp 29) (.tmp 31) 120 3 (.int .i64 0) 8 rfl Tryz.underlying120 info3 rfl (by decide) (by omega) u3 s F [.int .i64 F] (λ k_=>(w.heap.size≤k_)) (λ _=>False) rfl rfl ?ap (λ _ hk=>hk.elim) ?aq ?ar ?av ?aw ?ax ?_;(case ap=>exact rfl);(case av=>exact hB);(case aq=>exact ff);(case ar=>exact(kd z));(case aw=>exact(bG hB));(case ax=>have:=ag.out;omega);intro v383 w9 ho hb hg hat;rw[<-O.out]at ho;replace HB:=ah.mk (hb);have aa:=ah.mk (ho);clear z ho hb hg hat))
       go_roundg k2
       case measure=>have:=J.out;have:=L.out;omega
       case rel=>exact⟨(X),(wrap64 (D-4)),rS,H',⟨by have:=J.out;have:=L.out;omega⟩,⟨kd aa⟩,⟨hB⟩⟩
   .have U:=decide_eq_false c2
    clear c2;revert H;refine bi λ al an H=>?_;obtain rfl:=Option.some.inj H;obtain⟨Y,Z,am⟩:=Kd.dR z.out;subst am
    go_wp2_with (first|((with_reducible refine gc 263 rfl ?_);refine gl (some 34) Tryz.func263 (args:= #[.slice Y s.length Z]) (bL.calls k1 (λ k_=>some k_=(.slice Y s.length Z:Value).ownBlock) _ _ s al _ (Kd.kC (Kd.jr rfl (z.out))) an.out) ?_;rintro e w12 ⟨v380,rfl,ho0,hb⟩;refine⟨_,rfl,?_⟩;have ab:=kL (λ k_=>(w.heap.size≤k_)) ho0 (fo (z.out).1);replace z:=kR z hb;replace HB:=kh hb;clear hb ho0))
    go_ret;exact⟨_,rW,kd ab,hB⟩
def bP.l0:Nat->List Int->List Int->List Int->Int->Int->Option (List Int)
 |0,_,_,_,_,_=>none
 |k+1,x0,x1,x5,x6,x7=>if x7<(x0.length:Int)then(if 0≤x7 then(if x7<(x1.length:Int)then(if(wrap64 ((wrap64 ((rd x0 x7)-x6))-(rd x1 x7)))<0 then(if x7<(x5.length:Int)then(bP.l0 k x0 x1 (x5.set (x7:Int).toNat (wrap64 ((wrap64 ((wrap64 ((rd x0 x7)-x6))-(rd x1 x7)))+10000))) 1 (wrap64 (x7+1)))else(none))else(if x7<(x5.length:Int)then(bP.l0 k x0 x1 (x5.set (x7:Int).toNat (wrap64 ((wrap64 ((rd x0 x7)-x6))-(rd x1 x7)))) 0 (wrap64 (x7+1)))else(none)))else(if(wrap64 ((rd x0 x7)-x6))<0 then(if x7<(x5.length:Int)then(bP.l0 k x0 x1 (x5.set (x7:Int).toNat (wrap64 ((wrap64 ((rd x0 x7)-x6))+10000))) 1 (wrap64 (x7+1)))else(none))else(if x7<(x5.length:Int)then(bP.l0 k x0 x1 (x5.set (x7:Int).toNat (wrap64 ((rd x0 x7)-x6))) 0 (wrap64 (x7+1)))else(none))))else(none))else((bL.f k x5).bind λ s=>(some s))
def bP.f(k:Nat)(l0:List Int)(l1:List Int):Option (List Int):=if 0≤(l0.length:Int)then(if((l0.length:Int):Int).toNat≤35184372088832 then(bP.l0 k l0 l1 (List.replicate ((l0.length:Int):Int).toNat 0) 0 0)else(none))else(none)
set_option maxHeartbeats 8000000 in
set_option maxRecDepth 100000 in
theorem bP.calls(k:Nat)(A0:Option Addr)(c0:Nat)(l0:List Int)(A1:Option Addr)(c1:Nat)(l1:List Int)(r:List Int)(w:World)(hr0:Kd.C (Kd.int .i64) w A0 l0.length l0)(hc0:l0.length≤c0)(hr1:Kd.C (Kd.int .i64) w A1 l1.length l1)(hc1:l1.length≤c1)(H:bP.f k l0 l1=some r):
 Calls Tryz.prog 186 #[.slice A0 l0.length c0,.slice A1 l1.length c1] w λ e w'=>∃bo:Value,e= .returned (bo)∧Kd.V (Kd.int .i64) 3 w' w.heap.size (λ k_=>(w.heap.size≤k_)) bo r∧Below w.heap.size w w':=by
 have ae:=ah.mk hr0;have HC0:=ah.mk hc0;clear hr0 hc0;have HR1:=ah.mk hr1;have HC1:=ah.mk hc1;clear hr1 hc1;have HB:=ah.mk (Below.refl w.heap.size w);unfold bP.f at H;revert H;refine cn λ c3 H=>?_;have bp:=eq_true c3;have br:=decide_eq_true c3;clear c3;revert H;refine cn λ c4 H=>?_;have bs:=eq_true c4;have bt:=decide_eq_true c4;clear c4;first|(revert H;with_reducible refine gy λ av X H=>?_)|(generalize af:((List.replicate ((l0.length:Int):Int).toNat 0):List Int)=av at H;have X:=ah.mk af.symm;clear af)
 have H':=ah.mk H;clear H;go_enter Tryz.func186,Tryz.ntmps186
 go_wp2_with (first|((with_reducible refine gV (N:=11) rfl ?_);refine Kd.sQ (Kd.int .i64) _ 3 rfl (N:=11) rfl 120 _ _ rfl (l0.length:Int) rfl rfl Tryz.underlying120 (.int .i64 0) 8 info3 rfl (by decide) (by omega) 0 (ok:=λ _=>True) (kZ:=λ _=>True) rfl (λ _ hk=>hk) trivial oA (Nat.le_trans (Nat.mul_le_mul_right _ (oA:(l0.length:Int).toNat≤35184372088832)) (by omega)) (Below.refl _ _) (Nat.le_refl _) ?_;intro bu w5 Z hb b8 be;clear b8 be;(first|rw[<-X.out]at Z|(simp only[Int.reduceToNat]at Z;rw[<-X.out]at Z));have bh:=kN Z;replace HB:=kh hb;clear hb Z))
 go_loopg [6,7] k (λ kq v6 v7 w'=>∃(F:List Int)(E:Int)(s:Int),v6= .int .i64 E∧v7= .int .i64 s∧ah (bP.l0 kq l0 l1 F E s=some r)∧ah (kq≤k)∧ah (Kd.R (Kd.int .i64) 3 w' w.heap.size (λ k_=>(w.heap.size≤k_)) bu F)∧ah (Below w.heap.size w w'))
 case atStart=>exact⟨(av),(0),(0),rS,rS,H',⟨Nat.le_refl _⟩,⟨kw bh⟩,⟨hB⟩⟩
 case round=>
  clear H';clear bp br bs bt;obtain⟨F,E,s,rfl,rfl,HA,O,z,HB⟩:=hrel;cases gk with
  |zero=>exact absurd HA.out (by simp[bP.l0])
  |succ k1=>
   have H:=HA.out;clear HA;simp only[bP.l0]at H;revert H;refine ci (λ c7 H=>?_) λ c7 H=>?_
   .have bv:=decide_eq_true c7
    clear c7;revert H;refine cn λ c8 H=>?_;have c8b0:=decide_eq_true c8;clear c8;revert H;refine ci (λ c9 H=>?_) λ c9 H=>?_
    .have bw:=decide_eq_true c9
     clear c9;revert H;refine ci (λ c10 H=>?_) λ c10 H=>?_
     .have bj:=decide_eq_true c10
      clear c10;revert H;refine cn λ c11 H=>?_;have c11b0:=decide_eq_true c11;clear c11;first|(revert H;with_reducible refine gy λ aw ag H=>?_)|(generalize al:((F.set (s:Int).toNat (wrap64 ((wrap64 ((wrap64 ((rd l0 s)-E))-(rd l1 s)))+10000))):List Int)=aw at H;have ag:=ah.mk al.symm;clear al)
      have H':=ah.mk H;clear H;obtain⟨Y,L,D,aa,ab⟩:=ai ae.out s;cases L;replace D:=hc D;obtain⟨bk,ac,J,bz,bE⟩:=ai HR1.out s;cases ac;replace J:=hc J;have ax:0≤(s:Int):=oA;have ay:(s:Int)<((F.length:Int):Int):=oA;obtain⟨bI,co12,az,aB,bS,cl12,aD⟩:=Kd.jT z.out (by omega)
      (first|cases az|(injection az with I T U;(first|subst I|(injection I with I;subst I));subst U;clear T))
      have GB12:=ah.mk aB;have GG12:=ah.mk aD;clear aB bS aD;obtain⟨hx12_0,hf12_0⟩:=Kd.fC 0 z.out (s:Int) ax ay;replace ax:=eq_true ax;replace ay:=eq_true ay;have aE:=Kd.iH z.out (s:Int) (wrap64 ((wrap64 ((wrap64 ((rd l0 s)-E))-(rd l1 s)))+10000))
      go_wp2_with (first|((with_reducible refine gt 3 41 rfl ?_);refine st (wr.setCell ⟨bI,(s:Int).toNat,none⟩ (.int .i64 (wrap64 ((wrap64 ((wrap64 ((rd l0 s)-E))-(rd l1 s)))+10000)))) ?_;intro w14 hw;replace z:=kP aE ag hw;replace HB:=kt hw;clear hw aE))
      go_roundg k1
      case measure=>have:=O.out;omega
      case rel=>exact⟨(aw),(1),(wrap64 (s+1)),rS,rS,H',⟨by have:=O.out;omega⟩,⟨kd z⟩,⟨hB⟩⟩
     .have bj:=decide_eq_false c10
      clear c10;revert H;refine cn λ c15 H=>?_;have c15b0:=decide_eq_true c15;clear c15;first|(revert H;with_reducible refine gy λ aF am H=>?_)|(generalize an:((F.set (s:Int).toNat (wrap64 ((wrap64 ((rd l0 s)-E))-(rd l1 s)))):List Int)=aF at H;have am:=ah.mk an.symm;clear an)
      have H':=ah.mk H;clear H;obtain⟨Y,L,D,aa,ab⟩:=ai ae.out s;cases L;replace D:=hc D;obtain⟨bk,ac,J,bz,bE⟩:=ai HR1.out s;cases ac;replace J:=hc J;have p16:0≤(s:Int):=oA;have q16:(s:Int)<((F.length:Int):Int):=oA;obtain⟨b0,co16,aL,aO,b1,cl16,aP⟩:=Kd.jT z.out (by omega)
      (first|cases aL|(injection aL with I T U;(first|subst I|(injection I with I;subst I));subst U;clear T))
      have GB16:=ah.mk aO;have GG16:=ah.mk aP;clear aO b1 aP;obtain⟨hx16_0,hf16_0⟩:=Kd.fC 0 z.out (s:Int) p16 q16;replace p16:=eq_true p16;replace q16:=eq_true q16;have aR:=Kd.iH z.out (s:Int) (wrap64 ((wrap64 ((rd l0 s)-E))-(rd l1 s)))
      go_wp2_with (first|((with_reducible refine gt 3 41 rfl ?_);refine st (wr.setCell ⟨b0,(s:Int).toNat,none⟩ (.int .i64 (wrap64 ((wrap64 ((rd l0 s)-E))-(rd l1 s))))) ?_;intro w18 hw;replace z:=kP aR am hw;replace HB:=kt hw;clear hw aR))
      go_roundg k1
      case measure=>have:=O.out;omega
      case rel=>exact⟨(aF),(0),(wrap64 (s+1)),rS,rS,H',⟨by have:=O.out;omega⟩,⟨kd z⟩,⟨hB⟩⟩
    .have bw:=decide_eq_false c9
     clear c9;revert H;refine ci (λ c19 H=>?_) λ c19 H=>?_
     .have bl:=decide_eq_true c19
      clear c19;revert H;refine cn λ c20 H=>?_;have c20b0:=decide_eq_true c20;clear c20;first|(revert H;with_reducible refine gy λ aS ao H=>?_)|(generalize ap:((F.set (s:Int).toNat (wrap64 ((wrap64 ((rd l0 s)-E))+10000))):List Int)=aS at H;have ao:=ah.mk ap.symm;clear ap)
      have H':=ah.mk H;clear H;obtain⟨Y,L,D,aa,ab⟩:=ai ae.out s;cases L;replace D:=hc D;have a0:0≤(s:Int):=oA;have a1:(s:Int)<((F.length:Int):Int):=oA;obtain⟨b2,co21,a2,a3,b3,cl21,a4⟩:=Kd.jT z.out (by omega)
      (first|cases a2|(injection a2 with I T U;(first|subst I|(injection I with I;subst I));subst U;clear T))
      have GB21:=ah.mk a3;have GG21:=ah.mk a4;clear a3 b3 a4;obtain⟨hx21_0,hf21_0⟩:=Kd.fC 0 z.out (s:Int) a0 a1;replace a0:=eq_true a0;replace a1:=eq_true a1;have a5:=Kd.iH z.out (s:Int) (wrap64 ((wrap64 ((rd l0 s)-E))+10000))
      go_wp2_with (first|((with_reducible refine gt 3 41 rfl ?_);refine st (wr.setCell ⟨b2,(s:Int).toNat,none⟩ (.int .i64 (wrap64 ((wrap64 ((rd l0 s)-E))+10000)))) ?_;intro w23 hw;replace z:=kP a5 ao hw;replace HB:=kt hw;clear hw a5))
      go_roundg k1
      case measure=>have:=O.out;omega
      case rel=>exact⟨(aS),(1),(wrap64 (s+1)),rS,rS,H',⟨by have:=O.out;omega⟩,⟨kd z⟩,⟨hB⟩⟩
     .have bl:=decide_eq_false c19
      clear c19;revert H;refine cn λ c24 H=>?_;have c24b0:=decide_eq_true c24;clear c24;first|(revert H;with_reducible refine gy λ a6 aq H=>?_)|(generalize ar:((F.set (s:Int).toNat (wrap64 ((rd l0 s)-E))):List Int)=a6 at H;have aq:=ah.mk ar.symm;clear ar)
      have H':=ah.mk H;clear H;obtain⟨Y,L,D,aa,ab⟩:=ai ae.out s;cases L;replace D:=hc D;have p25:0≤(s:Int):=oA;have a7:(s:Int)<((F.length:Int):Int):=oA;obtain⟨b4,co25,a8,a9,b5,cl25,ba⟩:=Kd.jT z.out (by omega)
      (first|cases a8|(injection a8 with I T U;(first|subst I|(injection I with I;subst I));subst U;clear T))
      have GB25:=ah.mk a9;have GG25:=ah.mk ba;clear a9 b5 ba;obtain⟨hx25_0,hf25_0⟩:=Kd.fC 0 z.out (s:Int) p25 a7;replace p25:=eq_true p25;replace a7:=eq_true a7;have bb:=Kd.iH z.out (s:Int) (wrap64 ((rd l0 s)-E))
      go_wp2_with (first|((with_reducible refine gt 3 41 rfl ?_);refine st (wr.setCell ⟨b4,(s:Int).toNat,none⟩ (.int .i64 (wrap64 ((rd l0 s)-E)))) ?_;intro w27 hw;replace z:=kP bb aq hw;replace HB:=kt hw;clear hw bb))
      go_roundg k1
      case measure=>have:=O.out;omega
      case rel=>exact⟨(a6),(0),(wrap64 (s+1)),rS,rS,H',⟨by have:=O.out;omega⟩,⟨kd z⟩,⟨hB⟩⟩
   .have bv:=decide_eq_false c7
    clear c7;revert H;refine bi λ b6 b9 H=>?_;obtain rfl:=Option.some.inj H;obtain⟨bc,bd,b7⟩:=Kd.dR z.out;subst b7
    go_wp2_with (first|((with_reducible refine gc 263 rfl ?_);refine gl (some 43) Tryz.func263 (args:= #[.slice bc F.length bd]) (bL.calls k1 (λ k_=>some k_=(.slice bc F.length bd:Value).ownBlock) _ _ F b6 _ (Kd.kC (Kd.jr rfl (z.out))) b9.out) ?_;rintro e w30 ⟨v393,rfl,ho0,hb⟩;refine⟨_,rfl,?_⟩;have bm:=kL (λ k_=>(w.heap.size≤k_)) ho0 (fo (z.out).1);replace z:=kR z hb;replace HB:=kh hb;clear hb ho0))
    go_ret;exact⟨_,rW,kd bm,hB⟩
mutual
def aQ.l0:Nat->List Int->List Int->Int->Option (ByteArray)
 |0,_,_,_=>none
 |k+1,x0,x3,x4=>if x4<(x3.length:Int)then(if 0≤x4 then(aQ.l0 k x0 (x3.set (x4:Int).toNat 48) (wrap64 (x4+1)))else(none))else(aQ.l1 k x0 x3 (wrap64 ((x3.length:Int)-1)) 0)
def aQ.l1:Nat->List Int->List Int->Int->Int->Option (ByteArray)
 |0,_,_,_,_=>none
 |k+1,x0,x3,x5,x6=>if x6<(x0.length:Int)then(if 0≤x6 then(aQ.l2 k x0 x3 x5 x6 (rd x0 x6) 0)else(none))else(some (strOfNums x3))
def aQ.l2:Nat->List Int->List Int->Int->Int->Int->Int->Option (ByteArray)
 |0,_,_,_,_,_,_=>none
 |k+1,x0,x3,x5,x6,x7,x8=>if x8<4 then(if x5≥0 then(if 0≤x5 then(if x5<(x3.length:Int)then(aQ.l2 k x0 (x3.set (x5:Int).toNat ((wrap64 (48+(Int.tmod x7 10)))% 256)) (wrap64 (x5-1)) x6 (wrap64 (Int.tdiv x7 10)) (wrap64 (x8+1)))else(none))else(none))else(aQ.l1 k x0 x3 x5 (wrap64 (x6+1))))else(aQ.l1 k x0 x3 x5 (wrap64 (x6+1)))
end
def aQ.f(k:Nat)(l0:List Int):Option (ByteArray):=(dD.f k l0).bind λ s=>(if 0≤s then(if(s:Int).toNat≤281474976710656 then(aQ.l0 k l0 (List.replicate (s:Int).toNat 0) 0)else(none))else(none))
set_option maxHeartbeats 8000000 in
set_option maxRecDepth 100000 in
theorem aQ.calls(k:Nat)(A0:Option Addr)(c0:Nat)(l0:List Int)(r:ByteArray)(w:World)(hr0:Kd.C (Kd.int .i64) w A0 l0.length l0)(hc0:l0.length≤c0)(H:aQ.f k l0=some r):
 Calls Tryz.prog 138 #[.slice A0 l0.length c0] w λ e w'=>e= .returned (.string r)∧Below w.heap.size w w':=by
 have a5:=ah.mk hr0;have bs:=ah.mk hc0;clear hr0 hc0;have HB:=ah.mk (Below.refl w.heap.size w);unfold aQ.f at H;revert H;refine bi λ ab A2 H=>?_;revert H;refine cn λ c3 H=>?_;have a9:=eq_true c3;have ba:=decide_eq_true c3;clear c3;revert H;refine cn λ c4 H=>?_;have bb:=eq_true c4;have bc:=decide_eq_true c4;clear c4;first|(revert H;with_reducible refine gy λ ar ac H=>?_)|(generalize al:((List.replicate (ab:Int).toNat 0):List Int)=ar at H;have ac:=ah.mk al.symm;clear al)
 have H':=ah.mk H;clear H;go_enter Tryz.func138,Tryz.ntmps138
 go_wp2_with (first|((with_reducible refine gc 243 rfl ?_);refine gl (some 10) Tryz.func243 (args:= #[.slice A0 l0.length c0]) (dD.calls k _ _ l0 ab _ (sc a5.out) bs.out A2.out) ?_;rintro e w' ⟨rfl,⟨nd,rfl⟩⟩;refine⟨_,rfl,?_⟩)|((with_reducible refine gV (N:=11) rfl ?_);refine Kd.sQ (Kd.int .u8) _ 5 rfl (N:=11) rfl 58 _ _ rfl ab rfl rfl Tryz.underlying58 (.int .u8 0) 1 info5 rfl (by decide) (by omega) 0 (ok:=λ _=>True) (kZ:=λ _=>True) rfl (λ _ hk=>hk) trivial oA (Nat.le_trans (Nat.mul_le_mul_right _ (oA:ab.toNat≤281474976710656)) (by omega)) (Below.refl _ _) (Nat.le_refl _) ?_;intro bd w5 ag hb bt a0;clear bt a0;(first|rw[<-ac.out]at ag|(simp only[Int.reduceToNat]at ag;rw[<-ac.out]at ag));have a1:=kO ag;replace HB:=kh hb;clear hb ag))
 go_loopg [4] k (λ kq v4 w'=>∃(I:List Int)(F:Int),v4= .int .i64 F∧ah (aQ.l0 kq l0 I F=some r)∧ah (kq≤k)∧ah (Kd.R (Kd.int .u8) 5 w' w.heap.size (λ _=>True) bd I)∧ah (Below w.heap.size w w'))
 case atStart=>exact⟨(ar),(0),rS,H',⟨Nat.le_refl _⟩,⟨kd a1⟩,⟨hB⟩⟩
 case round=>
  clear H';clear a9 ba bb bc;obtain⟨I,F,rfl,HA,X,s,HB⟩:=hrel;cases gk with
  |zero=>exact absurd HA.out (by simp[aQ.l0])
  |succ k1=>
   have H:=HA.out;clear HA;simp only[aQ.l0]at H;revert H;refine ci (λ c7 H=>?_) λ c7 H=>?_
   .have av:=decide_eq_true c7
    clear c7;revert H;refine cn λ c8 H=>?_;have c8b0:=decide_eq_true c8;clear c8;first|(revert H;with_reducible refine gy λ aw am H=>?_)|(generalize an:((I.set (F:Int).toNat 48):List Int)=aw at H;have am:=ah.mk an.symm;clear an)
    have H':=ah.mk H;clear H;obtain⟨Ao10,co10,be⟩:=Kd.dR s.out;subst be;have bh:0≤(F:Int):=oA;have bj:(F:Int)<((I.length:Int):Int):=oA;obtain⟨bu,co9,a6,a7,bv,cl9,a8⟩:=Kd.jT s.out (by omega)
    (first|cases a6|(injection a6 with T ax ay;(first|subst T|(injection T with T;subst T));subst ay;clear ax))
    have GB9:=ah.mk a7;have GG9:=ah.mk a8;clear a7 bv a8;obtain⟨hx9_0,hf9_0⟩:=Kd.fC 0 s.out (F:Int) bh bj;replace bh:=eq_true bh;replace bj:=eq_true bj;have az:=Kd.iH s.out (F:Int) 48
    go_wp2_with (first|((with_reducible refine gt 5 20 rfl ?_);refine st (wr.setCell ⟨bu,(F:Int).toNat,none⟩ (.int .u8 48)) ?_;intro w12 hw;replace s:=kP az am hw;replace HB:=kt hw;clear hw az))
    go_roundg k1
    case measure=>have:=X.out;omega
    case rel=>exact⟨(aw),(wrap64 (F+1)),rS,H',⟨by have:=X.out;omega⟩,⟨kd s⟩,⟨hB⟩⟩
   .have av:=decide_eq_false c7
    clear c7;have H':=ah.mk H;clear H;obtain⟨aB,aD,bk⟩:=Kd.dR s.out;subst bk;go_wp2;go_loopg [5,6] k1 (λ kq v5 v6 w'=>∃(Y:List Int)(ae:Int)(J:Int),v5= .int .i64 ae∧v6= .int .i64 J∧ah (aQ.l1 kq l0 Y ae J=some r)∧ah (kq≤k1)∧ah (Kd.R (Kd.int .u8) 5 w' w.heap.size (λ _=>True) (.slice aB I.length aD) Y)∧ah (Below w.heap.size w w'))
    case atStart=>exact⟨(I),(wrap64 ((I.length:Int)-1)),(0),rS,rS,H',⟨Nat.le_refl _⟩,⟨kd s⟩,⟨hB⟩⟩
    case round=>
     clear H'
     (try clear av)
     obtain⟨Y,ae,J,rfl,rfl,HA,Z,s,HB⟩:=hrel;have D:=(Kd.d9 s.out).1;rw[D]at s
     (try simp only[D])
     cases gk with
     |zero=>exact absurd HA.out (by simp[aQ.l1])
     |succ k2=>
      have H:=HA.out;clear HA;simp only[aQ.l1]at H;revert H;refine ci (λ c14 H=>?_) λ c14 H=>?_
      .have ao:=decide_eq_true c14
       clear c14;revert H;refine cn λ c15 H=>?_;have a2:=decide_eq_true c15;clear c15;have H':=ah.mk H;clear H;obtain⟨ad531,bl,U,bm,bo⟩:=ai a5.out J;cases bl;replace U:=hc U;go_wp2;go_loopg [5,7,8] k2 (λ kq v5 v7 v8 w'=>∃(L:List Int)(z:Int)(O:Int)(af:Int),v5= .int .i64 z∧v7= .int .i64 O∧v8= .int .i64 af∧ah (aQ.l2 kq l0 L z J O af=some r)∧ah (kq≤k2)∧ah (Kd.R (Kd.int .u8) 5 w' w.heap.size (λ _=>True) (.slice aB Y.length aD) L)∧ah (Below w.heap.size w w'))
       case atStart=>exact⟨(Y),(ae),(rd l0 J),(0),rS,rS,rS,H',⟨Nat.le_refl _⟩,⟨by(try simp only[D]);exact kd s⟩,⟨hB⟩⟩
       case round=>
        clear H';clear ao a2 U bm bo;obtain⟨L,z,O,af,rfl,rfl,rfl,HA,aa,s,HB⟩:=hrel;have E:=(Kd.d9 s.out).1;rw[E]at s
        (try simp only[E])
        cases gk with
        |zero=>exact absurd HA.out (by simp[aQ.l2])
        |succ k3=>
         have H:=HA.out;clear HA;simp only[aQ.l2]at H;revert H;refine ci (λ c16 H=>?_) λ c16 H=>?_
         .have a3:=decide_eq_true c16
          clear c16;revert H;refine ci (λ c17 H=>?_) λ c17 H=>?_
          .have a4:=decide_eq_true c17
           clear c17;revert H;refine cn λ c18 H=>?_;have c18b0:=decide_eq_true c18;clear c18;revert H;refine cn λ c19 H=>?_;have c19b0:=decide_eq_true c19;clear c19;first|(revert H;with_reducible refine gy λ aE ap H=>?_)|(generalize aq:((L.set (z:Int).toNat ((wrap64 (48+(Int.tmod O 10)))% 256)):List Int)=aE at H;have ap:=ah.mk aq.symm;clear aq)
           have H':=ah.mk H;clear H;have aF:0≤(z:Int):=oA;have aL:(z:Int)<((L.length:Int):Int):=oA;obtain⟨bp,co20,aO,aP,br,cl20,aR⟩:=Kd.jT s.out (by omega)
           (first|cases aO|(injection aO with T ax ay;(first|subst T|(injection T with T;subst T));subst ay;clear ax))
           have GB20:=ah.mk aP;have GG20:=ah.mk aR;clear aP br aR;obtain⟨hx20_0,hf20_0⟩:=Kd.fC 0 s.out (z:Int) aF aL;replace aF:=eq_true aF;replace aL:=eq_true aL;have aS:=Kd.iH s.out (z:Int) ((wrap64 (48+(Int.tmod O 10)))% 256)
           go_wp2_with (first|((with_reducible refine gt 5 48 rfl ?_);refine st (wr.setCell ⟨bp,(z:Int).toNat,none⟩ (.int .u8 ((wrap64 (48+(Int.tmod O 10)))% 256))) ?_;intro w22 hw;replace s:=kP aS ap hw;replace HB:=kt hw;clear hw aS))
           (try simp only[<-E])
           go_roundg k3
           case measure=>have:=X.out;have:=Z.out;have:=aa.out;omega
           case rel=>exact⟨(aE),(wrap64 (z-1)),(wrap64 (Int.tdiv O 10)),(wrap64 (af+1)),rS,rS,rS,H',⟨by have:=X.out;have:=Z.out;have:=aa.out;omega⟩,⟨by(try simp only[D]);(try simp only[E]);(with_reducible repeat(first|apply Kd.mh|apply Kd.mo|apply Kd.ow));exact s.out⟩,⟨hB⟩⟩
          .have a4:=decide_eq_false c17
           clear c17;have H':=ah.mk H;clear H;go_wp2
           (try simp only[<-D,<-E])
           go_roundg k3
           case measure=>have:=X.out;have:=Z.out;have:=aa.out;omega
           case rel=>exact⟨(L),(z),(wrap64 (J+1)),rS,rS,H',⟨by have:=X.out;have:=Z.out;have:=aa.out;omega⟩,⟨by(try simp only[D]);(try simp only[E]);(with_reducible repeat(first|apply Kd.mh|apply Kd.mo|apply Kd.ow));exact s.out⟩,⟨hB⟩⟩
         .have a3:=decide_eq_false c16
          clear c16;have H':=ah.mk H;clear H;go_wp2
          (try simp only[<-D,<-E])
          go_roundg k3
          case measure=>have:=X.out;have:=Z.out;have:=aa.out;omega
          case rel=>exact⟨(L),(z),(wrap64 (J+1)),rS,rS,H',⟨by have:=X.out;have:=Z.out;have:=aa.out;omega⟩,⟨by(try simp only[D]);(try simp only[E]);(with_reducible repeat(first|apply Kd.mh|apply Kd.mo|apply Kd.ow));exact s.out⟩,⟨hB⟩⟩
      .have ao:=decide_eq_false c14
       clear c14;obtain rfl:=Option.some.inj H;have hcv23:=Fu (P:=Tryz.prog) Tryz.underlying58 Tryz.underlying5 Tryz.underlying9 (Kd.Ap s.out);go_wp2;go_ret;exact⟨rW,hB⟩
end Go.Proofs.Ct.Q
