/- Part of the proof of CheckTexts (see the last text). -/
import Derived.Test.YtcclielbggpoaaaGreatDoorA14
set_option linter.all false
namespace Go.Proofs.Ct.Q
open Go.RowKit Go.Proofs.aA.ak Go.Proofs.aA.aC Go.Proofs.aA.aG
attribute [local go_sem] aW aX bA bB
def bM.j0:Nat->Bool->Bool->List Int->Bool->List Int->Option (Bool×List Int×Bool×List Int×Bool)
 |0,_,_,_,_,_=>none
 |k+1,L,s,z,D,E=>if L=true then(some (false,([]:List Int),false,([]:List Int),false))else((iZ.f s z D E).bind λ I=>(if I=true then((gL.f k s z D E).bind λ F=>((gX.f F.1 F.2).bind λ J=>(some (s,z,D,E,J))))else(some (s,z,D,E,false))))
def bM.f(k:Nat)(a0:ByteArray):Option (Bool×List Int×Bool×List Int×Bool):=(strings_Cut.f a0 (⟨#[47]⟩:ByteArray)).bind λ D=>((iC.f D.1).bind λ s=>(if s.2.2=true then(if D.2.2=true then((iC.f D.2.1).bind λ z=>(if z.2.2=true then((fM.f k 1).bind λ E=>((jI.f k z.1 z.2.1 E.1 E.2).bind λ I=>(bM.j0 k (decide (I≤0)) s.1 s.2.1 z.1 z.2.1)))else(bM.j0 k true s.1 s.2.1 z.1 z.2.1)))else((fM.f k 1).bind λ F=>((eu.f s.1 s.2.1).bind λ J=>(some (s.1,s.2.1,F.1,F.2,decide (J≤300))))))else(some (false,([]:List Int),false,([]:List Int),false))))
def bM.T6:Bool×List (List Nat×List Nat):=(true,[([],[]),([],[]),([0,1],[0,1]),([],[]),([3,1],[3]),([4],[4]),([2,4,0,1,2],[2]),([5,6,0,1,2,3,4,5,6],[5])])
def bM.B6:List Nat:=[0,0,3,0,10,26,31,127]
theorem bM.Zg:jQ .any (opsOf Tryz.f56 6)=bM.T6:=by kernel_rfl
theorem bM.Yr:mF bM.T6.2 bM.B6=true:=by kernel_rfl
def bM.T8:Bool×List (List Nat×List Nat):=(true,[([],[]),([0],[0]),([1],[1]),([2],[2]),([2,2],[2]),([3,4,4,2],[2,3,4]),([5,2],[2,5]),([2,6],[2,6])])
def bM.B8:List Nat:=[0,1,3,7,7,31,63,127]
theorem bM.Xr:jQ .any (opsOf Tryz.f56 8)=bM.T8:=by kernel_rfl
theorem bM.TS:mF bM.T8.2 bM.B8=true:=by kernel_rfl
def bM.YM:Bool×List (List Nat×List Nat):=(true,[([],[]),([],[]),([1],[1]),([2,2],[2]),([3],[3]),([3],[3]),([4,5,3,3],[3,4,5]),([6,6,3],[3,6]),([3,7],[3,7]),([0,7,0],[0]),([8,9,0,1,2,3,4,5,6,7,8,9],[8])])
def bM.B11:List Nat:=[0,0,2,6,14,14,62,126,254,255,1023]
theorem bM.TT:jQ .any (opsOf Tryz.f56 11)=bM.YM:=by kernel_rfl
theorem bM.QD:mF bM.YM.2 bM.B11=true:=by kernel_rfl
set_option maxHeartbeats 8000000 in
set_option maxRecDepth 100000 in
theorem bM.calls(k:Nat)(a0:ByteArray)(r1:Bool)(r2:List Int)(r3:Bool)(r4:List Int)(r5:Bool)(w:World)(H:bM.f k a0=some (r1,r2,r3,r4,r5)):
 Calls Tryz.prog 56 #[.string a0] w λ e w'=>∃b1 b2:Value,e= .returned (.tuple #[.agg #[.bool r1,b1,.bool r3,b2],.bool r5])∧Kd.V (Kd.int .u32) 328 w' w.heap.size (λ k_=>(w.heap.size≤k_)) b1 r2∧Kd.V (Kd.int .u32) 328 w' w.heap.size (λ k_=>(w.heap.size≤k_)) b2 r4∧Below w.heap.size w w':=by
 have hu66:=Tryz.underlying66;have hu64:=Tryz.underlying64;have HB:=ah.mk (Below.refl w.heap.size w);unfold bM.f at H;revert H;refine bi λ aR A2 H=>?_;obtain⟨ar,aS,bp⟩:=aR;dsimp only at H;revert H;refine bi λ aR A3 H=>?_;obtain⟨ae,Z,b5⟩:=aR;dsimp only at H;obtain rfl|rfl:=tb b5
 .replace H:=it H
  obtain rfl|rfl:=tb bp
  .replace H:=it H
   revert H;refine bi λ aR A6 H=>?_;obtain⟨ag,af,br⟩:=aR;dsimp only at H;have bs:=ah.mk H;clear H;go_enter Tryz.func56,Tryz.ntmps56
   go_upto_region 8 with(first|((with_reducible refine gd 2 rfl ?_);refine bx #[.bool false,.slice none 0 0,.bool false,.slice none 0 0] 66 ?_;intro O hg w8 s hb;have bc:=kz hg;have bd:=kz hg;replace HB:=kh hb;clear hb hg)|((with_reducible refine gc 125 rfl ?_);refine gl (some 13) Tryz.func125 (args:= #[.string a0,.string (⟨#[47]⟩:ByteArray)]) (strings_Cut.calls a0 (⟨#[47]⟩:ByteArray) ar aS true _ A2.out) ?_;rintro e w8 ⟨rfl,hb⟩;replace hb:=hb.below;refine⟨_,rfl,?_⟩;replace s:=kb s hb;replace HB:=kh hb;clear hb)|((with_reducible refine gc 126 rfl ?_);refine gl (some 19) Tryz.func126 (args:= #[.string ar]) (iC.calls ar ae Z true _ A3.out) ?_;rintro e w9 ⟨bt,rfl,ho0,hb⟩;refine⟨_,rfl,?_⟩;have I:=kL (λ k_=>(w.heap.size≤k_)∧k_≠O) ho0;replace s:=kb s hb;replace HB:=kh hb;clear hb ho0)|((with_reducible refine gd 7 rfl ?_);refine bx #[.bool false,.slice none 0 0] 64 ?_;intro al hg w10 z hb;replace I:=kW I hg hb;have be:=kz hg;have bh:=kz hg;replace HB:=kh hb;have J:=kl s hg;have L:=kr s hg;replace s:=kb s hb;clear hb hg;have hnb11:=L.out;have hnc11:=J.out;have bm:=z2 z;obtain⟨ap,aq,b6⟩:=Kd.aY I.out;subst b6)|((with_reducible refine gc 126 rfl ?_);refine gl (some 35) Tryz.func126 (args:= #[.string aS]) (iC.calls aS ag af br _ A6.out) ?_;rintro e w14 ⟨v307,rfl,ho0,hb⟩;refine⟨_,rfl,?_⟩;replace I:=kV I hb;have X:=kL (λ k_=>(w.heap.size≤k_)∧k_≠O∧k_≠al) ho0;replace s:=kB s hb;replace z:=kB z hb;replace HB:=kh hb;clear hb ho0)|((with_reducible refine gd 9 rfl ?_);refine bx #[.bool false,.slice none 0 0] 64 ?_;intro am hg b3 F hb;replace I:=kW I hg hb;replace X:=kW X hg hb;have GW310:=kz hg;have GE310:=kz hg;replace HB:=kh hb;have T:=kl s hg;have U:=kr s hg;replace s:=kb s hb;have av:=kl z hg;have aw:=kr z hg;replace z:=kb z hb;clear hb hg;have hnb16:=U.out;have hnc16:=T.out;have hnb17:=aw.out;have hnc17:=av.out;have bo:=z2 F;obtain⟨an,ao,b7⟩:=Kd.aY X.out;subst b7))
   (try simp only[Act.put,List.setIfInBounds_toArray,List.set_cons_zero,List.set_cons_succ])
   go_cut [45] (λ v45 wc=>∃(kq:Nat)(aO:Bool),v45= .bool aO∧ah (bM.j0 kq aO ae Z ag af=some (r1,r2,r3,r4,r5))∧ah (kq≤k)∧ah (Kd.V (Kd.int .u32) 328 wc w.heap.size (λ k_=>(w.heap.size≤k_)∧k_≠O∧k_≠al∧k_≠am) (.slice ap Z.length aq) Z)∧ah (Kd.V (Kd.int .u32) 328 wc w.heap.size (λ k_=>(w.heap.size≤k_)∧k_≠O∧k_≠al∧k_≠am) (.slice an af.length ao) af)∧ah (wc.heap[O]? =some (.cells #[.bool false,(.slice none 0 0),.bool false,(.slice none 0 0)] 66 (0,0)))∧ah (wc.heap[al]? =some (.cells #[.bool ae,(.slice ap Z.length aq)] 64 (0,0)))∧ah (wc.heap[am]? =some (.cells #[.bool ag,(.slice an af.length ao)] 64 (0,0)))∧ah (Below w.heap.size w wc))
   case first=>
    have H:=bs.out;clear bs;obtain rfl|rfl:=tb br
    .replace H:=it H
     revert H;refine bi λ aR cj H=>?_;obtain⟨a6,a7⟩:=aR;dsimp only at H;revert H;refine bi λ bu ck H=>?_;have H':=ah.mk H;clear H;try go_wp2
     generalize hw:((b3.setCell ⟨am,0,none⟩ (.bool ag)).setCell ⟨am,1,none⟩ (.slice an af.length ao))=cl;replace hw:=hw.symm;replace I:=ks I hw;replace X:=ks X hw;replace s:=kq s hw;replace z:=kq z hw;replace F:=kq F hw;replace HB:=kt hw;clear hw;replace I:=ah.mk (Kd.d_ I.out);replace X:=ah.mk (Kd.d_ X.out);replace s:=kx s;replace z:=kx z;replace F:=kx F;replace HB:=ky HB;refine mR (n:=8) (S:=λ w'=>w'.cell? ⟨am,0,none⟩=some (.bool ag)∧w'.cell? ⟨am,1,none⟩=some (.slice an af.length ao)) (ds:=[]) #[false,false,false,false,false,false,false,false] (by kernel_rfl) rfl rfl hs λ hHeld=>?_;refine lI bM.Xr bM.TS (λ wY Dy=>?_);generalize cl.drew=w24 at I X s z F HB hHeld|-
     refine pu 0 (some 38) ?_;refine pu 1 (some 39) ?_;refine pu 2 (some 40) ?_;refine tk 3 (some 41) ?_;refine on 4 (some 42) λ K hK=>?_;refine gs Tryz.func127 #[.int .i64 1] (fM.calls k 1 a6 a7 _ cj.out) ?_;rintro e w25 ⟨v313,rfl,ho0,hb⟩;refine⟨_,rfl,?_⟩;replace I:=kU I ho0 hb;replace X:=kU X ho0 hb;have aD:=kN ho0;replace s:=kb s hb;replace z:=kb z hb;replace F:=kb F hb;replace HB:=kh hb;clear hb ho0;obtain⟨b8,b9,bv⟩:=Kd.dR aD.out
     (first|subst bv|(injection bv with aF a3 aL;have a4:=aF.symm;have a5:=aL.symm;clear aF a3 aL;subst a4;subst a5))
     refine hK.out _ _ hs λ hHeld=>?_;clear hK K;refine nm ?_;refine on 5 (some 43) λ K hK=>?_;refine gs Tryz.func129 #[.agg #[.bool ag,.slice an af.length ao],.agg #[.bool a6,.slice b8 a7.length b9]] (jI.calls k ag _ _ af a6 _ _ a7 bu _ (sc ((Kd.aH X.out).2.2)) ((Kd.aH X.out).2.1) (sc ((Kd.d9 aD.out).2.2)) ((Kd.d9 aD.out).2.1) ck.out) ?_;rintro e w27 ⟨rfl,hb⟩;refine⟨_,rfl,?_⟩;replace I:=kV I hb;replace X:=kV X hb;replace aD:=kR aD hb;replace s:=kb s hb;replace z:=kb z hb;replace F:=kb F hb;replace HB:=kh hb;clear hb;refine hK.out _ _ hs λ hHeld=>?_;clear hK K;refine nm ?_;refine pu 6 (some 44) ?_;refine pu 7 (some 45) ?_;refine dn ?_;try go_wp2
     go_meet
     case rel=>exact⟨_,(decide (bu≤0)),rS,H',⟨by first|omega|exact Nat.le_refl _⟩,⟨kv I⟩,⟨kv X⟩,⟨kd s⟩,⟨kd z⟩,⟨kd F⟩,⟨hB⟩⟩
    .replace H:=jf H
     have H':=ah.mk H;clear H;try go_wp2
     generalize hw:((b3.setCell ⟨am,0,none⟩ (.bool ag)).setCell ⟨am,1,none⟩ (.slice an af.length ao))=cm;replace hw:=hw.symm;replace I:=ks I hw;replace X:=ks X hw;replace s:=kq s hw;replace z:=kq z hw;replace F:=kq F hw;replace HB:=kt hw;clear hw;replace I:=ah.mk (Kd.d_ I.out);replace X:=ah.mk (Kd.d_ X.out);replace s:=kx s;replace z:=kx z;replace F:=kx F;replace HB:=ky HB;refine mR (n:=8) (S:=λ w'=>True) (ds:=[]) #[false,false,false,false,false,false,false,false] (by kernel_rfl) rfl rfl trivial (λ hHeld=>?_);refine lI bM.Xr bM.TS (λ wY Dy=>?_);generalize cm.drew=w29 at I X s z F HB hHeld|-
     refine pu 0 (some 38) ?_;refine pu 1 (some 39) ?_;refine pu 2 (some 40) ?_;refine pn 3 (some 41) ?_;refine pn 4 (some 42) ?_;refine pn 5 (some 43) ?_;refine pn 6 (some 44) ?_;refine pu 7 (some 45) ?_;refine dn ?_;try go_wp2
     go_meet
     case rel=>exact⟨_,(true),rS,H',⟨by first|omega|exact Nat.le_refl _⟩,⟨kd I⟩,⟨kd X⟩,⟨kd s⟩,⟨kd z⟩,⟨kd F⟩,⟨hB⟩⟩
   case rest=>
    clear bs;clear bm bo;obtain⟨kq,aO,rfl,HA,HJ6,D,E,s,z,F,HB⟩:=hcut;cases kq with
    |zero=>exact absurd HA.out (by simp[bM.j0])
    |succ co=>
     have H:=HA.out;clear HA;simp only[bM.j0]at H;obtain rfl|rfl:=tb aO
     .replace H:=it H
      simp only[Option.some.injEq,Prod.mk.injEq]at H;obtain⟨rfl,rfl,rfl,rfl,rfl⟩:=H;have hnb31:=J.out;have hnc31:=L.out;have hnb32:=T.out;have hnc32:=U.out;have hcz33_0:=z4 s;go_wp2;refine bodyPost_ret (fu rfl _ _ O 66 #[.bool false,.slice none 0 0,.bool false,.slice none 0 0] (0,0) _ rfl (kp s) Tryz.underlying66 rfl (by kernel_rfl)) rfl ?_;exact⟨_,_,rW,Kd.lu _ _ _ _ _,Kd.lu _ _ _ _ _,hB⟩
     .replace H:=jf H
      revert H;refine bi λ ca b4 H=>?_;obtain rfl|rfl:=tb ca
      .replace H:=it H
       revert H;refine bi λ aR cp H=>?_;obtain⟨a8,a9⟩:=aR;dsimp only at H;revert H;refine bi λ cb cr H=>?_;simp only[Option.some.injEq,Prod.mk.injEq]at H;obtain⟨rfl,rfl,rfl,rfl,rfl⟩:=H;have hnb38:=L.out;have hnc38:=J.out;have hnb39:=av.out;have hnc39:=aw.out;have hcz40_0:=z2 z;have hnb41:=U.out;have hnc41:=T.out;have hcz42_0:=z2 F;try go_wp2_with (first|((with_reducible refine gd 10 rfl ?_);refine bx #[.bool false,.slice none 0 0,.bool false,.slice none 0 0] 66 ?_;intro ac hg ct Y hb;replace D:=kW D hg hb;replace E:=kW E hg hb;have bS:=kz hg;have b0:=kz hg;replace HB:=kh hb;have aa:=kl s hg;have ab:=kr s hg;replace s:=kb s hb;have ax:=kl z hg;have ay:=kr z hg;replace z:=kb z hb;have az:=kl F hg;have aB:=kr F hg;replace F:=kb F hb;clear hb hg;have hnb44:=ab.out;have hnc44:=aa.out;have hnb45:=ay.out;have hnc45:=ax.out;have hnb46:=aB.out;have hnc46:=az.out;have hcz47_0:=z4 Y))
       generalize hw:((((ct.setCell ⟨ac,0,none⟩ (.bool ae)).setCell ⟨ac,1,none⟩ (.slice ap Z.length aq)).setCell ⟨ac,2,none⟩ (.bool ag)).setCell ⟨ac,3,none⟩ (.slice an af.length ao))=cv;replace hw:=hw.symm;replace D:=ks D hw;replace E:=ks E hw;replace s:=kq s hw;replace z:=kq z hw;replace F:=kq F hw;replace Y:=kq Y hw;replace HB:=kt hw;clear hw;replace D:=ah.mk (Kd.d_ D.out);replace E:=ah.mk (Kd.d_ E.out);replace s:=kx s;replace z:=kx z;replace F:=kx F;replace Y:=kx Y;replace HB:=ky HB;refine mR (n:=11) (S:=λ w'=>w'.cell? ⟨ac,0,none⟩=some (.bool ae)∧w'.cell? ⟨ac,1,none⟩=some (.slice ap Z.length aq)∧w'.cell? ⟨ac,2,none⟩=some (.bool ag)∧w'.cell? ⟨ac,3,none⟩=some (.slice an af.length ao)∧w'.cell? ⟨al,0,none⟩=some (.bool ae)∧w'.cell? ⟨al,1,none⟩=some (.slice ap Z.length aq)∧w'.cell? ⟨am,0,none⟩=some (.bool ag)∧w'.cell? ⟨am,1,none⟩=some (.slice an af.length ao)) (ds:=[]) #[false,false,false,false,false,false,false,false,false,false,false] (by kernel_rfl) rfl rfl hs λ hHeld=>?_;refine lI bM.TT bM.QD (λ wY Dy=>?_);generalize cv.drew=w49 at D E s z F Y HB hHeld|-
       refine tk 0 (some 50) ?_;refine tk 1 (some 51) ?_;refine on 2 (some 52) λ K hK=>?_;refine gs Tryz.func130 #[.agg #[.bool ae,.slice ap Z.length aq,.bool ag,.slice an af.length ao]] (iZ.calls ae _ _ Z ag _ _ af true _ (sc ((Kd.aH D.out).2.2)) ((Kd.aH D.out).2.1) (sc ((Kd.aH E.out).2.2)) ((Kd.aH E.out).2.1) b4.out) ?_;rintro e w50 ⟨rfl,hb⟩;refine⟨_,rfl,?_⟩;replace D:=kV D hb;replace E:=kV E hb;replace s:=kb s hb;replace z:=kb z hb;replace F:=kb F hb;replace Y:=kb Y hb;replace HB:=kh hb;clear hb;refine hK.out _ _ hs λ hHeld=>?_;clear hK K;refine nm ?_;refine pu 3 (some 53) ?_;refine tk 4 (some 54) ?_;refine tk 5 (some 55) ?_;refine on 6 (some 56) λ K hK=>?_;refine gs Tryz.func131 #[.agg #[.bool ae,.slice ap Z.length aq],.agg #[.bool ag,.slice an af.length ao]] (gL.calls co ae (λ k_=>((w.heap.size≤k_)∧(k_≠O∧(k_≠al∧(k_≠am∧k_≠ac))))) _ _ Z ag (λ k_=>((w.heap.size≤k_)∧(k_≠O∧(k_≠al∧(k_≠am∧k_≠ac))))) _ _ af a8 a9 _ (kd D) (kd E) cp.out) ?_;rintro e w51 ⟨v320,rfl,ho0,hb⟩;refine⟨_,rfl,?_⟩;replace D:=kV D hb;replace E:=kV E hb;have aE:=kL (λ k_=>(w.heap.size≤k_)∧k_≠O∧k_≠al∧k_≠am∧k_≠ac) ho0;replace s:=kb s hb;replace z:=kb z hb;replace F:=kb F hb;replace Y:=kb Y hb;replace HB:=kh hb;clear hb ho0;obtain⟨cc,cd,bw⟩:=Kd.aY aE.out
       (first|subst bw|(injection bw with aF a3 aL;have a4:=aF.symm;have a5:=aL.symm;clear aF a3 aL;subst a4;subst a5))
       refine hK.out _ _ hs λ hHeld=>?_;clear hK K;refine nm ?_;refine on 7 (some 57) λ K hK=>?_;refine gs Tryz.func132 #[.agg #[.bool a8,.slice cc a9.length cd]] (gX.calls a8 _ _ a9 cb _ (sc ((Kd.aH aE.out).2.2)) ((Kd.aH aE.out).2.1) cr.out) ?_;rintro e bj ⟨rfl,hb⟩;refine⟨_,rfl,?_⟩;replace D:=kV D hb;replace E:=kV E hb;replace aE:=kV aE hb;replace s:=kb s hb;replace z:=kb z hb;replace F:=kb F hb;replace Y:=kb Y hb;replace HB:=kh hb;clear hb;refine hK.out _ _ hs λ hHeld=>?_;clear hK K;refine nm ?_;refine pu 8 (some 58) ?_;refine on 9 none λ K hK=>?_;have hs54:bj.cell? ⟨O,0,none⟩=some (.bool false):=(aj s.out 0).trans rfl;have hfs54:=aI s.out 0;have hns54_1:=L.out;have hns54_2:=U.out;have hns54_3:=ab.out;have hms54_1:=J.out;have hms54_2:=T.out;have hms54_3:=aa.out;have hs55:bj.cell? ⟨O,1,none⟩=some (.slice none 0 0):=(aj s.out 1).trans rfl;have hfs55:=aI s.out 1;have hns55_1:=L.out;have hns55_2:=U.out;have hns55_3:=ab.out;have hms55_1:=J.out;have hms55_2:=T.out;have hms55_3:=aa.out;have hs56:bj.cell? ⟨O,2,none⟩=some (.bool false):=(aj s.out 2).trans rfl;have hfs56:=aI s.out 2;have hns56_1:=L.out;have hns56_2:=U.out;have hns56_3:=ab.out;have hms56_1:=J.out;have hms56_2:=T.out;have hms56_3:=aa.out;have hs57:bj.cell? ⟨O,3,none⟩=some (.slice none 0 0):=(aj s.out 3).trans rfl;have hfs57:=aI s.out 3;have hns57_1:=L.out;have hns57_2:=U.out;have hns57_3:=ab.out;have hms57_1:=J.out;have hms57_2:=T.out;have hms57_3:=aa.out;refine sk ?_;refine hK.out _ _ hs λ hHeld=>?_;clear hK K;refine pu 10 (some 3) ?_;refine dn ?_;try go_wp2
       refine bodyPost_ret (fu rfl _ _ O 66 #[.bool ae,.slice ap Z.length aq,.bool ag,.slice an af.length ao] (0,0) _ rfl (kp s) Tryz.underlying66 rfl (by kernel_rfl)) rfl ?_;exact⟨_,_,rW,kv D,kv E,hB⟩
      .replace H:=jf H
       simp only[Option.some.injEq,Prod.mk.injEq]at H;obtain⟨rfl,rfl,rfl,rfl,rfl⟩:=H;have hnb58:=L.out;have hnc58:=J.out;have hnb59:=av.out;have hnc59:=aw.out;have hcz60_0:=z2 z;have hnb61:=U.out;have hnc61:=T.out;have hcz62_0:=z2 F;try go_wp2_with (first|((with_reducible refine gd 10 rfl ?_);refine bx #[.bool false,.slice none 0 0,.bool false,.slice none 0 0] 66 ?_;intro ac hg cw Y hb;replace D:=kW D hg hb;replace E:=kW E hg hb;have bS:=kz hg;have b0:=kz hg;replace HB:=kh hb;have aa:=kl s hg;have ab:=kr s hg;replace s:=kb s hb;have ax:=kl z hg;have ay:=kr z hg;replace z:=kb z hb;have az:=kl F hg;have aB:=kr F hg;replace F:=kb F hb;clear hb hg;have hnb64:=ab.out;have hnc64:=aa.out;have hnb65:=ay.out;have hnc65:=ax.out;have hnb66:=aB.out;have hnc66:=az.out;have hcz67_0:=z4 Y))
       generalize hw:((((cw.setCell ⟨ac,0,none⟩ (.bool ae)).setCell ⟨ac,1,none⟩ (.slice ap Z.length aq)).setCell ⟨ac,2,none⟩ (.bool ag)).setCell ⟨ac,3,none⟩ (.slice an af.length ao))=cx;replace hw:=hw.symm;replace D:=ks D hw;replace E:=ks E hw;replace s:=kq s hw;replace z:=kq z hw;replace F:=kq F hw;replace Y:=kq Y hw;replace HB:=kt hw;clear hw;replace D:=ah.mk (Kd.d_ D.out);replace E:=ah.mk (Kd.d_ E.out);replace s:=kx s;replace z:=kx z;replace F:=kx F;replace Y:=kx Y;replace HB:=ky HB;refine mR (n:=11) (S:=λ w'=>w'.cell? ⟨ac,0,none⟩=some (.bool ae)∧w'.cell? ⟨ac,1,none⟩=some (.slice ap Z.length aq)∧w'.cell? ⟨ac,2,none⟩=some (.bool ag)∧w'.cell? ⟨ac,3,none⟩=some (.slice an af.length ao)) (ds:=[]) #[false,false,false,false,false,false,false,false,false,false,false] (by kernel_rfl) rfl rfl hs λ hHeld=>?_;refine lI bM.TT bM.QD (λ wY Dy=>?_);generalize cx.drew=w69 at D E s z F Y HB hHeld|-
       refine tk 0 (some 50) ?_;refine tk 1 (some 51) ?_;refine on 2 (some 52) λ K hK=>?_;refine gs Tryz.func130 #[.agg #[.bool ae,.slice ap Z.length aq,.bool ag,.slice an af.length ao]] (iZ.calls ae _ _ Z ag _ _ af false _ (sc ((Kd.aH D.out).2.2)) ((Kd.aH D.out).2.1) (sc ((Kd.aH E.out).2.2)) ((Kd.aH E.out).2.1) b4.out) ?_;rintro e bk ⟨rfl,hb⟩;refine⟨_,rfl,?_⟩;replace D:=kV D hb;replace E:=kV E hb;replace s:=kb s hb;replace z:=kb z hb;replace F:=kb F hb;replace Y:=kb Y hb;replace HB:=kh hb;clear hb;refine hK.out _ _ hs λ hHeld=>?_;clear hK K;refine nm ?_;refine pu 3 (some 53) ?_;refine pn 4 (some 54) ?_;refine pn 5 (some 55) ?_;refine pn 6 (some 56) ?_;refine pn 7 (some 57) ?_;refine pu 8 (some 58) ?_;refine on 9 none λ K hK=>?_;have hs71:bk.cell? ⟨O,0,none⟩=some (.bool false):=(aj s.out 0).trans rfl;have hfs71:=aI s.out 0;have hns71_1:=L.out;have hns71_2:=U.out;have hns71_3:=ab.out;have hms71_1:=J.out;have hms71_2:=T.out;have hms71_3:=aa.out;have hs72:bk.cell? ⟨O,1,none⟩=some (.slice none 0 0):=(aj s.out 1).trans rfl;have hfs72:=aI s.out 1;have hns72_1:=L.out;have hns72_2:=U.out;have hns72_3:=ab.out;have hms72_1:=J.out;have hms72_2:=T.out;have hms72_3:=aa.out;have hs73:bk.cell? ⟨O,2,none⟩=some (.bool false):=(aj s.out 2).trans rfl;have hfs73:=aI s.out 2;have hns73_1:=L.out;have hns73_2:=U.out;have hns73_3:=ab.out;have hms73_1:=J.out;have hms73_2:=T.out;have hms73_3:=aa.out;have hs74:bk.cell? ⟨O,3,none⟩=some (.slice none 0 0):=(aj s.out 3).trans rfl;have hfs74:=aI s.out 3;have hns74_1:=L.out;have hns74_2:=U.out;have hns74_3:=ab.out;have hms74_1:=J.out;have hms74_2:=T.out;have hms74_3:=aa.out;refine sk ?_;refine hK.out _ _ hs λ hHeld=>?_;clear hK K;refine pu 10 (some 3) ?_;refine dn ?_;try go_wp2
       refine bodyPost_ret (fu rfl _ _ O 66 #[.bool ae,.slice ap Z.length aq,.bool ag,.slice an af.length ao] (0,0) _ rfl (kp s) Tryz.underlying66 rfl (by kernel_rfl)) rfl ?_;exact⟨_,_,rW,kv D,kv E,hB⟩
  .replace H:=jf H
   revert H;refine bi λ aR cy H=>?_;obtain⟨ba,bb⟩:=aR;dsimp only at H;revert H;refine bi λ ce cz H=>?_;simp only[Option.some.injEq,Prod.mk.injEq]at H;obtain⟨rfl,rfl,rfl,rfl,rfl⟩:=H;go_enter Tryz.func56,Tryz.ntmps56;try go_wp2_with (first|((with_reducible refine gd 2 rfl ?_);refine bx #[.bool false,.slice none 0 0,.bool false,.slice none 0 0] 66 ?_;intro O hg cA s hb;have bc:=kz hg;have bd:=kz hg;replace HB:=kh hb;clear hb hg)|((with_reducible refine gc 125 rfl ?_);refine gl (some 13) Tryz.func125 (args:= #[.string a0,.string (⟨#[47]⟩:ByteArray)]) (strings_Cut.calls a0 (⟨#[47]⟩:ByteArray) ar aS false _ A2.out) ?_;rintro e cA ⟨rfl,hb⟩;replace hb:=hb.below;refine⟨_,rfl,?_⟩;replace s:=kb s hb;replace HB:=kh hb;clear hb)|((with_reducible refine gc 126 rfl ?_);refine gl (some 19) Tryz.func126 (args:= #[.string ar]) (iC.calls ar ae Z true _ A3.out) ?_;rintro e w78 ⟨bt,rfl,ho0,hb⟩;refine⟨_,rfl,?_⟩;have I:=kL (λ k_=>(w.heap.size≤k_)∧k_≠O) ho0;replace s:=kb s hb;replace HB:=kh hb;clear hb ho0)|((with_reducible refine gd 7 rfl ?_);refine bx #[.bool false,.slice none 0 0] 64 ?_;intro al hg cB z hb;replace I:=kW I hg hb;have be:=kz hg;have bh:=kz hg;replace HB:=kh hb;have J:=kl s hg;have L:=kr s hg;replace s:=kb s hb;clear hb hg;have hnb80:=L.out;have hnc80:=J.out;have hcz81_0:=z2 z;obtain⟨a1,a2,cg⟩:=Kd.aY I.out;subst cg))
   generalize hw:((cB.setCell ⟨al,0,none⟩ (.bool ae)).setCell ⟨al,1,none⟩ (.slice a1 Z.length a2))=cC;replace hw:=hw.symm;replace I:=ks I hw;replace s:=kq s hw;replace z:=kq z hw;replace HB:=kt hw;clear hw;replace I:=ah.mk (Kd.d_ I.out);replace s:=kx s;replace z:=kx z;replace HB:=ky HB;refine mR (n:=8) (S:=λ w'=>w'.cell? ⟨al,0,none⟩=some (.bool ae)∧w'.cell? ⟨al,1,none⟩=some (.slice a1 Z.length a2)) (ds:=[]) #[false,false,false,false,false,false,false,false] (by kernel_rfl) rfl rfl hs λ hHeld=>?_;refine lI bM.Zg bM.Yr (λ wY Dy=>?_);generalize cC.drew=w84 at I s z HB hHeld|-
   refine tk 0 (some 27) ?_;refine tk 3 (some 30) ?_;refine on 1 (some 28) λ K hK=>?_;refine gs Tryz.func127 #[.int .i64 1] (fM.calls k 1 ba bb _ cy.out) ?_;rintro e w85 ⟨v302,rfl,ho0,hb⟩;refine⟨_,rfl,?_⟩;replace I:=kU I ho0 hb;have aP:=kN ho0;replace s:=kb s hb;replace z:=kb z hb;replace HB:=kh hb;clear hb ho0;obtain⟨bz,bE,bI⟩:=Kd.dR aP.out
   (first|subst bI|(injection bI with aF a3 aL;have a4:=aF.symm;have a5:=aL.symm;clear aF a3 aL;subst a4;subst a5))
   refine hK.out _ _ hs λ hHeld=>?_;clear hK K;refine nm ?_;refine pu 2 (some 29) ?_;refine on 4 (some 31) λ K hK=>?_;refine gs Tryz.func128 #[.agg #[.bool ae,.slice a1 Z.length a2]] (eu.calls ae _ _ Z ce _ (sc ((Kd.aH I.out).2.2)) ((Kd.aH I.out).2.1) cz.out) ?_;rintro e bl ⟨rfl,hb⟩;refine⟨_,rfl,?_⟩;replace I:=kV I hb;replace aP:=kR aP hb;replace s:=kb s hb;replace z:=kb z hb;replace HB:=kh hb;clear hb;refine hK.out _ _ hs λ hHeld=>?_;clear hK K;refine nm ?_;refine pu 5 (some 32) ?_;refine on 6 none λ K hK=>?_;have hs88:bl.cell? ⟨O,0,none⟩=some (.bool false):=(aj s.out 0).trans rfl;have hfs88:=aI s.out 0;have hns88_1:=L.out;have hms88_1:=J.out;have hs89:bl.cell? ⟨O,1,none⟩=some (.slice none 0 0):=(aj s.out 1).trans rfl;have hfs89:=aI s.out 1;have hns89_1:=L.out;have hms89_1:=J.out;have hs90:bl.cell? ⟨O,2,none⟩=some (.bool false):=(aj s.out 2).trans rfl;have hfs90:=aI s.out 2;have hns90_1:=L.out;have hms90_1:=J.out;have hs91:bl.cell? ⟨O,3,none⟩=some (.slice none 0 0):=(aj s.out 3).trans rfl;have hfs91:=aI s.out 3;have hns91_1:=L.out;have hms91_1:=J.out;refine sk ?_;refine hK.out _ _ hs λ hHeld=>?_;clear hK K;refine pu 7 (some 3) ?_;refine dn ?_;try go_wp2
   refine bodyPost_ret (fu rfl _ _ O 66 #[.bool ae,.slice a1 Z.length a2,.bool ba,.slice bz bb.length bE] (0,0) _ rfl (kp s) Tryz.underlying66 rfl (by kernel_rfl)) rfl ?_;exact⟨_,_,rW,kv I,Kd.kC (kD (Kd.gY (Kd.jF (p:=⟨O,3,none⟩) (Kd.jF (p:=⟨O,2,none⟩) (Kd.jF (p:=⟨O,1,none⟩) (Kd.jF (p:=⟨O,0,none⟩) (Kd.dh aP.out s.out (by decide)) (λ _ hk=>hk.2) (.bool ae)) (λ _ hk=>hk.2) (.slice a1 Z.length a2)) (λ _ hk=>hk.2) (.bool ba)) (λ _ hk=>hk.2) (.slice bz bb.length bE)) (λ _ hk=>hk.1.1))),hB⟩
 .replace H:=jf H
  simp only[Option.some.injEq,Prod.mk.injEq]at H;obtain⟨rfl,rfl,rfl,rfl,rfl⟩:=H;go_enter Tryz.func56,Tryz.ntmps56
  go_wp2_with (first|((with_reducible refine gd 2 rfl ?_);refine bx #[.bool false,.slice none 0 0,.bool false,.slice none 0 0] 66 ?_;intro O hg cD s hb;have bc:=kz hg;have bd:=kz hg;replace HB:=kh hb;clear hb hg)|((with_reducible refine gc 125 rfl ?_);refine gl (some 13) Tryz.func125 (args:= #[.string a0,.string (⟨#[47]⟩:ByteArray)]) (strings_Cut.calls a0 (⟨#[47]⟩:ByteArray) ar aS bp _ A2.out) ?_;rintro e cD ⟨rfl,hb⟩;replace hb:=hb.below;refine⟨_,rfl,?_⟩;replace s:=kb s hb;replace HB:=kh hb;clear hb)|((with_reducible refine gc 126 rfl ?_);refine gl (some 19) Tryz.func126 (args:= #[.string ar]) (iC.calls ar ae Z false _ A3.out) ?_;rintro e w93 ⟨bt,rfl,ho0,hb⟩;refine⟨_,rfl,?_⟩;have I:=kL (λ k_=>(w.heap.size≤k_)∧k_≠O) ho0;replace s:=kb s hb;replace HB:=kh hb;clear hb ho0)|((with_reducible refine gd 7 rfl ?_);refine bx #[.bool false,.slice none 0 0] 64 ?_;intro al hg w94 z hb;replace I:=kW I hg hb;have be:=kz hg;have bh:=kz hg;replace HB:=kh hb;have J:=kl s hg;have L:=kr s hg;replace s:=kb s hb;clear hb hg;have hnb95:=L.out;have hnc95:=J.out;have hcz96_0:=z2 z;obtain⟨Ao97,co97,ch⟩:=Kd.aY I.out;subst ch;have hcz98_0:=z4 s))
  refine bodyPost_ret (fu rfl _ _ O 66 #[.bool false,.slice none 0 0,.bool false,.slice none 0 0] (0,0) _ rfl (kp s) Tryz.underlying66 rfl (by kernel_rfl)) rfl ?_;exact⟨_,_,rW,Kd.lu _ _ _ _ _,Kd.lu _ _ _ _ _,hB⟩
def iT.j0:Nat->ByteArray->Bool->Option (Bool×List Int×Bool×List Int×Bool×Bool×Bool)
 |0,_,_=>none
 |k+1,x0,E=>if E=true then((rE.f (x0.toList==([116,114,117,101]:List UInt8))).bind λ s=>(some (s.1,s.2.1,s.2.2.1,s.2.2.2.1,s.2.2.2.2.1,s.2.2.2.2.2,true)))else((bM.f k x0).bind λ D=>((oL.f D.1 D.2.1 D.2.2.1 D.2.2.2.1).bind λ z=>(some (z.1,z.2.1,z.2.2.1,z.2.2.2.1,z.2.2.2.2.1,z.2.2.2.2.2,D.2.2.2.2))))
def iT.f(k:Nat)(a0:ByteArray):Option (Bool×List Int×Bool×List Int×Bool×Bool×Bool):=if a0.toList=([116,114,117,101]:List UInt8)then(iT.j0 k a0 true)else(iT.j0 k a0 (a0.toList==([102,97,108,115,101]:List UInt8)))
set_option maxHeartbeats 8000000 in
set_option maxRecDepth 100000 in
theorem iT.calls(k:Nat)(a0:ByteArray)(r1:Bool)(r2:List Int)(r3:Bool)(r4:List Int)(r5:Bool)(r6:Bool)(r7:Bool)(w:World)(H:iT.f k a0=some (r1,r2,r3,r4,r5,r6,r7)):
 Calls Tryz.prog 15 #[.string a0] w λ e w'=>∃aS a1:Value,e= .returned (.tuple #[.agg #[.bool r1,aS,.bool r3,a1,.bool r5,.bool r6],.bool r7])∧Kd.V (Kd.int .u32) 328 w' w.heap.size (λ k_=>(w.heap.size≤k_)) aS r2∧Kd.V (Kd.int .u32) 328 w' w.heap.size (λ k_=>(w.heap.size≤k_)) a1 r4∧Below w.heap.size w w':=by
 have hu68:=Tryz.underlying68;have hu66:=Tryz.underlying66;have HB:=ah.mk (Below.refl w.heap.size w);unfold iT.f at H;have ar:=ah.mk H;clear H;go_enter Tryz.func15,Tryz.ntmps15
 go_upto_region 1 with(first|((with_reducible refine gd 2 rfl ?_);refine bx #[.bool false,.slice none 0 0,.bool false,.slice none 0 0,.bool false,.bool false] 68 ?_;intro s hg w3 z hb;have GW325:=kz hg;have GE325:=kz hg;replace HB:=kh hb;clear hb hg))
 (try simp only[Act.put,List.setIfInBounds_toArray,List.set_cons_zero,List.set_cons_succ])
 go_cut [11] (λ v11 wc=>∃(kq:Nat)(J:Bool),v11= .bool J∧ah (iT.j0 kq a0 J=some (r1,r2,r3,r4,r5,r6,r7))∧ah (kq≤k)∧ah (wc.heap[s]? =some (.cells #[.bool false,(.slice none 0 0),.bool false,(.slice none 0 0),.bool false,.bool false] 68 (0,0)))∧ah (Below w.heap.size w wc))
 case first=>
  have H:=ar.out;clear ar;revert H;refine ci (λ c4 H=>?_) λ c4 H=>?_
  .have L:(a0.toList==([116,114,117,101]:List UInt8))=true:=beq_iff_eq.mpr c4
   have a2:(a0.toList !=([116,114,117,101]:List UInt8))=false:=bne_eq_false_iff_eq.mpr c4;clear c4
   (first|rw[L]|(simp only[eY,iI];rw[L])|skip)
   have H':=ah.mk H;clear H;go_wp2;go_meet
   case rel=>exact⟨_,(true),rS,H',⟨by first|omega|exact Nat.le_refl _⟩,⟨kd z⟩,⟨hB⟩⟩
  .have L:(a0.toList==([116,114,117,101]:List UInt8))=false:=beq_eq_false_iff_ne.mpr c4
   have a2:(a0.toList !=([116,114,117,101]:List UInt8))=true:=bne_iff_ne.mpr c4
   (first|rw[L]|(simp only[eY,iI];rw[L])|skip)
   have H':=ah.mk H;clear H;go_wp2;go_meet
   case rel=>exact⟨_,((a0.toList==([102,97,108,115,101]:List UInt8))),rS,H',⟨by first|omega|exact Nat.le_refl _⟩,⟨kd z⟩,⟨hB⟩⟩
 case rest=>
  clear ar;obtain⟨kq,J,rfl,HA,HJ1,z,HB⟩:=hcut;cases kq with
  |zero=>exact absurd HA.out (by simp[iT.j0])
  |succ bd=>
   have H:=HA.out;clear HA;simp only[iT.j0]at H;obtain rfl|rfl:=tb J
   .replace H:=it H
    revert H;refine bi λ av A6 H=>?_;obtain⟨O,T,U,X,Y,Z⟩:=av;dsimp only at H;simp only[Option.some.injEq,Prod.mk.injEq]at H;obtain⟨rfl,rfl,rfl,rfl,rfl,rfl,rfl⟩:=H
    go_wp2_with (first|((with_reducible refine gc 55 rfl ?_);refine gl (some 14) Tryz.func55 (args:= #[.bool (a0.toList==([116,114,117,101]:List UInt8))]) (rE.calls (a0.toList==([116,114,117,101]:List UInt8)) O T U X Y Z _ A6.out) ?_;rintro e w7 ⟨v328,v332,rfl,ho0,ho1,hb⟩;refine⟨_,rfl,?_⟩;have an:=kN ho0;have ao:=kN ho1;replace z:=kb z hb;replace HB:=kh hb;clear hb ho0 ho1;have hcz8_0:=z6 z;obtain⟨aw,ax,be⟩:=Kd.dR an.out;subst be;obtain⟨al,am,a3⟩:=Kd.dR ao.out;subst a3))
    refine bodyPost_ret (fu rfl _ _ s 68 #[.bool O,.slice aw T.length ax,.bool U,.slice al X.length am,.bool Y,.bool Z] (0,0) _ rfl (kp z) Tryz.underlying68 rfl (by kernel_rfl)) rfl ?_;exact⟨_,_,rW,Kd.kC (kD (Kd.gY (Kd.jF (p:=⟨s,5,none⟩) (Kd.jF (p:=⟨s,4,none⟩) (Kd.jF (p:=⟨s,3,none⟩) (Kd.jF (p:=⟨s,2,none⟩) (Kd.jF (p:=⟨s,1,none⟩) (Kd.jF (p:=⟨s,0,none⟩) (Kd.dh an.out z.out (by decide)) (λ _ hk=>hk.2) (.bool O)) (λ _ hk=>hk.2) (.slice aw T.length ax)) (λ _ hk=>hk.2) (.bool U)) (λ _ hk=>hk.2) (.slice al X.length am)) (λ _ hk=>hk.2) (.bool Y)) (λ _ hk=>hk.2) (.bool Z)) (λ _ hk=>hk.1.1))),Kd.kC (kD (Kd.gY (Kd.jF (p:=⟨s,5,none⟩) (Kd.jF (p:=⟨s,4,none⟩) (Kd.jF (p:=⟨s,3,none⟩) (Kd.jF (p:=⟨s,2,none⟩) (Kd.jF (p:=⟨s,1,none⟩) (Kd.jF (p:=⟨s,0,none⟩) (Kd.dh ao.out z.out (by decide)) (λ _ hk=>hk.2) (.bool O)) (λ _ hk=>hk.2) (.slice aw T.length ax)) (λ _ hk=>hk.2) (.bool U)) (λ _ hk=>hk.2) (.slice al X.length am)) (λ _ hk=>hk.2) (.bool Y)) (λ _ hk=>hk.2) (.bool Z)) (λ _ hk=>hk.1.1))),hB⟩
   .replace H:=jf H
    revert H;refine bi λ av bh H=>?_;obtain⟨aa,ab,ac,ae,a4⟩:=av;dsimp only at H;revert H;refine bi λ av bj H=>?_;obtain⟨ay,az,aB,aD,aE,aF⟩:=av;dsimp only at H;simp only[Option.some.injEq,Prod.mk.injEq]at H;obtain⟨rfl,rfl,rfl,rfl,rfl,rfl,rfl⟩:=H
    go_wp2_with (first|((with_reducible refine gc 56 rfl ?_);refine gl (some 17) Tryz.func56 (args:= #[.string a0]) (bM.calls bd a0 aa ab ac ae a4 _ bh.out) ?_;rintro e w13 ⟨v338,v342,rfl,ho0,ho1,hb⟩;refine⟨_,rfl,?_⟩;have D:=kL (λ k_=>(w.heap.size≤k_)∧k_≠s) ho0;have E:=kL (λ k_=>(w.heap.size≤k_)∧k_≠s) ho1;replace z:=kb z hb;replace HB:=kh hb;clear hb ho0 ho1)|((with_reducible refine gd 4 rfl ?_);refine bx #[.bool false,.slice none 0 0,.bool false,.slice none 0 0] 66 ?_;intro F hg bk I hb;replace D:=kW D hg hb;replace E:=kW E hg hb;have GW345:=kz hg;have GE345:=kz hg;replace HB:=kh hb;have af:=kl z hg;have ag:=kr z hg;replace z:=kb z hb;clear hb hg;have hnb15:=ag.out;have hnc15:=af.out;have hcz16_0:=z4 I;obtain⟨aL,aO,a5⟩:=Kd.aY D.out;subst a5;obtain⟨aP,aR,a6⟩:=Kd.aY E.out;subst a6)|((with_reducible refine gt 66 4 rfl ?_);refine st ((((bk.setCell ⟨F,0,none⟩ (.bool aa)).setCell ⟨F,1,none⟩ (.slice aL ab.length aO)).setCell ⟨F,2,none⟩ (.bool ac)).setCell ⟨F,3,none⟩ (.slice aP ae.length aR)) ?_;intro w19 hw;replace D:=ks D hw;replace E:=ks E hw;replace z:=kq z hw;replace I:=kq I hw;replace HB:=kt hw;clear hw;have hcz20_0:=z4 I)|((with_reducible refine gc 57 rfl ?_);refine gl (some 21) Tryz.func57 (args:= #[.agg #[.bool aa,.slice aL ab.length aO,.bool ac,.slice aP ae.length aR]]) (oL.calls aa (λ k_=>((w.heap.size≤k_)∧(k_≠s∧k_≠F))) _ _ ab ac (λ k_=>((w.heap.size≤k_)∧(k_≠s∧k_≠F))) _ _ ae ay az aB aD aE aF _ (kd D) (kd E) bj.out) ?_;rintro e w21 ⟨v348,v352,rfl,ho0,ho1,hb⟩;refine⟨_,rfl,?_⟩;replace D:=kV D hb;replace E:=kV E hb;have ap:=kL (λ k_=>(w.heap.size≤k_)∧k_≠s∧k_≠F) ho0;have aq:=kL (λ k_=>(w.heap.size≤k_)∧k_≠s∧k_≠F) ho1;replace z:=kb z hb;replace I:=kb I hb;replace HB:=kh hb;clear hb ho0 ho1;have hcz22_0:=z6 z;obtain⟨a7,a8,a9⟩:=Kd.aY ap.out;subst a9;obtain⟨ba,bb,bc⟩:=Kd.aY aq.out;subst bc))
    refine bodyPost_ret (fu rfl _ _ s 68 #[.bool ay,.slice a7 az.length a8,.bool aB,.slice ba aD.length bb,.bool aE,.bool aF] (0,0) _ rfl (kp z) Tryz.underlying68 rfl (by kernel_rfl)) rfl ?_;exact⟨_,_,rW,kv ap,kv aq,hB⟩
end Go.Proofs.Ct.Q
namespace Go.Proofs.Ct.Q
open Go.RowKit Go.Proofs.aA.ak Go.Proofs.aA.aC Go.Proofs.aA.aG Go.Proofs.bO Go.Lib
theorem TP(n:Nat):tX (limbs B9 n)=n:=by unfold tX;rw[pI];rfl
theorem Qz(m n:Nat)(hn:0<n)(hm:(limbs B9 m).length<500000)(hln:(limbs B9 n).length<500000):
  jG.f false (limbs B9 m) false (limbs B9 n)=some (false,limbs B9 (m/n),false,limbs B9 (m% n)):=by
 unfold jG.f;rw[if_pos ⟨rfl,rfl,sI iq m,sI iq n,nC iq (by omega),hm,hln⟩,TP,TP]
theorem U2(b:Nat):∀(k m n:Nat),n≤m->m*n<2^b->(limbs B9 m).length<500000->b+2<k->
  gL.l0 k false (limbs B9 m) false (limbs B9 n)=some (false,limbs B9 (Nat.gcd m n)):=by
 induction b with
 |zero=>
  intro k m n hle hb hl hk;obtain⟨k,rfl⟩:∃m,k=m+1:=⟨k-1,by omega⟩;simp only[gL.l0];have hn:n=0:=by
   rcases Nat.eq_zero_or_pos n with h|h
   .exact h
   .have:=Nat.mul_pos (by omega:0<m) h
    rw[Nat.pow_zero]at hb;omega
  subst hn;unfold dZ.f;rw[bZ,Option.bind_some,if_pos (by simp),Nat.gcd_zero_right]
 |succ b ih=>
  intro k m n hle hb hl hk;obtain⟨k,rfl⟩:∃m,k=m+1:=⟨k-1,by omega⟩;simp only[gL.l0];unfold dZ.f;rcases Nat.eq_zero_or_pos n with h|h
  .subst h
   rw[bZ,Option.bind_some,if_pos (by simp),Nat.gcd_zero_right]
  .have hl2:=fU iq hle
   have hne:(limbs B9 n).length≠0:=by
    intro h0;have:=(gK iq).1 (List.eq_nil_of_length_eq_zero h0);omega
   rw[Option.bind_some,if_neg (by simpa using hne),Qz m n h hl (by omega),Option.bind_some];have h1:m% n<n:=Nat.mod_lt _ h;have h2:2*(m% n)≤m:=by
    have h3:=Nat.div_add_mod m n;have h4:1≤m/n:=Nat.div_pos hle h;have h5:n*1≤n*(m/n):=Nat.mul_le_mul_left _ h4;omega
   have h6:n*(m% n)<2^b:=by
    have h7:n*(2*(m% n))≤n*m:=Nat.mul_le_mul_left _ h2;rw[Nat.mul_comm n m]at h7;rw[Nat.pow_succ]at hb;have h8:n*(2*(m% n))=2*(n*(m% n)):=by rw[<-Nat.mul_assoc,Nat.mul_comm n 2,Nat.mul_assoc]
    omega
   rw[ih k n (m% n) (by omega) h6 (by omega) (by omega),Nat.gcd_comm m n,Nat.gcd_rec n m,Nat.gcd_comm]
theorem DT(m:Nat):m<2^(30*(limbs B9 m).length):=by
 have h:=nV iq m;rw[Nat.pow_mul];exact Nat.lt_of_lt_of_le h (Nat.pow_le_pow_left (by decide) _)
theorem WY(s t:Bool)(m n:Nat)(hm:(limbs B9 m).length<500000)(hn:(limbs B9 n).length<500000)(k:Nat)(hk:100000000<k):
  gL.f k s (limbs B9 m) t (limbs B9 n)=some (false,limbs B9 (Nat.gcd m n)):=by
 have key:∀(m n k:Nat),(limbs B9 m).length<500000->(limbs B9 n).length<500000->90000000<k->n≤m->gL.l0 k false (limbs B9 m) false (limbs B9 n)=some (false,limbs B9 (Nat.gcd m n)):=by
  intro m n k hm hn hk hle;refine U2 (30*(limbs B9 m).length+30*(limbs B9 n).length) k m n hle ?_ hm (by omega);rw[Nat.pow_add];exact Nat.mul_lt_mul'' (DT m) (DT n)
 unfold gL.f gF.f;rw[Option.bind_some,Option.bind_some];rcases Nat.lt_or_ge m n with h|h
 .obtain⟨k,rfl⟩:∃m,k=m+1:=⟨k-1,by omega⟩
  have hne:(limbs B9 n).length≠0:=by
   intro h0;have:=(gK iq).1 (List.eq_nil_of_length_eq_zero h0);omega
  simp only[gL.l0];unfold dZ.f;rw[Option.bind_some,if_neg (by simpa using hne),Qz m n (by omega) hm hn,Option.bind_some,Nat.mod_eq_of_lt h];have:=key n m k hn hm (by omega) (Nat.le_of_lt h);rw[this,Nat.gcd_comm]
 .exact key m n k hm hn (by omega) h
theorem FD{t:ByteArray}(hd:qY t)(lo:Nat):∀m,lo+m≤t.size->jR m (fG t lo m).toNat=(List.range m).map λ i=>bt t ((lo+i:Nat):Int)
 |0,_=>rfl
 |m+1,h=>by
  have h1:=nS hd lo m (by omega);have h2:=hd (lo+m) (by omega);have e0:fG t lo (m+1)=10*fG t lo m+(bt t ((lo+m:Nat):Int)-48):=rfl;have e1:(fG t lo (m+1)).toNat/10^1=(fG t lo m).toNat:=by rw[e0,Nat.pow_one];omega
  have e2:jR 1 (fG t lo (m+1)).toNat=[bt t ((lo+m:Nat):Int)]:=by
   rw[e0];simp only[jR];congr 1;rw[Nat.pow_zero,Nat.div_one];omega
  rw[sN,e1,e2,FD hd lo m (by omega),List.range_succ,List.map_append];rfl
theorem KE(t:ByteArray):strOfNums ((List.range t.size).map λ i=>bt t ((i:Nat):Int))=t:=by
 apply ByteArray.ext;apply Array.ext';unfold strOfNums;apply List.ext_getElem
 .simp
 .intro i h1 h2
  have hi:i<t.size:=by simpa using h2
  simp only[List.getElem_map,List.getElem_range,List.map_map,Function.comp];have hb:bt t (i:Int)=((t[i]'hi).toNat:Int):=by unfold bt;rw[dif_pos (by simpa using hi)];rfl
  rw[hb,Int.toNat_natCast,UInt8.ofNat_toNat];rfl
def Cb(t:ByteArray):Prop:=qY t∧0<t.size∧¬(1<t.size∧bt t 0=48)
theorem nI{t:ByteArray}(h:Cb t):nDigits (bX t)=t.size:=by
 obtain⟨hd,h0,hz⟩:=h;have hlt:=GR hd;by_cases h1:t.size=1
 .rw[h1]at hlt|-
  exact nDigits_small (by omega)
 .have hb:=hd 0 (by omega)
  have e0:(((0:Nat):Int))=0:=rfl;rw[e0]at hb;obtain⟨k,hk⟩:∃k,t.size=1+k:=⟨t.size-1,by omega⟩;have h2:=Ag t 0 1 k;have h3:=nS hd (0+1) k (by omega);have h4:fG t 0 1=bt t 0-48:=by unfold fG;unfold fG;simp
  have hp:(0:Int)<10^k:=Int.pow_pos (by decide);have h5:1*10^k≤fG t 0 1*10^k:=Int.mul_le_mul_of_nonneg_right (by rw[h4];have:bt t 0≠48:=λ e=>hz ⟨by omega,e⟩;omega) (Int.le_of_lt hp);have h6:(10:Int)^k≤fG t 0 t.size:=by rw[hk,h2];omega
  rw[<-Il hd]at h6;have h7:10^k≤bX t:=by exact_mod_cast h6
  rw[hk,Nat.add_comm]at hlt|-
  exact nDigits_unique k _ h7 hlt
theorem IG{t:ByteArray}(h:Cb t):dec (bX t)=t:=by
 rw[<-yF,nI h];unfold bX;rw[FD h.1 0 t.size (by omega)];have:(λ i:Nat=>bt t ((0+i:Nat):Int))=λ i:Nat=>bt t (i:Int):=by funext i;rw[Nat.zero_add]
 rw[this,KE]
theorem FE{t:ByteArray}(h:Cb t):bX t=0↔bt t 0=48:=by
 obtain⟨hd,h0,hz⟩:=h;have hb:=hd 0 (by omega);have e0:(((0:Nat):Int))=0:=rfl;rw[e0]at hb;constructor
 .intro he
  have h1:=nI ⟨hd,h0,hz⟩;rw[he,nDigits_small (by omega)]at h1;have h2:bX t=(fG t 0 1).toNat:=by unfold bX;rw[<-h1]
  have h4:fG t 0 1=bt t 0-48:=by unfold fG;unfold fG;simp
  rw[h2,h4]at he;omega
 .intro he
  have h1:t.size=1:=by
   rcases Nat.lt_or_ge 1 t.size with h|h
   .exact absurd ⟨h,he⟩ hz
   .omega
  have h4:fG t 0 1=bt t 0-48:=by unfold fG;unfold fG;simp
  unfold bX;rw[h1,h4,he];rfl
theorem KF(t:ByteArray)(m:Bool):gD t m=(decide (0<t.size)&& !((bt t 0==48)&&(decide (1<t.size)||m))&&wZ t):=by
 have h:(yA t).isEmpty=wZ t:=by
  apply Bool.eq_iff_iff.2;rw[qH,List.isEmpty_iff];constructor
  .intro h1 i hi
   have h2:=Iu h1 (t[i]'hi) (by
    have:t[i]=t.data.toList[i]'(by simpa using hi):=by rw[Array.getElem_toList];rfl
    rw[this];exact List.getElem_mem _)
   have h3:=MN _ h2;have hb:bt t (i:Int)=((t[i]'hi).toNat:Int):=by unfold bt;rw[dif_pos (by simpa using hi)];rfl
   rw[hb];omega
  .intro hd
   have hall:∀c∈t.data.toList,([48,49,50,51,52,53,54,55,56,57]:List UInt8).contains c=true:=by
    intro c hc;obtain⟨i,hi,rfl⟩:=List.getElem_of_mem hc;have hi':i<t.size:=by simpa using hi
    have h1:=hd i hi';have hb:bt t (i:Int)=((t[i]'hi').toNat:Int):=by unfold bt;rw[dif_pos (by simpa using hi')];rfl
    have he:t.data.toList[i]=t[i]'hi':=by rw[Array.getElem_toList];rfl
    rw[hb]at h1;rw[he];generalize t[i]'hi'=c at h1;have hf:∀k:Fin 256,48≤k.val->k.val≤57->([48,49,50,51,52,53,54,55,56,57]:List UInt8).contains (UInt8.ofNat k.val)=true:=by decide+kernel
    have:=hf ⟨c.toNat,c.toNat_lt⟩ (by show 48≤c.toNat;omega) (by show c.toNat≤57;omega);simpa using this
   unfold yA trimS trimLeftS trimRightS;have h1:t.data.toList.reverse.dropWhile (([48,49,50,51,52,53,54,55,56,57]:List UInt8).contains ·)=[]:=by
    have:∀l:List UInt8,(∀c∈l,([48,49,50,51,52,53,54,55,56,57]:List UInt8).contains c=true)->l.dropWhile (([48,49,50,51,52,53,54,55,56,57]:List UInt8).contains ·)=[]:=by
     intro l;induction l with
     |nil=>intro _;rfl
     |cons x l ih=>intro hx;rw[List.dropWhile_cons_of_pos (hx x (List.mem_cons_self ..))];exact ih λ c hc=>hx c (List.mem_cons_of_mem _ hc)
    exact this _ λ c hc=>hall c (List.mem_reverse.1 hc)
   rw[h1];rfl
 unfold gD;rw[h]
theorem Cc{t:ByteArray}{m:Bool}(h:gD t m=true):Cb t∧(m=true->bX t≠0):=by
 rw[KF,Bool.and_eq_true,Bool.and_eq_true]at h;obtain⟨⟨h1,h2⟩,h3⟩:=h;have hd:=(qH t).1 h3;have h0:0<t.size:=by simpa using h1
 have hc:Cb t:=⟨hd,h0,λ hz=>by simp[hz.1,hz.2]at h2⟩;exact⟨hc,λ hm he=>by
  have:=(FE hc).1 he;simp[this,hm]at h2⟩
theorem nY{t:ByteArray}(h:l9 t=true):Cb t∧t.size≤300:=by
 unfold l9 at h;rw[Bool.and_eq_true,Bool.and_eq_true,Bool.and_eq_true]at h;obtain⟨⟨⟨h1,h2⟩,h3⟩,h4⟩:=h;exact⟨⟨(qH t).1 h4,by simpa using h1,λ hz=>by simp[hz.1,hz.2]at h3⟩,by simpa using h2⟩
theorem KG{t:ByteArray}(h:Cb t):l9 t=decide (t.size≤300):=by
 obtain⟨hd,h0,hz⟩:=h;unfold l9;rw[(qH t).2 hd,decide_eq_true h0,Bool.and_true,Bool.true_and];have:(!(decide (1<t.size)&&(bt t 0==48)))=true:=by
  cases h1:decide (1<t.size)
  .rfl
  .have:¬bt t 0=48:=λ e=>hz ⟨of_decide_eq_true h1,e⟩
   simp[this]
 rw[this,Bool.and_true]
theorem II{t:ByteArray}{m:Bool}(h:Cb t)(hm:m=true->bX t≠0):gD t m=true:=by
 have hcz:=FE h;obtain⟨hd,h0,hz⟩:=h;rw[KF,(qH t).2 hd,decide_eq_true h0,Bool.and_true,Bool.true_and];by_cases hb:bt t 0=48
 .have h1:¬1<t.size:=λ h=>hz ⟨h,hb⟩
  have h2:m=false:=by
   cases m
   .rfl
   .exact absurd (hcz.2 hb) (hm rfl)
  simp[hb,h1,h2]
 .simp[hb]
def cA(s:ByteArray):ByteArray:=⟨(cut s.data.toList [47]).1.toArray⟩
def cB(s:ByteArray):ByteArray:=⟨(cut s.data.toList [47]).2.1.toArray⟩
def cF(s:ByteArray):Bool:=(cut s.data.toList [47]).2.2
def oP(s:ByteArray):Bool:=iF (cA s)
def kG(s:ByteArray):Nat:=bX (fK (cA s))
def pJ(s:ByteArray):Nat:=if cF s=true then bX (cB s)else 1
def dW(s:ByteArray):Bool:=
 l9 (fK (cA s))&& !(iF (cA s)&&decide (kG s=0))&&(!cF s||(l9 (cB s)&&decide (1<bX (cB s))&&decide (Nat.gcd (kG s) (bX (cB s))=1)))
theorem uf{b:ByteArray}(h:iF b=true):∃l,b.data.toList=45::l∧(fK b).data.toList=l:=by
 unfold iF hasPrefix at h;unfold fK trimPrefix hasPrefix;cases hb:b.data.toList with
 |nil=>rw[hb]at h;simp at h
 |cons x l=>
  rw[hb]at h;have hx:x=45:=by
   simp only[List.isPrefixOf,Bool.and_true,beq_iff_eq]at h;exact h.symm
  subst hx;refine⟨l,rfl,?_⟩;rw[if_pos h];simp
theorem pK{b:ByteArray}(h:iF b=false):fK b=b:=by
 unfold iF at h;unfold fK trimPrefix;rw[if_neg (by rw[h];simp)]
theorem Qd{b:ByteArray}(h:iF b=true):0<b.size∧bt b 0=45:=by
 obtain⟨l,h1,h2⟩:=uf h;have hsz:b.size=b.data.toList.length:=by simp
 have h0:0<b.size:=by rw[hsz,h1];simp
 refine⟨h0,?_⟩;unfold bt;rw[dif_pos (by simpa using h0)];have:b[((0:Int)).toNat]'(by simpa using h0)=b.data.toList[0]'(by rw[h1];simp):=by rw[Array.getElem_toList];rfl
 rw[this];simp[h1]
theorem Ed(b:ByteArray):(fK b).size≤b.size:=by
 cases h:iF b
 .rw[pK h];exact Nat.le_refl _
 .obtain⟨l,h1,h2⟩:=uf h
  have e1:b.size=b.data.toList.length:=by simp
  have e2:(fK b).size=(fK b).data.toList.length:=by simp
  rw[e1,e2,h1,h2];simp
theorem Qo{b:ByteArray}(h:iF b=true):l9 b=false:=by
 obtain⟨h0,h1⟩:=Qd h;cases hd:l9 b
 .rfl
 .have:=(nY hd).1.1 0 h0
  have e0:(((0:Nat):Int))=0:=rfl;rw[e0,h1]at this;omega
theorem KH{t:ByteArray}(hd:qY t):(limbs B9 (bX t)).length≤(t.size+8)/9:=by
 apply gB iq;refine Nat.lt_of_lt_of_le (GR hd) ?_;have:B9^((t.size+8)/9)=10^(9*((t.size+8)/9)):=by rw[Nat.pow_mul]
 rw[this];exact Nat.pow_le_pow_right (by decide) (by omega)
theorem UJ(s:ByteArray):(cA s).size≤s.size∧(cB s).size≤s.size:=by
 have e:s.size=s.data.toList.length:=by simp
 have e1:(cA s).size=(cut s.data.toList [47]).1.length:=by unfold cA;show(List.toArray _).size=_;simp
 have e2:(cB s).size=(cut s.data.toList [47]).2.1.length:=by unfold cB;show(List.toArray _).size=_;simp
 rw[e,e1,e2];unfold cut;split
 .constructor
  .exact List.length_take_le' _ _
  .rw[List.length_drop];omega
 .simp
theorem FH{a:ByteArray}(hs:(fK a).size<4294967281)(h:gD (fK a) (iF a)=true):iC.f a=some (iF a,limbs B9 (bX (fK a)),true):=by
 obtain⟨hc,hn⟩:=Cc h;rw[KI a hs,h,if_pos rfl];congr 2;cases hm:iF a
 .rfl
 .simp[hn hm]
theorem IJ{a:ByteArray}(hs:(fK a).size<4294967281)(h:gD (fK a) (iF a)=false):iC.f a=some (false,[],false):=by
 rw[KI a hs,h,if_neg (by simp)];rfl
theorem Ce(s:ByteArray)(hs:s.size≤4000000)(k:Nat)(hk:100000001<k):
  ∃x1 x2 x3 x4,bM.f k s=some (x1,x2,x3,x4,dW s)∧(dW s=true->x1=oP s∧x2=limbs B9 (kG s)∧x3=false∧x4=limbs B9 (pJ s)):=by
 obtain⟨k,rfl⟩:∃m,k=m+1:=⟨k-1,by omega⟩;have hsz:=UJ s;have hta:=Ed (cA s);have htb:=Ed (cB s);have hcut:strings_Cut.f s ⟨#[47]⟩=some (cA s,cB s,cF s):=by unfold strings_Cut.f;rw[if_pos ⟨rfl,by omega⟩];rfl
 unfold bM.f;rw[hcut,Option.bind_some];dsimp only;by_cases ha:gD (fK (cA s)) (iF (cA s))=true
 .obtain⟨hca,hna⟩:=Cc ha
  have hla:=KH hca.1;have hda:=KG hca;rw[<-nI hca]at hda;rw[FH (by omega) ha,Option.bind_some];dsimp only;rw[if_pos rfl];have hn1:(!(iF (cA s)&&decide (kG s=0)))=true:=by
   unfold kG;cases hm:iF (cA s)
   .rfl
   .simp[hna hm]
  by_cases hf:cF s=true
  .rw[if_pos hf]
   have hB:dW s=(l9 (fK (cA s))&&(l9 (cB s)&&decide (1<bX (cB s))&&decide (Nat.gcd (kG s) (bX (cB s))=1))):=by
    unfold dW;rw[hn1,hf,Bool.and_true];rfl
   by_cases hb:gD (fK (cB s)) (iF (cB s))=true
   .obtain⟨hcb,hnb⟩:=Cc hb
    have hlb:=KH hcb.1;rw[FH (by omega) hb,Option.bind_some];dsimp only;rw[if_pos rfl];have hl1:(limbs B9 1).length<1000000:=by have:=gB iq 1 1 (by decide);omega
    rw[Qp (k+1) (by omega),Option.bind_some];dsimp only;rw[WX _ _ _ _ (by omega) hl1 (k+1) (by omega),Option.bind_some];simp only[bM.j0];cases hm:iF (cB s)with
    |true=>
     have hc:jA (sv true (bX (fK (cB s)))) (sv false 1)≤0:=by
      rw[Ei,Ay];unfold jA;rw[if_pos (by omega)];omega
     have z:dW s=false:=by rw[hB,Qo hm];simp
     rw[if_pos (decide_eq_true hc),z];exact⟨_,_,_,_,rfl,by simp⟩
    |false=>
     have D:=pK hm;rw[D]at hcb hlb|-
     have hdb:=KG hcb;rw[<-nI hcb]at hdb;rw[Ay,Ay];by_cases h1:1<bX (cB s)
     .have hc:¬jA (bX (cB s):Int) ((1:Nat):Int)≤0:=by unfold jA;rw[if_neg (by omega),if_pos (by omega)];omega
      rw[if_neg (by simpa using hc),Sr _ _ _ _ (by omega) (by omega),Option.bind_some];by_cases hsh:(decide (nDigits (bX (fK (cA s)))≤300)&&decide (nDigits (bX (cB s))≤300))=true
      .rw[if_pos hsh]
       rw[Bool.and_eq_true]at hsh;have g1:(limbs B9 (bX (fK (cA s)))).length<500000:=by omega
       have g2:(limbs B9 (bX (cB s))).length<500000:=by omega
       rw[WY _ _ _ _ g1 g2 k (by omega),Option.bind_some];dsimp only;rw[Qq,Option.bind_some];have z:dW s=decide (Nat.gcd (kG s) (bX (cB s))=1):=by
        rw[hB,hda,hdb,hsh.1,hsh.2,decide_eq_true h1];rfl
       rw[z];refine⟨_,_,_,_,rfl,λ _=>⟨rfl,rfl,rfl,?_⟩⟩;unfold pJ;rw[if_pos hf]
      .rw[if_neg hsh]
       have z:dW s=false:=by
        rw[hB,hda,hdb];rw[Bool.not_eq_true,Bool.and_eq_false_iff]at hsh;rcases hsh with h|h
        .rw[h];rfl
        .rw[h];simp
       rw[z];exact⟨_,_,_,_,rfl,by simp⟩
     .have hc:jA (bX (cB s):Int) ((1:Nat):Int)≤0:=by unfold jA;split<;>(try split)<;>omega
      have z:dW s=false:=by rw[hB,decide_eq_false h1];simp
      rw[if_pos (decide_eq_true hc),z];exact⟨_,_,_,_,rfl,by simp⟩
   .rw[Bool.not_eq_true]at hb
    have z:dW s=false:=by
     rw[hB];cases hd:l9 (cB s)
     .simp
     .exfalso
      have hm:iF (cB s)=false:=by
       cases hm:iF (cB s)
       .rfl
       .rw[Qo hm]at hd;exact absurd hd (by simp)
      rw[pK hm,hm,II (nY hd).1 (by simp)]at hb;exact absurd hb (by simp)
    rw[IJ (by omega) hb,Option.bind_some];dsimp only;rw[if_neg (by simp),z];simp only[bM.j0];rw[if_pos trivial];exact⟨_,_,_,_,rfl,by simp⟩
  .have hB:dW s=decide (nDigits (bX (fK (cA s)))≤300):=by
    rw[Bool.not_eq_true]at hf;unfold dW;rw[hn1,hf,hda];simp
   rw[if_neg hf,Qp (k+1) (by omega),Option.bind_some];dsimp only;rw[Cg _ _ (by omega),Option.bind_some,hB];refine⟨iF (cA s),limbs B9 (bX (fK (cA s))),false,limbs B9 1,?_,λ _=>⟨rfl,rfl,rfl,?_⟩⟩
   .rw[show decide (((nDigits (bX (fK (cA s))):Nat):Int)≤300)=decide (nDigits (bX (fK (cA s)))≤300)from decide_eq_decide.2 (by omega)]
   .unfold pJ;rw[if_neg hf]
 .rw[Bool.not_eq_true]at ha
  have z:dW s=false:=by
   cases hn:dW s
   .rfl
   .exfalso
    unfold dW at hn;rw[Bool.and_eq_true,Bool.and_eq_true]at hn;have h1:=(nY hn.1.1).1;have h2:iF (cA s)=true->bX (fK (cA s))≠0:=by
     intro hm he;have:=hn.1.2;unfold kG at this;simp[hm,he]at this
    rw[II h1 h2]at ha;exact absurd ha (by simp)
  rw[IJ (by omega) ha,Option.bind_some];dsimp only;rw[if_neg (by simp),z];exact⟨_,_,_,_,rfl,by simp⟩
theorem KJ:∀(l:List UInt8),(cut l [47]).2.2=true->l=(cut l [47]).1++47::(cut l [47]).2.1:=by
 intro l;unfold cut;rw[index_one];have key:∀l:List UInt8,(indexByte l 47= -1)∨(0≤indexByte l 47∧l=l.take (indexByte l 47).toNat++47::l.drop ((indexByte l 47).toNat+1)):=by
  intro l;induction l with
  |nil=>exact .inl rfl
  |cons x l ih=>
   unfold indexByte;by_cases hx:(x==47)=true
   .rw[if_pos hx]
    refine .inr ⟨by omega,?_⟩;have:x=47:=by simpa using hx
    subst this;simp
   .rw[if_neg hx]
    rcases ih with h|⟨h1,h2⟩
    .left;rw[h];rfl
    .right
     have h3:¬(indexByte l 47== -1)=true:=by
      intro h;have:indexByte l 47= -1:=by simpa using h
      omega
     rw[if_neg h3];obtain⟨i,hi⟩:∃i:Nat,indexByte l 47=i:=⟨(indexByte l 47).toNat,by omega⟩;rw[hi]at h2|-
     refine⟨by omega,?_⟩;have e:((i:Int)+1).toNat=i+1:=by omega
     rw[e,List.take_succ_cons,List.drop_succ_cons,List.cons_append];rw[Int.toNat_natCast]at h2;rw[<-h2]
 intro h;rcases key l with h1|⟨h1,h2⟩
 .rw[h1]at h;simp at h
 .rw[if_pos h1];exact h2
theorem Qr:∀(l:List UInt8),(cut l [47]).2.2=false->(cut l [47]).1=l:=by
 intro l;unfold cut;split
 .simp
 .simp
theorem Sv{s:ByteArray}(h:dW s=true):wm (oP s) (kG s) (pJ s)=s∧(oP s=true->kG s≠0)∧nDigits (kG s)≤300∧nDigits (pJ s)≤300∧0<pJ s:=by
 unfold dW at h;rw[Bool.and_eq_true,Bool.and_eq_true]at h;obtain⟨⟨h1,h2⟩,h3⟩:=h;obtain⟨hca,hsa⟩:=nY h1;have hda:=IG hca;have hna:=nI hca;have hs:oP s=true->kG s≠0:=by
  intro hm he;unfold oP at hm;simp[hm,he]at h2
 have hA:(if oP s=true then(⟨#[45]⟩:ByteArray)++dec (kG s)else dec (kG s))=cA s:=by
  unfold kG;rw[hda];unfold oP;cases hm:iF (cA s)
  .rw[if_neg (by simp),pK hm]
  .obtain⟨l,g1,g2⟩:=uf hm
   rw[if_pos rfl];apply ByteArray.ext;apply Array.ext';rw[ByteArray.data_append,Array.toList_append,g1,g2];rfl
 have z:(cA s).data.toList=(cut s.data.toList [47]).1:=by unfold cA;rfl
 have hBl:(cB s).data.toList=(cut s.data.toList [47]).2.1:=by unfold cB;rfl
 cases hf:cF s with
 |false=>
  have hD:pJ s=1:=by unfold pJ;rw[hf];rfl
  refine⟨?_,hs,by unfold kG;omega,by rw[hD,nDigits_small (by omega)];omega,by omega⟩;unfold wm;rw[hA,hD,if_pos rfl,qQ];apply ByteArray.ext;apply Array.ext';rw[z];exact Qr _ hf
 |true=>
  have hD:pJ s=bX (cB s):=by unfold pJ;rw[hf];rfl
  rw[hf,Bool.not_true,Bool.false_or,Bool.and_eq_true,Bool.and_eq_true]at h3;obtain⟨hcb,hsb⟩:=nY h3.1.1;have hdb:=IG hcb;have hnb:=nI hcb;have h1d:1<bX (cB s):=of_decide_eq_true h3.1.2;refine⟨?_,hs,by unfold kG;omega,by rw[hD];omega,by omega⟩;unfold wm;rw[hA,hD,if_neg (by omega),hdb];apply ByteArray.ext;apply Array.ext';rw[ByteArray.data_append,Array.toList_append,ByteArray.data_append,Array.toList_append,z,hBl];exact(KJ _ hf).symm
theorem GX{s:ByteArray}{i:Nat}(h:i<s.data.toList.length):bt s (i:Int)=((s.data.toList[i]'h).toNat:Int):=by
 have hi:i<s.size:=by simpa using h
 unfold bt;rw[dif_pos (by simpa using hi)];have:s.data.toList[i]=s[i]'hi:=by rw[Array.getElem_toList];rfl
 rw[this];rfl
theorem Wi(s:ByteArray):iF s=(decide (0<s.size)&&(bt s 0==45)):=by
 have e:s.size=s.data.toList.length:=by simp
 unfold iF hasPrefix;cases h:s.data.toList with
 |nil=>
  have h0:s.size=0:=by rw[e,h];rfl
  simp[h0]
 |cons x l=>
  have h0:0<s.size:=by rw[e,h];simp
  have hb:bt s ((0:Nat):Int)=((s.data.toList[0]'(by rw[h];simp)).toNat:Int):=GX _;simp only[h,List.getElem_cons_zero]at hb;have e0:(((0:Nat):Int))=0:=rfl;rw[e0]at hb;rw[decide_eq_true h0,hb,Bool.true_and];simp only[List.isPrefixOf,Bool.and_true];apply Bool.eq_iff_iff.2;rw[beq_iff_eq,beq_iff_eq];constructor
  .intro h;subst h;rfl
  .intro h
   have:x.toNat=45:=by exact_mod_cast h
   exact(UInt8.toNat_inj.1 (by rw[this];rfl)).symm
def iJ:List UInt8->Nat
 |[]=>0
 |x::l=>if x=47 then 0 else iJ l+1
theorem AA:∀l,iJ l≤l.length
 |[]=>Nat.le_refl _
 |x::l=>by
  have:=AA l;unfold iJ;split
  .exact Nat.zero_le _
  .simpa using this
theorem KO:∀(l:List UInt8)(j:Nat)(h:j<l.length),j<iJ l->l[j]≠47
 |x::l,j,h,hj=>by
  unfold iJ at hj;by_cases hx:x=47
  .rw[if_pos hx]at hj;omega
  .rw[if_neg hx]at hj
   cases j with
   |zero=>simpa using hx
   |succ j=>simpa using KO l j (by simpa using h) (by omega)
theorem KP:∀(l:List UInt8)(h:iJ l<l.length),l[iJ l]=47
 |x::l,h=>by
  by_cases hx:x=47
  .subst hx;simp[iJ]
  .have e:iJ (x::l)=iJ l+1:=by rw[iJ,if_neg hx]
   simp only[e,List.getElem_cons_succ];exact KP l _
theorem DR:∀l:List UInt8,indexByte l 47=if iJ l<l.length then(iJ l:Int)else -1
 |[]=>rfl
 |x::l=>by
  unfold indexByte iJ;by_cases hx:x=47
  .subst hx;simp
  .rw[if_neg (by simpa using hx),if_neg hx,DR l]
   simp only[List.length_cons,Nat.add_lt_add_iff_right];by_cases h3:iJ l<l.length
   .rw[if_pos h3,if_pos h3,if_neg (by simp)];rfl
   .rw[if_neg h3,if_neg h3];rfl
theorem GY(l:List UInt8):cut l [47]=(l.take (iJ l),l.drop (iJ l+1),decide (iJ l<l.length)):=by
 have hle:=AA l;unfold cut;rw[index_one,DR l];by_cases h:iJ l<l.length
 .rw[if_pos h,if_pos (by omega),Int.toNat_natCast,decide_eq_true h];rfl
 .rw[if_neg h,if_neg (by omega),decide_eq_false h,List.take_of_length_le (by omega),List.drop_eq_nil_of_le (by omega)]
def zH(u:ByteArray):Nat:=iJ u.data.toList
theorem Wj(u:ByteArray):zH u≤u.size:=by
 have e:u.size=u.data.toList.length:=by simp
 rw[e];exact AA _
theorem Wm{u:ByteArray}{j:Nat}(h:j<zH u):(bt u (j:Int)==47)=false:=by
 have h1:j<u.data.toList.length:=Nat.lt_of_lt_of_le h (AA _);rw[GX h1];have h2:=KO _ j h1 h;apply beq_eq_false_iff_ne.2;intro e;apply h2;apply UInt8.toNat_inj.1;have:(u.data.toList[j]).toNat=47:=by exact_mod_cast e
 rw[this];rfl
theorem Wo{u:ByteArray}(h:zH u<u.size):(bt u ((zH u:Nat):Int)==47)=true:=by
 have e:u.size=u.data.toList.length:=by simp
 have hl:zH u<u.data.toList.length:=by rw[<-e];exact h
 rw[GX hl];have h2:u.data.toList[zH u]'hl=47:=KP _ hl;rw[h2];rfl
theorem parts(s:ByteArray):iF (cA s)=iF s∧fK (cA s)=(fK s).extract 0 (zH (fK s))∧cF s=decide (zH (fK s)<(fK s).size)∧(cF s=true->cB s=(fK s).extract (zH (fK s)+1) (fK s).size):=by
 have ext:∀a b:ByteArray,a.data.toList=b.data.toList->a=b:=λ a b h=>by
  apply ByteArray.ext;apply Array.ext';exact h
 have hA:(cA s).data.toList=s.data.toList.take (iJ s.data.toList):=by unfold cA;rw[GY]
 have hB:(cB s).data.toList=s.data.toList.drop (iJ s.data.toList+1):=by unfold cB;rw[GY]
 have hF:cF s=decide (iJ s.data.toList<s.data.toList.length):=by unfold cF;rw[GY]
 have hsz:∀u:ByteArray,u.size=u.data.toList.length:=λ u=>by simp
 have hE:∀(u:ByteArray)(i j:Nat),(u.extract i j).data.toList=(u.data.toList.take j).drop i:=λ u i j=>by
  rw[ByteArray.data_extract,Array.toList_extract];simp[List.extract,List.drop_take]
 cases hm:iF s with
 |true=>
  obtain⟨l,h1,h2⟩:=uf hm;have hp:iJ s.data.toList=iJ l+1:=by rw[h1,iJ,if_neg (by decide)]
  have hA2:(cA s).data.toList=45::l.take (iJ l):=by rw[hA,hp,h1,List.take_succ_cons]
  have z:iF (cA s)=true:=by unfold iF hasPrefix;rw[hA2];rfl
  refine⟨z,?_,?_,?_⟩
  .apply ext
   obtain⟨l2,g1,g2⟩:=uf z;rw[hA2]at g1;rw[g2,hE,List.drop_zero];unfold zH;rw[h2];exact(List.cons.inj g1).2.symm
  .rw[hF,hsz,h2];unfold zH;rw[h2,hp,h1]
   exact decide_eq_decide.2 (by simp)
  .intro _
   apply ext;rw[hB,hp,h1,List.drop_succ_cons,hE,hsz];unfold zH;rw[h2,List.take_of_length_le (Nat.le_refl _)]
 |false=>
  have ht:=pK hm;have z:iF (cA s)=false:=by
   unfold iF hasPrefix at hm|-
   rw[hA];cases h:s.data.toList with
   |nil=>rfl
   |cons x l=>
    rw[h]at hm;by_cases hx:x=47
    .subst hx;rfl
    .rw[iJ,if_neg hx,List.take_succ_cons]
     simpa[List.isPrefixOf]using hm
  rw[ht];refine⟨z,?_,?_,?_⟩
  .rw[pK z]
   apply ext;rw[hA,hE,List.drop_zero];rfl
  .rw[hF,hsz];rfl
  .intro _
   apply ext;rw[hB,hE,hsz,List.take_of_length_le (Nat.le_refl _)];rfl
end Go.Proofs.Ct.Q
namespace Go.Proofs.Ct.Q
open Go.RowKit Go.Proofs.aA.ak Go.Proofs.aA.aC Go.Proofs.aA.aG Go.Proofs.bO
def ou(s:ByteArray):Bool:=decide (s.toList=([116,114,117,101]:List UInt8))||decide (s.toList=([102,97,108,115,101]:List UInt8))
def ku(s:ByteArray):Bool:=dW s||ou s
def jy(l:List f_)(i:Nat):Bool:=
 ny (bQ l i).f0.f0 (bQ l i).f0.f1 (bQ l i).f0.f2&&ku (bQ l i).f1&&
  (decide (i=0)||jc (bQ l ((i-1:Nat):Int)).f0.f0 (bQ l ((i-1:Nat):Int)).f0.f1 (bQ l ((i-1:Nat):Int)).f0.f2 (bQ l i).f0.f0 (bQ l i).f0.f1 (bQ l i).f0.f2)
def qI(l:List f_):Bool:=(List.range l.length).all (jy l)
def jP(t:ByteArray)(l:List f_):Int:=if l.length>1000 then 2 else if dW t&&qI l then 0 else 1
def BP(t:ByteArray)(l:List f_):Prop:=t.size≤4000000∧∀x∈l,x.f1.size≤4000000∧x.f0.f0.size≤4000000
def nD:List f_->ByteArray->Int->Bool->Option ByteArray
 |[],_,_,_=>none
 |x::l,n,o,p=>if(x.f0.f0.toList==n.toList&&(x.f0.f1==o&&(x.f0.f2==p)))=true then some x.f1 else nD l n o p
def kK:List nP->Int
 |[]=>0
 |x::l=>if jP x.f1.f0 x.f1.f2=0 then kK l else jP x.f1.f0 x.f1.f2
def l8:List nP->ByteArray->Int->Bool->Option (List ByteArray)
 |[],_,_,_=>some []
 |x::l,n,o,p=>match nD x.f1.f2 n o p with
  |none=>none
  |some v=>match l8 l n o p with
   |none=>none
   |some r=>some (v::r)
def iB(l:List nP)(n:ByteArray)(o:Int)(p:Bool):List ByteArray×Int:=
 if kK l=0 then(if ny n o p=true then(match l8 l n o p with|none=>([],5)|some r=>(r,0))else([],1))else([],kK l)
theorem xw{l:List f_}{i:Nat}(h:i<l.length):bQ l (i:Int)=l[i]:=by unfold bQ;simp[List.getD_eq_getElem?_getD,h]
theorem tV{l:List nP}{i:Nat}(h:i<l.length):nE l (i:Int)=l[i]:=by unfold nE;simp[List.getD_eq_getElem?_getD,h]
def iG(k:Int):ByteArray:=qD ByteArray.empty (oI.f.getD []) k
def gW(s:ByteArray):ByteArray:=if s.toList=([]:List UInt8)then(⟨#[45]⟩:ByteArray)else s
def sM(f:iY):ByteArray:=
 (((((((⟨(Lib.itoa f.f0).toArray⟩:ByteArray)++(⟨#[32]⟩:ByteArray))++iG f.f1)++(⟨#[32]⟩:ByteArray))++gW f.f2)++(⟨#[32]⟩:ByteArray))++gW f.f3)++(⟨#[10]⟩:ByteArray)
def mO(f:iY):Bool:=
 decide (0≤f.f1)&&decide (f.f1<13)&&(decide (f.f2.toList=([]:List UInt8))||iP f.f2)&&(decide (f.f3.toList=([]:List UInt8))||ku f.f3)
def pO:List iY->ByteArray
 |[]=>⟨#[]⟩
 |f::l=>sM f++pO l
def Av(l:List iY):ByteArray×Int:=if l.all mO then(pO l,0)else((⟨#[]⟩:ByteArray),1)
def Dc(l:List iY):Prop:=∀f∈l,f.f2.size≤4000000∧f.f3.size≤4000000∧ -9223372036854775808≤f.f0∧f.f0≤9223372036854775807
end Go.Proofs.Ct.Q
