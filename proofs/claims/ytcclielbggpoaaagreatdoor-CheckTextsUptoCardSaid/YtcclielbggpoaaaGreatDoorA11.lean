/- Part of the proof of CheckTexts (see the last text). -/
import Derived.Laws.RangeAny
import Derived.Laws.RangeString
import Derived.Test.YtcclielbggpoaaaGreatDoorA10
set_option linter.all false
namespace Go.Proofs.Ct.Q
open Go.RowKit Go.Proofs.aA.ak Go.Proofs.aA.aC Go.Proofs.aA.aG
attribute [local go_sem] aW aX bA bB
def jm.f(k:Nat)(a0:Int):Option (Bool×List Int×List Int):=if a0<0 then((bq.f k (IntKind.u64.wrap ((IntKind.u64.wrap (wrap64 (-(wrap64 (a0+1)))))+1))).bind λ D=>((bq.f k 1).bind λ E=>((eF.f k true D E).bind λ s=>(some (s.1,s.2.1,s.2.2)))))else((bq.f k (IntKind.u64.wrap (a0))).bind λ F=>((bq.f k 1).bind λ I=>((eF.f k false F I).bind λ z=>(some (z.1,z.2.1,z.2.2)))))
set_option maxHeartbeats 8000000 in
set_option maxRecDepth 100000 in
theorem jm.calls(k:Nat)(a0:Int)(r1:Bool)(r2:List Int)(r3:List Int)(w:World)(H:jm.f k a0=some (r1,r2,r3)):
 Calls Tryz.prog 65 #[.int .i64 a0] w λ e w'=>∃ax ay:Value,e= .returned (.agg #[.bool r1,ax,ay])∧Kd.V (Kd.int .i64) 3 w' w.heap.size (λ k_=>(w.heap.size≤k_)) ax r2∧Kd.V (Kd.int .i64) 3 w' w.heap.size (λ k_=>(w.heap.size≤k_)) ay r3∧Below w.heap.size w w':=by
 have hu122:=Tryz.underlying122;have HB:=ah.mk (Below.refl w.heap.size w);unfold jm.f at H;revert H;refine ci (λ c2 H=>?_) λ c2 H=>?_
 .have aD:=decide_eq_true c2
  clear c2;revert H;refine bi λ L A3 H=>?_;revert H;refine bi λ O A4 H=>?_;revert H;refine bi λ aE A5 H=>?_;obtain⟨ab,ac,ae⟩:=aE;dsimp only at H;simp only[Option.some.injEq,Prod.mk.injEq]at H;obtain⟨rfl,rfl,rfl⟩:=H;go_enter Tryz.func65,Tryz.ntmps65
  go_wp2_with (first|((with_reducible refine gd 2 rfl ?_);refine bx #[.bool false,.slice none 0 0,.slice none 0 0] 122 ?_;intro z hg w6 s hb;have av:=kz hg;have aw:=kz hg;replace HB:=kh hb;clear hb hg)|((with_reducible refine gc 137 rfl ?_);refine gl (some 10) Tryz.func137 (args:= #[.int .u64 (IntKind.u64.wrap ((IntKind.u64.wrap (wrap64 (-(wrap64 (a0+1)))))+1))]) (bq.calls k (IntKind.u64.wrap ((IntKind.u64.wrap (wrap64 (-(wrap64 (a0+1)))))+1)) L _ A3.out) ?_;rintro e w7 ⟨v500,rfl,ho0,hb⟩;refine⟨_,rfl,?_⟩;have D:=kN ho0;replace s:=kb s hb;replace HB:=kh hb;clear hb ho0)|((with_reducible refine gc 137 rfl ?_);refine gl (some 11) Tryz.func137 (args:= #[.int .u64 1]) (bq.calls k 1 O _ A4.out) ?_;rintro e w8 ⟨v503,rfl,ho0,hb⟩;refine⟨_,rfl,?_⟩;have I:=ah.mk (Kd.tO (Kd.F6 (Kd.BN (M:=λ k_=>(w.heap.size≤k_)) ho0 (bG hB) (λ k_ h_=>h_)) (Kd.qB (kd D))) (bG hB));replace D:=kE D ho0 hb;replace s:=kb s hb;replace HB:=kh hb;clear hb ho0;obtain⟨az,aB,ba⟩:=Kd.dR D.out;subst ba;obtain⟨af,ag,aF⟩:=Kd.dR I.out;subst aF)|((with_reducible refine gc 136 rfl ?_);refine gl (some 12) Tryz.func136 (args:= #[.bool true,.slice az L.length aB,.slice af O.length ag]) (eF.calls k true (λ k_=>some k_=(.slice az L.length aB:Value).ownBlock) _ _ L (λ k_=>some k_=(.slice af O.length ag:Value).ownBlock) _ _ O ab ac ae _ (Kd.kC (Kd.jr rfl (Kd.dh (D.out) s.out (by decide)))) (Kd.kC (Kd.jr rfl (Kd.dh (I.out) s.out (by decide)))) A5.out) ?_;rintro e w11 ⟨v507,v510,rfl,ho0,ho1,hb⟩;refine⟨_,rfl,?_⟩;have X:=ah.mk (Kd.lM (Kd.bU (ok':=λ k_=>(w.heap.size≤k_)∧k_≠z) ho0 (λ k_ gG=>⟨Or.elim gG (λ hs_=>Or.elim hs_ (λ hs_=>((Kd.dh (D.out) s.out (by decide)).1 k_ hs_.symm).1.1.1) (λ hs_=>((Kd.dh (I.out) s.out (by decide)).1 k_ hs_.symm).1.1.1)) (λ F=>(Nat.le_trans (bG hB) F)),Or.elim gG (λ hs_=>Or.elim hs_ (λ hs_=>((Kd.dh (D.out) s.out (by decide)).1 k_ hs_.symm).2) (λ hs_=>((Kd.dh (I.out) s.out (by decide)).1 k_ hs_.symm).2)) (λ F=>(Kd.zB (g:=z) (o:= .cells #[.bool false,.slice none 0 0,.slice none 0 0] 122 (0,0)) (kd s) k_ F))⟩)) (bG hB));have Y:=ah.mk (Kd.lM (Kd.bU (ok':=λ k_=>(w.heap.size≤k_)∧k_≠z) ho1 (λ k_ gG=>⟨Or.elim gG (λ hs_=>Or.elim hs_ (λ hs_=>((Kd.dh (D.out) s.out (by decide)).1 k_ hs_.symm).1.1.1) (λ hs_=>((Kd.dh (I.out) s.out (by decide)).1 k_ hs_.symm).1.1.1)) (λ F=>(Nat.le_trans (bG hB) F)),Or.elim gG (λ hs_=>Or.elim hs_ (λ hs_=>((Kd.dh (D.out) s.out (by decide)).1 k_ hs_.symm).2) (λ hs_=>((Kd.dh (I.out) s.out (by decide)).1 k_ hs_.symm).2)) (λ F=>(Kd.zB (g:=z) (o:= .cells #[.bool false,.slice none 0 0,.slice none 0 0] 122 (0,0)) (kd s) k_ F))⟩)) (bG hB));replace D:=kR D hb;replace I:=kR I hb;replace s:=kb s hb;replace HB:=kh hb;clear hb ho0 ho1;have hcz12_0:=z3 s;obtain⟨aL,aO,aP⟩:=Kd.aY X.out;subst aP;obtain⟨aR,aS,a1⟩:=Kd.aY Y.out;subst a1))
  refine bodyPost_ret (results_cell_row rfl _ _ z 122 #[.bool ab,.slice aL ac.length aO,.slice aR ae.length aS] (0,0) _ rfl (kp s) Tryz.underlying122 rfl (by kernel_rfl)) rfl ?_;exact⟨_,_,rW,kv X,kv Y,hB⟩
 .have aD:=decide_eq_false c2
  clear c2;revert H;refine bi λ T bb H=>?_;revert H;refine bi λ U bc H=>?_;revert H;refine bi λ aE bd H=>?_;obtain⟨al,am,an⟩:=aE;dsimp only at H;simp only[Option.some.injEq,Prod.mk.injEq]at H;obtain⟨rfl,rfl,rfl⟩:=H;go_enter Tryz.func65,Tryz.ntmps65
  go_wp2_with (first|((with_reducible refine gd 2 rfl ?_);refine bx #[.bool false,.slice none 0 0,.slice none 0 0] 122 ?_;intro z hg w18 s hb;have av:=kz hg;have aw:=kz hg;replace HB:=kh hb;clear hb hg)|((with_reducible refine gc 137 rfl ?_);refine gl (some 15) Tryz.func137 (args:= #[.int .u64 (IntKind.u64.wrap (a0))]) (bq.calls k (IntKind.u64.wrap (a0)) T _ bb.out) ?_;rintro e w19 ⟨v513,rfl,ho0,hb⟩;refine⟨_,rfl,?_⟩;have E:=kN ho0;replace s:=kb s hb;replace HB:=kh hb;clear hb ho0)|((with_reducible refine gc 137 rfl ?_);refine gl (some 16) Tryz.func137 (args:= #[.int .u64 1]) (bq.calls k 1 U _ bc.out) ?_;rintro e w20 ⟨v516,rfl,ho0,hb⟩;refine⟨_,rfl,?_⟩;have J:=ah.mk (Kd.tO (Kd.F6 (Kd.BN (M:=λ k_=>(w.heap.size≤k_)) ho0 (bG hB) (λ k_ h_=>h_)) (Kd.qB (kd E))) (bG hB));replace E:=kE E ho0 hb;replace s:=kb s hb;replace HB:=kh hb;clear hb ho0;obtain⟨ao,ap,a2⟩:=Kd.dR E.out;subst a2;obtain⟨aq,ar,a3⟩:=Kd.dR J.out;subst a3)|((with_reducible refine gc 136 rfl ?_);refine gl (some 17) Tryz.func136 (args:= #[.bool false,.slice ao T.length ap,.slice aq U.length ar]) (eF.calls k false (λ k_=>some k_=(.slice ao T.length ap:Value).ownBlock) _ _ T (λ k_=>some k_=(.slice aq U.length ar:Value).ownBlock) _ _ U al am an _ (Kd.kC (Kd.jr rfl (Kd.dh (E.out) s.out (by decide)))) (Kd.kC (Kd.jr rfl (Kd.dh (J.out) s.out (by decide)))) bd.out) ?_;rintro e w23 ⟨v520,v523,rfl,ho0,ho1,hb⟩;refine⟨_,rfl,?_⟩;have Z:=ah.mk (Kd.lM (Kd.bU (ok':=λ k_=>(w.heap.size≤k_)∧k_≠z) ho0 (λ k_ gG=>⟨Or.elim gG (λ hs_=>Or.elim hs_ (λ hs_=>((Kd.dh (E.out) s.out (by decide)).1 k_ hs_.symm).1.1.1) (λ hs_=>((Kd.dh (J.out) s.out (by decide)).1 k_ hs_.symm).1.1.1)) (λ F=>(Nat.le_trans (bG hB) F)),Or.elim gG (λ hs_=>Or.elim hs_ (λ hs_=>((Kd.dh (E.out) s.out (by decide)).1 k_ hs_.symm).2) (λ hs_=>((Kd.dh (J.out) s.out (by decide)).1 k_ hs_.symm).2)) (λ F=>(Kd.zB (g:=z) (o:= .cells #[.bool false,.slice none 0 0,.slice none 0 0] 122 (0,0)) (kd s) k_ F))⟩)) (bG hB));have aa:=ah.mk (Kd.lM (Kd.bU (ok':=λ k_=>(w.heap.size≤k_)∧k_≠z) ho1 (λ k_ gG=>⟨Or.elim gG (λ hs_=>Or.elim hs_ (λ hs_=>((Kd.dh (E.out) s.out (by decide)).1 k_ hs_.symm).1.1.1) (λ hs_=>((Kd.dh (J.out) s.out (by decide)).1 k_ hs_.symm).1.1.1)) (λ F=>(Nat.le_trans (bG hB) F)),Or.elim gG (λ hs_=>Or.elim hs_ (λ hs_=>((Kd.dh (E.out) s.out (by decide)).1 k_ hs_.symm).2) (λ hs_=>((Kd.dh (J.out) s.out (by decide)).1 k_ hs_.symm).2)) (λ F=>(Kd.zB (g:=z) (o:= .cells #[.bool false,.slice none 0 0,.slice none 0 0] 122 (0,0)) (kd s) k_ F))⟩)) (bG hB));replace E:=kR E hb;replace J:=kR J hb;replace s:=kb s hb;replace HB:=kh hb;clear hb ho0 ho1;have hcz24_0:=z3 s;obtain⟨a4,a5,a6⟩:=Kd.aY Z.out;subst a6;obtain⟨a7,a8,a9⟩:=Kd.aY aa.out;subst a9))
  refine bodyPost_ret (results_cell_row rfl _ _ z 122 #[.bool al,.slice a4 am.length a5,.slice a7 an.length a8] (0,0) _ rfl (kp s) Tryz.underlying122 rfl (by kernel_rfl)) rfl ?_;exact⟨_,_,rW,kv Z,kv aa,hB⟩
def iO.f(k:Nat)(a0:Int):Option (ByteArray):=(jm.f k a0).bind λ s=>((dB.f k s.1 s.2.1 s.2.2).bind λ z=>(some z))
set_option maxHeartbeats 8000000 in
set_option maxRecDepth 100000 in
theorem iO.calls(k:Nat)(a0:Int)(r:ByteArray)(w:World)(H:iO.f k a0=some r):
 Calls Tryz.prog 24 #[.int .i64 a0] w λ e w'=>e= .returned (.string r)∧Below w.heap.size w w':=by
 have HB:=ah.mk (Below.refl w.heap.size w);unfold iO.f at H;revert H;refine bi λ Y A2 H=>?_;obtain⟨D,E,F⟩:=Y;dsimp only at H;revert H;refine bi λ I A3 H=>?_;obtain rfl:=Option.some.inj H;go_enter Tryz.func24,Tryz.ntmps24
 go_wp2_with (first|((with_reducible refine gc 65 rfl ?_);refine gl (some 4) Tryz.func65 (args:= #[.int .i64 a0]) (jm.calls k a0 D E F _ A2.out) ?_;rintro e w4 ⟨v544,v547,rfl,ho0,ho1,hb⟩;refine⟨_,rfl,?_⟩;have s:=kL (λ k_=>True) ho0 (λ k_ gG=>trivial);have z:=kL (λ k_=>True) ho1 (λ k_ gG=>trivial);replace HB:=kh hb;clear hb ho0 ho1;obtain⟨J,L,O⟩:=Kd.aY s.out;subst O;obtain⟨T,U,X⟩:=Kd.aY z.out;subst X)|((with_reducible refine gc 66 rfl ?_);refine gl (some 5) Tryz.func66 (args:= #[.agg #[.bool D,.slice J E.length L,.slice T F.length U]]) (dB.calls k D _ _ E _ _ F I _ (sc ((Kd.aH s.out).2.2)) ((Kd.aH s.out).2.1) (sc ((Kd.aH z.out).2.2)) ((Kd.aH z.out).2.1) A3.out) ?_;rintro e w7 ⟨rfl,hb⟩;refine⟨_,rfl,?_⟩;replace s:=kV s hb;replace z:=kV z hb;replace HB:=kh hb;clear hb))
 go_ret;exact⟨rW,hB⟩
end Go.Proofs.Ct.Q
namespace Go.Proofs.Ct.Q
open Go.RowKit Go.Proofs.aA.ak Go.Proofs.aA.aC Go.Proofs.aA.aG
attribute [local go_sem] aW aX bA bB
attribute [local go_sem high] TM
def dF.l0:Nat->Int->ByteArray->Bool->List (f_)->ByteArray->Int->Bool->Option (ByteArray×Bool)
 |0,_,_,_,_,_,_,_=>none
 |k+1,x6,F,I,s,z,D,E=>if x6<(s.length:Int)then(if 0≤x6 then(if((((bQ s x6).f0.f0).toList)==z.toList&&(((bQ s x6).f0.f1)==D&&(((bQ s x6).f0.f2)==E)))=true then(some ((bQ s x6).f1,true))else(dF.l0 k (wrap64 (x6+1)) F I s z D E))else(none))else(some ((⟨#[]⟩:ByteArray),false))
def dF.f(k:Nat)(s:ByteArray)(z:Bool)(D:List (f_))(E:ByteArray)(F:Int)(I:Bool):Option (ByteArray×Bool):=dF.l0 k 0 s z D E F I
set_option maxHeartbeats 8000000 in
set_option maxRecDepth 100000 in
theorem dF.calls(k:Nat)(Z:ByteArray)(aa:Bool)(ae:Option Addr)(af:Nat)(s:List (f_))(E:ByteArray)(F:Int)(I:Bool)(r1:ByteArray)(r2:Bool)(w:World)(ax:Kd.C nG w ae s.length s)(ay:s.length≤af)(H:dF.f k Z aa s E F I=some (r1,r2)):
 Calls Tryz.prog 31 #[.agg #[.string Z,.bool aa,.slice ae s.length af],.agg #[.string E,.int .i64 F,.bool I]] w λ e w'=>e= .returned (.tuple #[.string r1,.bool r2])∧Below w.heap.size w w':=by
 have hu31:=Tryz.underlying31;have hu25:=Tryz.underlying25;have ao:=ah.mk ax;have HC0_2:=ah.mk ay;clear ax ay;have HB:=ah.mk (Below.refl w.heap.size w);unfold dF.f at H;have H':=ah.mk H;clear H;go_enter Tryz.func31,Tryz.ntmps31
 go_wp2_with (first|((with_reducible refine gd 2 rfl ?_);refine bx #[.string Z,.bool aa,.slice ae s.length af] 31 ?_;intro ap hg w3 D hb;have az:=kz hg;have aB:=kz hg;replace HB:=kh hb;clear hb hg)|((with_reducible refine gd 3 rfl ?_);refine bx #[.string E,.int .i64 F,.bool I] 25 ?_;intro aq hg w4 Y hb;have aD:=kz hg;have aE:=kz hg;replace HB:=kh hb;have J:=kl D hg;have L:=kr D hg;replace D:=kb D hb;clear hb hg))
 repeat(go_quiet (first|((with_reducible refine gd 2 rfl ?_);refine bx #[.string Z,.bool aa,.slice ae s.length af] 31 ?_;intro ap hg w3 D hb;have az:=kz hg;have aB:=kz hg;replace HB:=kh hb;clear hb hg)|((with_reducible refine gd 3 rfl ?_);refine bx #[.string E,.int .i64 F,.bool I] 25 ?_;intro aq hg w4 Y hb;have aD:=kz hg;have aE:=kz hg;replace HB:=kh hb;have J:=kl D hg;have L:=kr D hg;replace D:=kb D hb;clear hb hg));try go_wp2_with (first|((with_reducible refine gd 2 rfl ?_);refine bx #[.string Z,.bool aa,.slice ae s.length af] 31 ?_;intro ap hg w3 D hb;have az:=kz hg;have aB:=kz hg;replace HB:=kh hb;clear hb hg)|((with_reducible refine gd 3 rfl ?_);refine bx #[.string E,.int .i64 F,.bool I] 25 ?_;intro aq hg w4 Y hb;have aD:=kz hg;have aE:=kz hg;replace HB:=kh hb;have J:=kl D hg;have L:=kr D hg;replace D:=kb D hb;clear hb hg)))
 go_loopg [6] k (λ kq v6 w'=>∃(z:Int),v6= .int .i64 z∧ah (dF.l0 kq z Z aa s E F I=some (r1,r2))∧ah (kq≤k)∧ah (w'.heap[ap]? =some (.cells #[.string Z,.bool aa,(.slice ae s.length af)] 31 (0,0)))∧ah (w'.heap[aq]? =some (.cells #[.string E,.int .i64 F,.bool I] 25 (0,0)))∧ah (Below w.heap.size w w'))
 case atStart=>exact⟨(0),rS,H',⟨Nat.le_refl _⟩,⟨kd D⟩,⟨kd Y⟩,⟨hB⟩⟩
 case round=>
  clear H';obtain⟨z,rfl,HA,aO,D,Y,HB⟩:=hrel;cases gk with
  |zero=>exact absurd HA.out (by simp[dF.l0])
  |succ k1=>
   have H:=HA.out;clear HA;simp only[dF.l0]at H;revert H;refine ci (λ c5 H=>?_) λ c5 H=>?_
   .have aP:=decide_eq_true c5
    clear c5;revert H;refine cn λ c6 H=>?_;have c6b0:=decide_eq_true c6;clear c6;revert H;refine ci (λ c7 H=>?_) λ c7 H=>?_
    .have aR:((((bQ s z).f0.f0).toList)==E.toList&&(((bQ s z).f0.f1)==F&&(((bQ s z).f0.f2)==I)))=true:=c7
     (try(have aS:decide ((((bQ s z).f0.f0).toList)=E.toList&&(((bQ s z).f0.f1)==F&&(((bQ s z).f0.f2)==I)))=true:=by simpa using c7))
     (try(have a0:((((bQ s z).f0.f0).toList)==E.toList&&(((bQ s z).f0.f1)==F&&(((bQ s z).f0.f2)==I)))=true:=by simpa using c7))
     clear c7;simp only[Option.some.injEq,Prod.mk.injEq]at H;obtain⟨rfl,rfl⟩:=H;have hnb8:=J.out;have hnc8:=L.out;have hcz9_0:=z3 D;have ab:0≤(z:Int):=oA;have ac:z<(s.length:Int):=oA;obtain⟨aF,ar,O,T,U,X⟩:=xA ao.out z ab ac;cases ar;replace O:=hc O;replace T:=hc T;replace U:=hc U;replace X:=hc X;replace ab:=eq_true ab;replace ac:=eq_true ac;have hcz10_0:=z3 Y;have av:0≤(z:Int):=oA;have aw:z<(s.length:Int):=oA;obtain⟨aL,a1,ag,al,am,an⟩:=xA ao.out z av aw;obtain rfl:aF=aL:=(by injection a1);replace ag:=hc ag;replace al:=hc al;replace am:=hc am;replace an:=hc an;replace av:=eq_true av;replace aw:=eq_true aw;go_wp2;repeat(go_quiet (fail);try go_wp2)
     go_ret2;exact⟨rW,hB⟩
    .have aR:((((bQ s z).f0.f0).toList)==E.toList&&(((bQ s z).f0.f1)==F&&(((bQ s z).f0.f2)==I)))=false:=by simpa using c7
     (try(have aS:decide ((((bQ s z).f0.f0).toList)=E.toList&&(((bQ s z).f0.f1)==F&&(((bQ s z).f0.f2)==I)))=false:=by simpa using c7))
     (try(have a0:((((bQ s z).f0.f0).toList)==E.toList&&(((bQ s z).f0.f1)==F&&(((bQ s z).f0.f2)==I)))=false:=by simpa using c7))
     (try(have c7b3:¬((((bQ s z).f0.f0).toList)=E.toList&&(((bQ s z).f0.f1)==F&&(((bQ s z).f0.f2)==I))):=by simpa using c7))
     clear c7;have H':=ah.mk H;clear H;have hnb11:=J.out;have hnc11:=L.out;have hcz12_0:=z3 D;have ab:0≤(z:Int):=oA;have ac:z<(s.length:Int):=oA;obtain⟨aF,ar,O,T,U,X⟩:=xA ao.out z ab ac;cases ar;replace O:=hc O;replace T:=hc T;replace U:=hc U;replace X:=hc X;replace ab:=eq_true ab;replace ac:=eq_true ac;have hcz13_0:=z3 Y;go_wp2;repeat(go_quiet (fail);try go_wp2)
     go_roundg k1
     case measure=>have:=aO.out;omega
     case rel=>exact⟨(wrap64 (z+1)),rS,H',⟨by have:=aO.out;omega⟩,⟨kd D⟩,⟨kd Y⟩,⟨hB⟩⟩
   .have aP:=decide_eq_false c5
    clear c5;simp only[Option.some.injEq,Prod.mk.injEq]at H;obtain⟨rfl,rfl⟩:=H;have hnb14:=J.out;have hnc14:=L.out;have hcz15_0:=z3 D;go_wp2;repeat(go_quiet (fail);try go_wp2)
    go_ret2;exact⟨rW,hB⟩
end Go.Proofs.Ct.Q
namespace Go.Proofs.Ct.Q
open Go.RowKit Go.Proofs.aA.ak Go.Proofs.aA.aC Go.Proofs.aA.aG Go.Proofs.bO
theorem UM(ys:List Int)(a:Int):rd (ys++[a]) (ys.length:Int)=a:=by
 unfold rd;simp[List.getD_eq_getElem?_getD]
theorem FJ(n:Nat):∀x:List Int,x.length=n->n<4611686018427387904->∀k,n<k->dQ.l0 k x=some (dU x):=by
 induction n with
 |zero=>
  intro x hx _ k hk;obtain rfl:=List.eq_nil_of_length_eq_zero hx;obtain⟨k,rfl⟩:∃m,k=m+1:=⟨k-1,by omega⟩;simp[dQ.l0,dU]
 |succ n ih=>
  intro x hx hn k hk;obtain⟨k,rfl⟩:∃m,k=m+1:=⟨k-1,by omega⟩;obtain⟨ys,a,rfl⟩:∃ys a,x=ys++[a]:=by
   rcases List.eq_nil_or_concat x with h|⟨ys,a,h⟩
   .rw[h]at hx;simp at hx
   .exact⟨ys,a,by simpa using h⟩
  have hl:ys.length=n:=by simpa using hx
  have hlen:((ys++[a]).length:Int)=(n:Int)+1:=by rw[hx];push_cast;rfl
  have hw:wrap64 ((n:Int)+1-1)=(n:Int):=by unfold wrap64;omega
  simp only[dQ.l0];rw[hlen,hw,if_pos (by omega),if_pos (by omega),if_pos (by omega),oK,<-hl,UM];by_cases h:a=0
  .rw[if_pos h,if_pos h,if_pos (by omega)]
   simp only[Int.toNat_natCast];rw[List.take_left];exact ih ys hl (by omega) k (by omega)
  .rw[if_neg h,if_neg h]
theorem Sz(x:List Int)(h:x.length<4611686018427387904):dQ.f (x.length+1) x=some (dU x):=FJ x.length x rfl h _ (by omega)
theorem Qa(x:List Int)(m:Bool)(h:x.length<4611686018427387904):dJ.f (x.length+1) x m=some (m&&decide (0<(dU x).length),dU x):=by
 unfold dJ.f;rw[Sz x h];cases m<;>simp
theorem tY(x:List Int)(k:Nat)(h:x.length<4611686018427387904)(hk:x.length<k):dQ.f k x=some (dU x):=FJ x.length x rfl h _ hk
theorem Ak(x:List Int)(m:Bool)(k:Nat)(h:x.length<4611686018427387904)(hk:x.length<k):dJ.f k x m=some (m&&decide (0<(dU x).length),dU x):=by
 unfold dJ.f;rw[tY x k h hk];cases m<;>simp
theorem eG{x:Int}(h0: -9223372036854775808≤x)(h1:x≤9223372036854775807):wrap64 x=x:=by unfold wrap64;omega
theorem jB{x:Int}(h0:0≤x)(h1:x<18446744073709551616):IntKind.u64.wrap x=x:=by
 rw[IntKind.wrap_u64];omega
theorem KY(l:List Int)(i:Nat):rd l (i:Int)=l.getD i 0:=by simp[rd]
theorem iw{l:List Int}{i:Nat}(h:i<l.length):rd l (i:Int)=l[i]:=by rw[KY];simp[List.getD_eq_getElem?_getD,h]
abbrev R:Nat:=10000
theorem R2:2≤R:=by decide
theorem U5(n:Nat):∀(k:Nat)(acc:List Int),n<18446744073709551616->(limbs R n).length<k->acc.length+(limbs R n).length<17592186044416->bq.l0 k (n:Int) acc=some (acc++limbs R n):=by
 induction n using Nat.strongRecOn with
 |_ n ih=>
  intro k acc hn hk ha;obtain⟨k,rfl⟩:∃m,k=m+1:=⟨k-1,by omega⟩;simp only[bq.l0];by_cases h0:n=0
  .subst h0;rw[if_neg (by omega),bZ];simp
  .have hl:=iL R2 h0
   have hlen:(limbs R n).length=(limbs R (n/R)).length+1:=by rw[hl];rfl
   rw[if_pos (by omega),if_pos (by omega)];have e1:IntKind.u64.wrap (Int.tdiv (n:Int) 10000)=((n/R:Nat):Int):=by
    rw[Int.tdiv_eq_ediv_of_nonneg (by omega),jB (by omega) (by omega)];rfl
   have e2:wrap64 (Int.tmod (n:Int) 10000)=((n% R:Nat):Int):=by
    rw[Int.tmod_eq_emod_of_nonneg (by omega),eG (by omega) (by omega)];rfl
   rw[e1,e2,ih (n/R) (Nat.div_lt_self (by omega) (by decide)) k _ (by have:=Nat.div_le_self n R;omega) (by omega) (by rw[List.length_append];simp;omega),hl];simp
theorem yG(n:Nat)(h:n<18446744073709551616):(limbs R n).length≤5:=by
 have e:R^5=100000000000000000000:=by decide
 exact gB R2 5 n (by omega)
theorem Xw(l:List Int)(hl:l.length<4611686018427387904)(n:Nat):∀k,n<k->n≤l.length->bL.l0 k l (n:Int)=some (dU (l.take n)):=by
 induction n with
 |zero=>
  intro k hk _;obtain⟨k,rfl⟩:∃m,k=m+1:=⟨k-1,by omega⟩;simp[bL.l0,dU]
 |succ n ih=>
  intro k hk hn;obtain⟨k,rfl⟩:∃m,k=m+1:=⟨k-1,by omega⟩;simp only[bL.l0];have e:wrap64 (((n+1:Nat):Int)-1)=(n:Int):=by rw[eG (by omega) (by omega)];omega
  rw[e,if_pos (by omega),if_pos (by omega),if_pos (by omega),iw (by omega:n<l.length),List.take_succ_eq_append_getElem (by omega),oK];by_cases h:l[n]=0
  .rw[if_pos h,if_pos h];exact ih k (by omega) (by omega)
  .rw[if_neg h,if_neg h,if_pos (by omega),if_pos (by omega)]
   simp only[Int.toNat_natCast];rw[List.take_succ_eq_append_getElem (by omega)]
theorem wE(l:List Int)(hl:l.length<4611686018427387904):∀k,l.length<k->bL.f k l=some (dU l):=by
 intro k hk;unfold bL.f;rw[Xw l hl l.length k hk (Nat.le_refl _),List.take_length]
theorem SS(s:ByteArray)(hs:s.size<4611686018427387904)(d:Nat):∀(k i:Nat),s.size-i=d->d<k->i≤s.size->
  bC.l0 k s (i:Int)=some ((List.range' i d).all λ j=>decide (48≤bt s (j:Int))&&decide (bt s (j:Int)≤57)):=by
 induction d with
 |zero=>
  intro k i hd hk hi;obtain⟨k,rfl⟩:∃m,k=m+1:=⟨k-1,by omega⟩;simp only[bC.l0];rw[if_neg (by omega)];rfl
 |succ d ih=>
  intro k i hd hk hi;obtain⟨k,rfl⟩:∃m,k=m+1:=⟨k-1,by omega⟩;simp only[bC.l0];rw[if_pos (by omega),if_pos (by omega),List.range'_succ,List.all_cons];have e:wrap64 ((i:Int)+1)=((i+1:Nat):Int):=by rw[eG (by omega) (by omega)];omega
  by_cases h1:bt s i<48
  .rw[if_pos h1,decide_eq_false (show¬48≤bt s i by omega)];simp
  .rw[if_neg h1,decide_eq_true (show 48≤bt s i by omega)]
   by_cases h2:bt s i>57
   .rw[if_pos h2,decide_eq_false (show¬bt s i≤57 by omega)];simp
   .rw[if_neg h2,decide_eq_true (show bt s i≤57 by omega),e,ih k (i+1) (by omega) (by omega) (by omega)];simp
def wZ(s:ByteArray):Bool:=(List.range s.size).all λ j=>decide (48≤bt s (j:Int))&&decide (bt s (j:Int)≤57)
def l9(s:ByteArray):Bool:=decide (0<s.size)&&decide (s.size≤300)&& !(decide (1<s.size)&&(bt s 0==48))&&wZ s
theorem Qb(s:ByteArray):bC.f 303 s=some (l9 s):=by
 unfold bC.f l9;by_cases h0:s.size=0
 .rw[if_pos (by omega)];simp[bC.j0,h0]
 .rw[if_neg (by omega),decide_eq_true (show 0<s.size by omega)]
  by_cases h1:s.size>300
  .rw[if_pos (by omega),decide_eq_false (show¬s.size≤300 by omega)];simp[bC.j0]
  .rw[if_neg (by omega),decide_eq_true (show s.size≤300 by omega)]
   have hd:=SS s (by omega) s.size 302 0 (by omega) (by omega) (by omega);have hd':bC.l0 302 s 0=some (wZ s):=by
    have e:((0:Nat):Int)=0:=rfl;rw[e]at hd;rw[hd,wZ,List.range_eq_range']
   by_cases h2:s.size>1
   .rw[if_pos (by omega),if_pos (by omega),decide_eq_true (show 1<s.size by omega)]
    cases hb:(bt s 0==48)with
    |true=>simp[bC.j0]
    |false=>simp[bC.j0,hd']
   .rw[if_neg (by omega),decide_eq_false (show¬1<s.size by omega)]
    simp[bC.j0,hd']
theorem IE(a:Int):dx.f a=some (xD a):=by
 unfold dx.f xD;by_cases h1:a≥97
 .rw[if_pos h1,decide_eq_true (show 97≤a from h1),Bool.true_and]
  by_cases h2:a≤122
  .rw[if_pos h2,decide_eq_true h2];rfl
  .rw[if_neg h2,if_pos (by omega),decide_eq_false h2,decide_eq_true (show 65≤a by omega)];rfl
 .rw[if_neg h1,decide_eq_false (show¬97≤a from h1)]
  by_cases h3:a≥65
  .rw[if_pos h3,decide_eq_true (show 65≤a from h3)];rfl
  .rw[if_neg h3,decide_eq_false (show¬65≤a from h3)];rfl
theorem Sl(a:Int):dM.f a=some (decide (48≤a)&&decide (a≤57)):=by
 unfold dM.f;by_cases h:a≥48
 .rw[if_pos h,decide_eq_true (show 48≤a from h)];rfl
 .rw[if_neg h,decide_eq_false (show¬48≤a from h)];rfl
theorem Sm(a:Int)(h0:0≤a)(h1:a≤255):yx a=(decide (a=95)||decide (a=46)||decide (a=91)||decide (a=93)||decide (a=44)||decide (a=39)):=by
 have h:∀k:Fin 256,yx ((k.val:Nat):Int)=(decide (((k.val:Nat):Int)=95)||decide (((k.val:Nat):Int)=46)||decide (((k.val:Nat):Int)=91)||decide (((k.val:Nat):Int)=93)||decide (((k.val:Nat):Int)=44)||decide (((k.val:Nat):Int)=39)):=by decide+kernel
 have h2:=h ⟨a.toNat,by omega⟩;have e:(((a.toNat:Nat)):Int)=a:=by omega
 simp only[e]at h2;exact h2
theorem Sn(s:ByteArray)(hs:s.size<4611686018427387904)(d:Nat):∀(k i:Nat),s.size-i=d->d<k->i≤s.size->
  aT.l0 k s (i:Int)=some ((List.range' i d).all λ j=>nX (bt s (j:Int))):=by
 induction d with
 |zero=>
  intro k i hd hk hi;obtain⟨k,rfl⟩:∃m,k=m+1:=⟨k-1,by omega⟩;simp only[aT.l0];rw[if_neg (by omega)];rfl
 |succ d ih=>
  intro k i hd hk hi;obtain⟨k,rfl⟩:∃m,k=m+1:=⟨k-1,by omega⟩;have hr:=Ko s i;have hm:=Sm (bt s i) hr.1 hr.2;have hih:=ih k (i+1) (by omega) (by omega) (by omega);simp only[aT.l0];rw[if_pos (by omega),if_pos (by omega),List.range'_succ,List.all_cons,IE,Option.bind_some,Sl,Option.bind_some];have e:wrap64 ((i:Int)+1)=((i+1:Nat):Int):=by rw[eG (by omega) (by omega)];omega
  rw[e,hih];unfold nX;cases h1:xD (bt s i)with
  |true=>simp
  |false=>
   rw[if_neg (by simp)];cases h2:(decide (48≤bt s i)&&decide (bt s i≤57))with
   |true=>simp
   |false=>
    rw[if_neg (by simp),hm];by_cases a1:bt s i=95
    .rw[if_pos a1];simp[a1]
    by_cases a2:bt s i=46
    .rw[if_neg a1,if_pos a2];simp[a2]
    by_cases a3:bt s i=91
    .rw[if_neg a1,if_neg a2,if_pos a3];simp[a3]
    by_cases a4:bt s i=93
    .rw[if_neg a1,if_neg a2,if_neg a3,if_pos a4];simp[a4]
    by_cases a5:bt s i=44
    .rw[if_neg a1,if_neg a2,if_neg a3,if_neg a4,if_pos a5];simp[a5]
    by_cases a6:bt s i=39
    .rw[if_neg a1,if_neg a2,if_neg a3,if_neg a4,if_neg a5,if_pos a6];simp[a6]
    rw[if_neg a1,if_neg a2,if_neg a3,if_neg a4,if_neg a5,if_neg a6];simp[a1,a2,a3,a4,a5,a6]
theorem Ii(s:ByteArray)(k:Nat)(hk:100<k):aT.f k s=some (iP s):=by
 obtain⟨k,rfl⟩:∃m,k=m+1:=⟨k-1,by omega⟩;unfold aT.f iP;by_cases h0:s.size=0
 .rw[if_pos (by omega)];simp[aT.j0,h0]
 .rw[if_neg (by omega),decide_eq_true (show 0<s.size by omega)]
  by_cases h1:s.size>80
  .rw[if_pos (by omega),decide_eq_false (show¬s.size≤80 by omega)];simp[aT.j0]
  .rw[if_neg (by omega),decide_eq_true (show s.size≤80 by omega),if_pos (by omega),IE,Option.bind_some]
   have hl:=Sn s (by omega) s.size k 0 (by omega) (by omega) (by omega);have e0:((0:Nat):Int)=0:=rfl;rw[e0,<-List.range_eq_range']at hl;simp only[aT.j0];cases h2:xD (bt s 0)with
   |true=>rw[if_neg (by simp),hl];simp
   |false=>simp
def ny(n:ByteArray)(o:Int)(p:Bool):Bool:=iP n&&decide (0≤o)&&decide (o≤6)&&(!p||(o==0))
theorem RB(n:ByteArray)(o:Int)(p:Bool)(k:Nat)(hk:100<k):jd.f k n o p=some (ny n o p):=by
 unfold jd.f ny;rw[Ii n k hk,Option.bind_some];cases iP n with
 |false=>simp
 |true=>
  rw[if_pos rfl,Bool.true_and];by_cases h1:o≥0
  .rw[if_pos h1,decide_eq_true (show 0≤o from h1),Bool.true_and]
   by_cases h2:o≤6
   .rw[if_pos h2,decide_eq_true h2];cases p<;>simp
   .rw[if_neg h2,decide_eq_false h2];simp
  .rw[if_neg h1,decide_eq_false (show¬0≤o from h1)];simp
theorem WW(n:ByteArray)(o:Int)(p:Bool):uj.f n o p=some (ny n o p):=by
 unfold uj.f ny lG.f;rw[Option.bind_some];cases iP n with
 |false=>simp
 |true=>
  rw[if_pos rfl,Bool.true_and];by_cases h1:o≥0
  .rw[if_pos h1,decide_eq_true (show 0≤o from h1),Bool.true_and]
   by_cases h2:o≤6
   .rw[if_pos h2,decide_eq_true h2];cases p<;>simp
   .rw[if_neg h2,decide_eq_false h2];simp
  .rw[if_neg h1,decide_eq_false (show¬0≤o from h1)];simp
theorem KD:∀a b:List UInt8,(Lib.compareBytes a b<0↔Op.bytesLess a b=true)
 |[],[]=>by simp[Lib.compareBytes,Op.bytesLess]
 |[],_::_=>by simp[Lib.compareBytes,Op.bytesLess]
 |_::_,[]=>by simp[Lib.compareBytes,Op.bytesLess]
 |a::la,b::lb=>by
  have ih:=KD la lb;unfold Lib.compareBytes Op.bytesLess;by_cases h1:a<b
  .simp[h1]
  .rw[if_neg h1,decide_eq_false h1,Bool.false_or]
   by_cases h2:b<a
   .have hne:(a==b)=false:=by
     apply beq_eq_false_iff_ne.2;intro e;subst e;exact h1 h2
    rw[if_pos h2,hne];simp
   .have he:a=b:=by
     apply UInt8.toNat_inj.1;have h3:¬a.toNat<b.toNat:=h1;have h4:¬b.toNat<a.toNat:=h2;omega
    subst he;rw[if_neg h2,ih];simp
def jc(n1:ByteArray)(o1:Int)(p1:Bool)(n2:ByteArray)(o2:Int)(p2:Bool):Bool:=
 if n1.toList=n2.toList then(if(p1 !=p2)=true then p2 else decide (o1<o2))else Op.bytesLess n1.toList n2.toList
theorem O7(n1:ByteArray)(o1:Int)(p1:Bool)(n2:ByteArray)(o2:Int)(p2:Bool):iQ.f n1 o1 p1 n2 o2 p2=some (jc n1 o1 p1 n2 o2 p2):=by
 unfold iQ.f jc;split
 .split<;>rfl
 .rfl
theorem Sq(n1:ByteArray)(o1:Int)(p1:Bool)(n2:ByteArray)(o2:Int)(p2:Bool)(h1:0≤o1∧o1≤6)(h2:0≤o2∧o2≤6)(k:Nat)(hk:2<k):
  ∃c,gZ.f k n1 o1 p1 n2 o2 p2=some c∧decide (c≥0)= !jc n1 o1 p1 n2 o2 p2:=by
 obtain⟨k,rfl⟩:∃m,k=m+1:=⟨k-1,by omega⟩;unfold gZ.f jc;by_cases hn:n1.toList=n2.toList
 .rw[if_pos hn,if_pos hn]
  by_cases hp:(p1 !=p2)=true
  .rw[if_pos hp,if_pos hp]
   simp only[gZ.j0];cases p2 with
   |true=>exact⟨-1,by simp,by simp⟩
   |false=>exact⟨1,by rw[if_neg (by simp),if_pos hp],by simp⟩
  .rw[if_neg hp,if_neg hp]
   simp only[gZ.j0];refine⟨o1-o2,by rw[if_neg (by simp),if_neg hp,eG (by omega) (by omega)],?_⟩;by_cases h:o1<o2
   .rw[decide_eq_true h,decide_eq_false (by omega)];rfl
   .rw[decide_eq_false h,decide_eq_true (by omega)];rfl
 .rw[if_neg hn,if_neg hn]
  unfold strings_Compare.f;rw[Option.bind_some];refine⟨_,rfl,?_⟩;have h:=KD n1.data.toList n2.data.toList;rw[<-Lib.toList_data,<-Lib.toList_data]at h;rw[<-Lib.toList_data,<-Lib.toList_data];cases hb:Op.bytesLess n1.toList n2.toList with
  |true=>rw[hb]at h;have:=h.2 rfl;rw[decide_eq_false (by omega)];rfl
  |false=>rw[hb]at h;have h2:¬Lib.compareBytes n1.toList n2.toList<0:=λ x=>by have:=h.1 x;simp at this
          rw[decide_eq_true (by omega)];rfl
theorem xG:∀a,Op.bytesLess a a=false
 |[]=>rfl
 |x::a=>by unfold Op.bytesLess;rw[xG a];simp[UInt8.lt_irrefl]
theorem yE:∀a b c,Op.bytesLess a b=true->Op.bytesLess b c=true->Op.bytesLess a c=true
 |_,[],_,h,_=>by unfold Op.bytesLess at h;simp at h
 |_,_::_,[],_,h=>by unfold Op.bytesLess at h;simp at h
 |[],_::_,_::_,_,_=>rfl
 |x::a,y::b,z::c,h1,h2=>by
  unfold Op.bytesLess at h1 h2|-
  rw[Bool.or_eq_true,Bool.and_eq_true,decide_eq_true_eq,beq_iff_eq]at h1 h2|-
  rcases h1 with h1|⟨h1,g1⟩<;>rcases h2 with h2|⟨h2,g2⟩
  .exact .inl (UInt8.lt_trans h1 h2)
  .subst h2;exact .inl h1
  .subst h1;exact .inl h2
  .exact .inr ⟨h1.trans h2,yE a b c g1 g2⟩
theorem Jb{n1 n2 n3:ByteArray}{o1 o2 o3:Int}{p1 p2 p3:Bool}(h1:jc n1 o1 p1 n2 o2 p2=true)(h2:jc n2 o2 p2 n3 o3 p3=true):jc n1 o1 p1 n3 o3 p3=true:=by
 unfold jc at*
 by_cases e1:n1.toList=n2.toList<;>by_cases e2:n2.toList=n3.toList
 .rw[if_pos e1]at h1;rw[if_pos e2]at h2;rw[if_pos (e1.trans e2)]
  cases p1<;>cases p2<;>cases p3<;>simp_all<;>omega
 .rw[if_pos e1]at h1;rw[if_neg e2]at h2;rw[if_neg (by rw[e1];exact e2),e1];exact h2
 .rw[if_neg e1]at h1;rw[if_pos e2]at h2;rw[if_neg (by rw[<-e2];exact e1),<-e2];exact h1
 .rw[if_neg e1]at h1;rw[if_neg e2]at h2
  have h3:=yE _ _ _ h1 h2;rw[if_neg (λ e=>by rw[e,xG]at h3;simp at h3)];exact h3
end Go.Proofs.Ct.Q
section
namespace Go.Proofs.bO
open Go.Proofs.aA.ak Go.Proofs.aA.aC Go.Proofs.aA.aG
def fG(t:ByteArray)(lo:Nat):Nat->Int
 |0=>0
 |m+1=>10*fG t lo m+(bt t ((lo+m:Nat):Int)-48)
def uT(d:Nat)(t:ByteArray):Nat->List Int
 |0=>[]
 |j+1=>uT d t j++[fG t (t.size-d*j-d) (t.size-d*j-(t.size-d*j-d))]
def qY(t:ByteArray):Prop:=∀i:Nat,i<t.size->48≤bt t (i:Int)∧bt t (i:Int)≤57
def bX(t:ByteArray):Nat:=(fG t 0 t.size).toNat
theorem nS{t:ByteArray}(hd:qY t)(lo:Nat):∀m:Nat,lo+m≤t.size->0≤fG t lo m∧fG t lo m<10^m
 |0,_=>by simp[fG]
 |m+1,h=>by
  have h1:=nS hd lo m (by omega);have h2:=hd (lo+m) (by omega);unfold fG;rw[Int.pow_succ];omega
theorem Ag(t:ByteArray)(lo a:Nat):∀b,fG t lo (a+b)=fG t lo a*10^b+fG t (lo+a) b
 |0=>by simp[fG]
 |b+1=>by
  rw[<-Nat.add_assoc,show fG t lo (a+b+1)=10*fG t lo (a+b)+(bt t ((lo+(a+b):Nat):Int)-48)from rfl,show fG t (lo+a) (b+1)=10*fG t (lo+a) b+(bt t ((lo+a+b:Nat):Int)-48)from rfl];rw[Ag t lo a b,Int.pow_succ,Nat.add_assoc lo a b];have:fG t lo a*(10^b*10)=10*(fG t lo a*10^b):=by rw[<-Int.mul_assoc,Int.mul_comm 10]
  omega
theorem sD(d:Nat)(t:ByteArray):∀j,(uT d t j).length=j
 |0=>rfl
 |j+1=>by unfold uT;rw[List.length_append,sD d t j];rfl
theorem MH(d:Nat)(t:ByteArray):∀j,val (10^d) (uT d t j)=fG t (t.size-d*j) (t.size-(t.size-d*j))
 |0=>by simp[uT,val,fG]
 |j+1=>by
  unfold uT;rw[kT,MH d t j,sD];have e:t.size-d*(j+1)=t.size-d*j-d:=by rw[Nat.mul_succ,<-Nat.sub_sub]
  rw[e];by_cases h:d*j≤t.size
  .have e2:t.size-(t.size-d*j-d)=(t.size-d*j-(t.size-d*j-d))+d*j:=by omega
   rw[e2,Ag];have e3:t.size-d*j-d+(t.size-d*j-(t.size-d*j-d))=t.size-d*j:=by omega
   have e4:t.size-(t.size-d*j)=d*j:=by omega
   rw[e3,e4,<-Int.pow_mul,Int.mul_comm ((10:Int)^(d*j)),Int.add_comm]
  .have e0:t.size-d*j=0:=by omega
   simp[e0,fG]
theorem MI{t:ByteArray}(hd:qY t)(d:Nat):∀j,inr (10^d) (uT d t j)
 |0=>lQ _
 |j+1=>by
  unfold uT;refine nT.2 ⟨MI hd d j,kX.2 ⟨?_,lQ _⟩⟩;have h:=nS hd (t.size-d*j-d) (t.size-d*j-(t.size-d*j-d)) (by omega);refine⟨h.1,Int.lt_of_lt_of_le h.2 ?_⟩
  exact_mod_cast Nat.pow_le_pow_right (by decide:0<10) (by omega:t.size-d*j-(t.size-d*j-d)≤d)
theorem Ur{t:ByteArray}(d j:Nat)(h:t.size≤d*j):val (10^d) (uT d t j)=fG t 0 t.size:=by
 rw[MH];have e0:t.size-d*j=0:=by omega
 rw[e0];rfl
theorem Il{t:ByteArray}(hd:qY t):((bX t:Nat):Int)=fG t 0 t.size:=by
 unfold bX;have:=(nS hd 0 t.size (by omega)).1;omega
theorem GR{t:ByteArray}(hd:qY t):bX t<10^t.size:=by
 have:=(nS hd 0 t.size (by omega)).2;rw[<-Il hd]at this
 exact_mod_cast this
theorem Im{t:ByteArray}(hd:qY t)(d j:Nat)(h0:0<d)(h:t.size≤d*j):dU (uT d t j)=limbs (10^d) (bX t):=by
 have hb:2≤10^d:=by
  have:=Nat.pow_le_pow_right (by decide:0<10) (by omega:1≤d);omega
 have hi:inr (((10^d:Nat):Int)) (uT d t j):=by have:=MI hd d j;exact_mod_cast this
 rw[sF hb hi];have:val (((10^d:Nat):Int)) (uT d t j)=fG t 0 t.size:=by have:=Ur (t:=t) d j h;exact_mod_cast this
 rw[this];rfl
end Go.Proofs.bO
namespace Go.Proofs.Ct.Q
open Go.RowKit Go.Proofs.aA.ak Go.Proofs.aA.aC Go.Proofs.aA.aG Go.Proofs.bO
theorem qH(s:ByteArray):wZ s=true↔qY s:=by
 unfold wZ qY;rw[List.all_eq_true];simp only[List.mem_range,Bool.and_eq_true,decide_eq_true_eq]
theorem NC(s:ByteArray)(hd:qY s)(hs:s.size<100000)(acc:List Int)(ha:acc.length<100000)(e lo:Nat)(he:e≤s.size)(hle:lo≤e)(h4:e≤lo+4)(x4:Int)(hx:x4=e)(n:Nat):∀(k m:Nat),e-(lo+m)=n->lo+m≤e->n<k->
  bJ.l1 k s acc x4 (fG s lo m) ((lo+m:Nat):Int)=bJ.l0 (k-1-n) s (acc++[fG s lo (e-lo)]) (x4-4):=by
 subst hx;induction n with
 |zero=>
  intro k m hn hm hk;obtain⟨k,rfl⟩:∃m,k=m+1:=⟨k-1,by omega⟩;simp only[bJ.l1];have e1:e-lo=m:=by omega
  rw[if_neg (by omega),if_pos (by omega),eG (by omega) (by omega),e1];rfl
 |succ n ih=>
  intro k m hn hm hk;obtain⟨k,rfl⟩:∃m,k=m+1:=⟨k-1,by omega⟩;simp only[bJ.l1];have hih:=ih k (m+1) (by omega) (by omega) (by omega);have hb:=hd (lo+m) (by omega);have hr:=nS hd lo m (by omega);have hp:(10:Int)^m≤10^4:=by exact_mod_cast Nat.pow_le_pow_right (by decide:0<10) (by omega:m≤4)
  have hp4:(10:Int)^4=10000:=by decide
  rw[if_pos (by omega),if_pos (by omega),if_pos (by omega)];have ev:wrap64 (wrap64 (10*fG s lo m)+(bt s ((lo+m:Nat):Int)-48)% 256)=fG s lo (m+1):=by
   rw[eG (x:=10*fG s lo m) (by omega) (by omega),Int.emod_eq_of_lt (by omega) (by omega),eG (by omega) (by omega)];rfl
  have ei:wrap64 (((lo+m:Nat):Int)+1)=((lo+(m+1):Nat):Int):=by rw[eG (by omega) (by omega)];omega
  rw[ev,ei,hih,show k+1-1-(n+1)=k-1-n from by rw[Nat.add_sub_cancel,Nat.add_comm n 1,Nat.sub_sub]]
theorem ND(s:ByteArray)(hd:qY s)(hs:s.size<10000)(n:Nat):∀(k j:Nat),s.size-4*j=n->4*j≤s.size+3->4*n+s.size+j+5<k->
  bJ.l0 k s (uT 4 s j) ((s.size:Int)-4*j)=some (limbs R (bX s)):=by
 induction n using Nat.strongRecOn with
 |_ n ih=>
  intro k j hn hj hk;obtain⟨k,rfl⟩:∃m,k=m+1:=⟨k-1,by omega⟩;simp only[bJ.l0];by_cases h:s.size>4*j
  .rw[if_pos (by omega)]
   have el:mx 0 (wrap64 ((s.size:Int)-4*j-4))=((s.size-4*j-4:Nat):Int):=by
    rw[eG (by omega) (by omega)];unfold mx;split<;>omega
   rw[el];have:=NC s hd (by omega) (uT 4 s j) (by rw[sD];omega) (s.size-4*j) (s.size-4*j-4) (by omega) (by omega) (by omega) ((s.size:Int)-4*j) (by omega)
    (s.size-4*j-(s.size-4*j-4)) k 0 (by omega) (by omega) (by omega)
   have e0:((s.size-4*j-4+0:Nat):Int)=((s.size-4*j-4:Nat):Int):=by simp
   rw[e0]at this;rw[show fG s (s.size-4*j-4) 0=0 from rfl]at this;rw[this];have e1:(s.size:Int)-4*j-4=(s.size:Int)-4*((j+1:Nat):Int):=by omega
   rw[e1];have:=ih (s.size-4*(j+1)) (by omega) (k-1-(s.size-4*j-(s.size-4*j-4))) (j+1) rfl (by omega) (by omega);rw[uT]at this;exact this
  .rw[if_neg (by omega),wE _ (by rw[sD];omega) k (by rw[sD];omega),Option.bind_some,Im hd 4 j (by decide) (by omega)]
theorem NG(s:ByteArray)(hd:qY s)(hs:s.size<10000)(k:Nat)(hk:5*s.size+5<k):bJ.f k s=some (limbs R (bX s)):=by
 have:=ND s hd hs s.size k 0 (by omega) (by omega) (by omega);unfold bJ.f;have e:(s.size:Int)-4*((0:Nat):Int)=s.size:=by simp
 rw[e]at this;exact this
end Go.Proofs.Ct.Q
end
namespace Go.Proofs.Ct.Q
open Go.Shelf Go.RowKit Go.Proofs.aA.ak Go.Proofs.aA.aC Go.Proofs.aA.aG Go.Proofs.bO
attribute [local go_sem] aW aX bA bB
attribute [local go_sem] aW aX bA bB
def fK(s:ByteArray):ByteArray:=⟨(Lib.trimPrefix s.data.toList [45]).toArray⟩
def iF(s:ByteArray):Bool:=Lib.hasPrefix s.data.toList [45]
def yA(t:ByteArray):List UInt8:=Lib.trimS t.data.toList [48,49,50,51,52,53,54,55,56,57]
def gD(t:ByteArray)(m:Bool):Bool:=decide (0<t.size)&& !((bt t 0==48)&&(decide (1<t.size)||m))&&(yA t).isEmpty
def lY(t:ByteArray)(lo:Nat):Nat->Int
 |0=>0
 |m+1=>10*lY t lo m+(bt t ((lo+m:Nat):Int)-48)
def pw(t:ByteArray):Nat->List Int
 |0=>[]
 |j+1=>pw t j++[lY t (t.size-9*j-9) (t.size-9*j-(t.size-9*j-9))]
theorem BU(t:ByteArray):∀j,(pw t j).length=j
 |0=>rfl
 |j+1=>by unfold pw;rw[List.length_append,BU t j];rfl
theorem dropWhile_nil{p:UInt8->Bool}:∀{l:List UInt8},l.dropWhile p=[]->∀c∈l,p c=true
 |[],_,c,hc=>by simp at hc
 |x::l,h,c,hc=>by
  by_cases hx:p x=true
  .rw[List.dropWhile_cons_of_pos hx]at h
   rcases List.mem_cons.1 hc with rfl|hc
   .exact hx
   .exact dropWhile_nil h c hc
  .rw[List.dropWhile_cons_of_neg hx]at h;simp at h
theorem Iu{l cs:List UInt8}(h:Lib.trimS l cs=[]):∀c∈l,cs.contains c=true:=by
 intro c hc;unfold Lib.trimS Lib.trimLeftS Lib.trimRightS at h;have h1:=dropWhile_nil h;by_cases hp:c∈l.reverse.dropWhile (cs.contains ·)
 .exact h1 c (List.mem_reverse.2 hp)
 .have h2:=List.takeWhile_append_dropWhile (p:=(cs.contains ·)) (l:=l.reverse)
  have h3:c∈l.reverse:=List.mem_reverse.2 hc;rw[<-h2,List.mem_append]at h3;rcases h3 with h3|h3
  .have:=List.all_takeWhile (p:=(cs.contains ·)) (l:=l.reverse)
   exact List.all_eq_true.1 this c h3
  .exact absurd h3 hp
theorem MN:∀c:UInt8,[48,49,50,51,52,53,54,55,56,57].contains c=true->48≤c.toNat∧c.toNat≤57:=by
 have:∀k:Fin 256,[48,49,50,51,52,53,54,55,56,57].contains (UInt8.ofNat k.val)=true->48≤(UInt8.ofNat k.val).toNat∧(UInt8.ofNat k.val).toNat≤57:=by decide+kernel
 intro c hc;have h:=this ⟨c.toNat,c.toNat_lt⟩;simp only[UInt8.ofNat_toNat]at h;exact h hc
theorem Kq{t:ByteArray}{m:Bool}(h:gD t m=true)(i:Nat)(hi:i<t.size):48≤bt t i∧bt t i≤57:=by
 unfold gD at h;rw[Bool.and_eq_true]at h;have h1:=Iu (List.isEmpty_iff.1 h.2) (t[i]'hi) (by
  have:t[i]=t.data.toList[i]'(by simpa using hi):=by rw[Array.getElem_toList];rfl
  rw[this];exact List.getElem_mem _)
 have h2:=MN _ h1;have h3:=iX t i (by simpa using hi);rw[<-h3];simp only[Int.toNat_natCast];omega
theorem Dz(t:ByteArray)(lo:Nat)(hd:∀i:Nat,i<t.size->48≤bt t i∧bt t i≤57):∀m:Nat,lo+m≤t.size->0≤lY t lo m∧lY t lo m<10^m
 |0,_=>by simp[lY]
 |m+1,h=>by
  have h1:=Dz t lo hd m (by omega);have h2:=hd (lo+m) (by omega);unfold lY;rw[Int.pow_succ];omega
theorem UC(m:Nat)(h:m≤8):(10:Int)^m≤100000000:=by
 have:∀k:Fin 9,(10:Int)^k.val≤100000000:=by decide
 exact this ⟨m,by omega⟩
theorem Fp(t:ByteArray)(w:World)(ht:t.size≤9223372036854775807):
  Calls Tryz.prog 229 #[.string t,.string ⟨#[48,49,50,51,52,53,54,55,56,57]⟩] w λ e w'=>e= .returned (.string ⟨(yA t).toArray⟩)∧Below w.heap.size w w':=
 Tryz.trim_any t _ w ht (by decide) (ascii_of_all (by decide))
def Wh(w:World)(t:ByteArray)(m:Bool)(e:Ending)(w':World):Prop:=∃s:Value,
 e= .returned (.tuple #[.agg #[.bool (gD t m&&(m&&decide (0<(dU (pw t ((t.size+8)/9))).length))),s],.bool (gD t m)])∧
 Kd.V (Kd.int .u32) 328 w' w.heap.size (λ k_=>w.heap.size≤k_) s (if gD t m then dU (pw t ((t.size+8)/9))else [])∧Below w.heap.size w w'
set_option maxHeartbeats 4000000 in
set_option maxRecDepth 100000 in
theorem P_(s:ByteArray)(w:World)(hsz0:(fK s).size<4294967281):
  Calls Tryz.prog 126 #[.string s] w λ e w'=>Wh w (fK s) (iF s) e w':=by
 have hcp:∀W:World,Calls Tryz.prog 228 #[.string s,.string ⟨#[45]⟩] W λ e w'=>e= .returned (.tuple #[.string (fK s),.bool (iF s)])∧w'=W:=λ W=>Tryz.strings_CutPrefix s _ W;have ht:(fK s).size≤9223372036854775807:=by omega
 generalize fK s=t at ht hcp hsz0;generalize iF s=m at hcp;have hcp:=Lib.hid hcp;go_enter Tryz.func126,Tryz.ntmps126
 go_upto_region 2 with(go_at_call 228;refine(hcp.out _).mono ?_;rintro e w' ⟨rfl,rfl⟩)
 go_cut [35] (λ v35 wc=>∃b:Bool,v35= .bool b∧Hid (gD t m= !b)∧ah (wc.heap[w.heap.size]? =some (.cells #[.bool false,.slice none 0 0] 64 (0,0)))∧ah (Below w.heap.size w wc))
 case first=>
  have z:=ah.mk (lS w (.cells #[.bool false,.slice none 0 0] 64));have HB:=ah.mk ((Below.refl w.heap.size w).alloc (Nat.le_refl _) (.cells #[.bool false,.slice none 0 0] 64));by_cases h0:t.size=0
  .have HN:=Lib.hid (show gD t m=false by unfold gD;simp[h0])
   have e1:t.toList=[]:=List.eq_nil_of_length_eq_zero (by rw[Lib.toList_data,<-Lib.size_eq];exact h0);have e2:(t.toList==([]:List UInt8))=true:=by rw[e1];rfl
   have e3:t.toList.isEmpty=true:=by rw[e1];rfl
   go_wp2;go_meet
   case rel=>exact⟨_,rfl,Lib.hid (by rw[HN.out];rfl),⟨z.out⟩,⟨HB.out⟩⟩
  .have e1:¬t.toList=[]:=λ h=>h0 (by rw[Lib.size_eq,<-Lib.toList_data,h];rfl)
   have e2:(t.toList==([]:List UInt8))=false:=beq_eq_false_iff_ne.2 e1;have e3:t.toList.isEmpty=false:=by cases h:t.toList with|nil=>exact absurd h e1|cons=>rfl
   have e4:0<t.size:=by omega
   have hbt:∀h:0<t.size,((t[0]'h).toNat:Int)=bt t 0:=iX t 0;have hD:decide (0<t.size)=true:=decide_eq_true e4;have HD:=Lib.hid hD;clear hD;cases hz:(bt t 0==48)with
   |true=>
    by_cases h1:1<t.size
    .have HN:=Lib.hid (show gD t m=false by unfold gD;rw[hz,decide_eq_true h1];simp)
     have h1b:decide (1<t.size)=true:=decide_eq_true h1;have h1c:decide ((1:Int)<(t.size:Int))=true:=decide_eq_true (by omega);go_wp2;go_meet
     case rel=>exact⟨_,rfl,Lib.hid (by rw[HN.out];rfl),⟨z.out⟩,⟨HB.out⟩⟩
    .have h1b:decide (1<t.size)=false:=decide_eq_false h1
     have h1c:decide ((1:Int)<(t.size:Int))=false:=decide_eq_false (by omega);cases m with
     |true=>
      have HN:=Lib.hid (show gD t true=false by unfold gD;rw[hz];simp);go_wp2;go_meet
      case rel=>exact⟨_,rfl,Lib.hid (by rw[HN.out];rfl),⟨z.out⟩,⟨HB.out⟩⟩
     |false=>
      have hgo:gD t false=(yA t).isEmpty:=by unfold gD;rw[hz,h1b,HD.out];simp
      cases hT:yA t with
      |nil=>
       have HN:=Lib.hid (show gD t false=true by rw[hgo,hT];rfl);have HT:=Lib.hid hT;clear hgo hT
       go_wp2_with (go_at_call 229;refine(Fp _ _ ht).mono ?_;rintro e w2 ⟨rfl,hb2⟩;rw[HT.out];have D:=ah.mk (bY z.out hb2);have E:=ah.mk (aU HB.out hb2);clear z HB hb2;have z:=D;have HB:=E;clear D E)
       go_meet
       case rel=>exact⟨_,rfl,Lib.hid (by rw[HN.out];rfl),⟨z.out⟩,⟨HB.out⟩⟩
      |cons c r=>
       have HN:=Lib.hid (show gD t false=false by rw[hgo,hT];rfl);have HT:=Lib.hid hT;clear hgo hT
       go_wp2_with (go_at_call 229;refine(Fp _ _ ht).mono ?_;rintro e w2 ⟨rfl,hb2⟩;rw[HT.out];have D:=ah.mk (bY z.out hb2);have E:=ah.mk (aU HB.out hb2);clear z HB hb2;have z:=D;have HB:=E;clear D E)
       go_meet
       case rel=>exact⟨_,rfl,Lib.hid (by rw[HN.out];rfl),⟨z.out⟩,⟨HB.out⟩⟩
   |false=>
    have hgo:gD t m=(yA t).isEmpty:=by unfold gD;rw[hz,HD.out];simp
    have hz2:(bt t 0 !=48)=true:=by rw[bne,hz];rfl
    cases hT:yA t with
    |nil=>
     have HN:=Lib.hid (show gD t m=true by rw[hgo,hT];rfl);have HT:=Lib.hid hT;clear hgo hT
     go_wp2_with (go_at_call 229;refine(Fp _ _ ht).mono ?_;rintro e w2 ⟨rfl,hb2⟩;rw[HT.out];have D:=ah.mk (bY z.out hb2);have E:=ah.mk (aU HB.out hb2);clear z HB hb2;have z:=D;have HB:=E;clear D E)
     go_meet
     case rel=>exact⟨_,rfl,Lib.hid (by rw[HN.out];rfl),⟨z.out⟩,⟨HB.out⟩⟩
    |cons c r=>
     have HN:=Lib.hid (show gD t m=false by rw[hgo,hT];rfl);have HT:=Lib.hid hT;clear hgo hT
     go_wp2_with (go_at_call 229;refine(Fp _ _ ht).mono ?_;rintro e w2 ⟨rfl,hb2⟩;rw[HT.out];have D:=ah.mk (bY z.out hb2);have E:=ah.mk (aU HB.out hb2);clear z HB hb2;have z:=D;have HB:=E;clear D E)
     go_meet
     case rel=>exact⟨_,rfl,Lib.hid (by rw[HN.out];rfl),⟨z.out⟩,⟨HB.out⟩⟩
 case rest=>
  obtain⟨b,rfl,HG,z,HB⟩:=hcut;have hc0:wc.cell? ⟨w.heap.size,0,none⟩=some (.bool false):=(aj z.out 0).trans rfl;have hc1:wc.cell? ⟨w.heap.size,1,none⟩=some (.slice none 0 0):=(aj z.out 1).trans rfl;have hf0:=aI z.out 0;have hf1:=aI z.out 1;have hu64:=Tryz.underlying64;cases b with
  |true=>
   go_wp2;refine bodyPost_ret (fu rfl _ _ w.heap.size 64 #[.bool false,.slice none 0 0] (0,0) _ rfl (by refine eB (cs:= #[.bool false,.slice none 0 0]) ?_ 1 _ rfl;refine eB (cs:= #[.bool false,.slice none 0 0]) ?_ 0 _ rfl;exact z.out) Tryz.underlying64 rfl (by kernel_rfl)) rfl ?_;refine⟨.slice none 0 0,?_,?_,bH (bH HB.out (Nat.le_refl _)) (Nat.le_refl _)⟩
   .rw[HG.out];rfl
   .rw[HG.out];exact Kd.lu _ _ _ _ _
  |false=>
   go_wp2;have hdig:=Lib.hid (λ(i:Nat)(hi:i<t.size)=>Kq (m:=m) HG.out i hi);go_loopw [6,7] (λ v i wr=>∃j:Nat,9*j≤t.size+8∧i= .int .i64 ((t.size:Int)-9*(j:Int))∧ah (Kd.R (Kd.int .u32) 328 wr w.heap.size (λ _=>True) v (pw t j))∧ah (wr.heap[w.heap.size]? =some (.cells #[.bool false,.slice none 0 0] 64 (0,0)))∧ah (Below w.heap.size w wr)) (λ _ i _=>(intOf i).toNat)
   case atStart=>exact⟨0,by omega,by simp,⟨Kd.mZ _ _ _ _ _⟩,z,HB⟩
   case round=>
    clear z HB hc0 hc1 hf0 hf1;obtain⟨j,hj,rfl,HO,z,HB⟩:=hrel;obtain⟨F,rfl⟩:∃F:World,F=wr:=⟨_,rfl⟩;by_cases hlt:9*j<t.size
    .obtain⟨e,he⟩:∃e:Nat,e=t.size-9*j:=⟨_,rfl⟩
     obtain⟨lo,hlo⟩:∃lo:Nat,lo=e-9:=⟨_,rfl⟩;have hi:(t.size:Int)-9*(j:Int)=(e:Int):=by omega
     rw[hi];have e1:0<e:=by omega
     have e2:e≤t.size:=by omega
     have e3:lo≤e:=by omega
     have hmx:(if(e:Int)-9<0 then 0 else(e:Int)-9)=(lo:Int):=by split<;>omega
     have Y:(if(e:Int)<9 then 0 else(e:Int)-9)=(lo:Int):=by split<;>omega
     have HE:=Lib.hid he;have L:=Lib.hid hlo;have HI:=Lib.hid hi;have HJ:=Lib.hid hj;clear he hlo hi hj;have b1:decide (0<(e:Int))=true:=decide_eq_true (by omega);go_wp2;have hsz:(t.extract lo e).size=e-lo:=by simp[ByteArray.size_extract];omega
     have hsb:∀(q:Nat)(h:q<(t.extract lo e).size),(((t.extract lo e)[q]'h).toNat:Int)=bt t ((lo+q:Nat):Int):=λ q h=>by
      rw[hsz]at h;rw[<-iX t ((lo+q:Nat):Int) (by simp only[Int.toNat_natCast];omega)];simp only[Int.toNat_natCast];congr 2;exact ByteArray.getElem_extract ..
     generalize t.extract lo e=sub at hsz hsb|-
     have O:=Lib.hid hsz;have Z:=Lib.hid hsb;clear hsz hsb hmx Y b1;go_loopw [8] (λ n wi=>∃q:Nat,q≤e-lo∧wi=F.iter sub q∧n= .int .u32 (lY t lo q)) (λ _ wi=>sub.size-wi.iterPos F.heap.size)
     case atStart=>exact⟨0,Nat.zero_le _,rfl,rfl⟩
     case round=>
      obtain⟨q,hq,rfl,rfl⟩:=hrel;by_cases J:q<sub.size
      .have hq2:q<e-lo:=by rw[<-O.out];exact J
       obtain⟨hc1,hc2⟩:=hdig.out (lo+q) (by omega);have hsb:=Z.out q J;obtain⟨hv1,hv2⟩:=Dz t lo hdig.out q (by omega);have hv3:=UC q (by have:=L.out;omega);have hnext:lY t lo (q+1)=10*lY t lo q+(bt t ((lo+q:Nat):Int)-48):=rfl;generalize bt t ((lo+q:Nat):Int)=c at hc1 hc2 hsb hnext;generalize lY t lo q=v at hv1 hv2 hnext|-
       have hv4:v≤99999999:=by omega
       have aa:=Lib.hid hnext;have hnx:∀ty,(Instr.next (.pointer (some ⟨F.heap.size,0,none⟩)) true ty).run Tryz.prog (F.iter sub q)= .ok (.tuple #[.bool true,.int .i64 q,.int .i32 c]) (F.iter sub (q+1)):=λ ty=>by
        rw[run_next_ascii F sub q ty J (by omega),hsb]
       clear hsb hnext hv2 hv3;go_wp2;go_roundw
       case rel=>exact⟨q+1,by omega,rfl,by rw[aa.out]⟩
       case measure=>simp;omega
      .have hqe:q=e-lo:=by have:=O.out;omega
       have hnx:∀ty,(Instr.next (.pointer (some ⟨F.heap.size,0,none⟩)) true ty).run Tryz.prog (F.iter sub q)=_:=λ ty=>run_next_end F sub q ty J;subst hqe;have hpw:pw t (j+1)=pw t j++[lY t lo (e-lo)]:=by
        show pw t j++[lY t (t.size-9*j-9) (t.size-9*j-(t.size-9*j-9))]=_;rw[<-HE.out,<-L.out]
       have ab:=Lib.hid hpw;have hpl:=Lib.hid (BU t j);generalize hvv:lY t lo (e-lo)=v at hpw|-
       have ac:=Lib.hid hvv;clear hpw hvv;have HB:=ah.mk (fA HB.out (.stringIter sub (e-lo)));have HO:=ah.mk (Kd.mh HO.out (.stringIter sub (e-lo)));have z:=ah.mk (dP z.out (.stringIter sub (e-lo)))
       go_wp2_with ((with_reducible refine eX (b:= .append) (xs:= #[.tmp 59,.tmp 61]) rfl ?_);at_builtin;refine Kd.jl (Kd.int .u32) (w0:=w) w.heap.size rfl (.tmp 59) (.tmp 61) 62 328 (.int .u32 0) 4 rfl Tryz.underlying62 iR rfl (by decide) (by omega) u6 (pw t j) v [.int .u32 v] (λ _=>True) (λ _=>False) rfl rfl ?af (λ _ hk=>hk.elim) ?ag ?al ?am ?an ?ao ?_;(case af=>exact rfl);(case am=>exact HB.out);(case ag=>exact(λ _ _=>trivial));(case al=>exact HO.out);(case an=>exact bG HB.out);(case ao=>have:=hpl.out;have:=HJ.out;omega);intro v2 w2 ho hb hg hat;have D:=ah.mk (lH (g:=w.heap.size) (o:= .cells #[.bool false,.slice none 0 0] 64 (0,0)) z.out hg (Kd.yY HO.out z.out (by decide)));have E:=ah.mk hb;have I:=ah.mk ho;clear z HB HO ho hb hg hat;have z:=D;have HB:=E;have HO:=I;clear D E I)
       go_roundw
       case rel=>exact⟨j+1,by have:=HJ.out;have:=HE.out;omega,by have:=HI.out;congr 1;omega,⟨by rw[ab.out,ac.out];exact HO.out⟩,z,HB⟩
       case measure=>simp[intOf];omega
    .have b1:decide (0<(t.size:Int)-9*(j:Int))=false:=decide_eq_false (by omega)
     have T:j=(t.size+8)/9:=by omega
     obtain⟨ap,co,eo⟩:=Kd.dR HO.out;subst eo;have aq:=ah.mk (Kd.kC (base':=F.heap.size) (Kd.gY (Kd.jV (Kd.dh HO.out z.out (by decide))) (λ k hk=>(⟨hk.2.1,hk.1.2⟩:w.heap.size≤k∧k≠w.heap.size))));have hsg:=Qa (pw t j) m (by rw[BU];omega);have ae:=Lib.hid hsg;have U:=Lib.hid T;have HW:=Lib.hid (bG HB.out);clear hsg T
     go_wp2_with (go_at_call 230;refine(dJ.calls _ (λ k=>w.heap.size≤k∧k≠w.heap.size) ap co _ m _ _ _ aq.out ae.out).mono ?_;rintro e w2 ⟨v1,rfl,hv1,hb2⟩;have D:=ah.mk (bY z.out hb2);have E:=ah.mk (aU HB.out hb2);have I:=ah.mk (Kd.bU hv1 (λ k hk=>(show w.heap.size≤k∧k≠w.heap.size from hk.elim id (λ h=>⟨Nat.le_trans HW.out h,λ e_=>by subst e_;have:=gT z.out;omega⟩))));clear z HB hb2 hv1;have z:=D;have HB:=E;have X:=I;clear D E I;have hc0:w2.cell? ⟨w.heap.size,0,none⟩=some (.bool false):=(aj z.out 0).trans rfl;have hc1:w2.cell? ⟨w.heap.size,1,none⟩=some (.slice none 0 0):=(aj z.out 1).trans rfl;have hf0:=aI z.out 0;have hf1:=aI z.out 1;obtain⟨A1,c1,e1⟩:=Kd.aY X.out;subst e1)
     refine bodyPost_ret (fu rfl _ _ w.heap.size 64 #[.bool (m&&decide (0<(dU (pw t j)).length)),.slice A1 (dU (pw t j)).length c1] (0,0) _ rfl (by refine eB (cs:= #[.bool (m&&decide (0<(dU (pw t j)).length)),.slice none 0 0]) ?_ 1 _ rfl;refine eB (cs:= #[.bool false,.slice none 0 0]) ?_ 0 _ rfl;exact z.out) Tryz.underlying64 rfl (by kernel_rfl)) rfl ?_;refine⟨.slice A1 (dU (pw t j)).length c1,?_,?_,bH (bH HB.out (Nat.le_refl _)) (Nat.le_refl _)⟩
     .rw[HG.out,U.out];rfl
     .rw[HG.out,<-U.out]
      exact Kd.bU (Kd.oU (p:=⟨w.heap.size,1,none⟩) (Kd.oU (p:=⟨w.heap.size,0,none⟩) X.out (λ _ hk=>hk.2) _) (λ _ hk=>hk.2) _) (λ _ hk=>hk.1)
def iC.f(a0:ByteArray):Option (Bool×List Int×Bool):=
 if(fK a0).size<4294967281 then
  some (gD (fK a0) (iF a0)&&(iF a0&&decide (0<(dU (pw (fK a0) (((fK a0).size+8)/9))).length)),if gD (fK a0) (iF a0)then dU (pw (fK a0) (((fK a0).size+8)/9))else [],gD (fK a0) (iF a0))
 else none
theorem iC.calls(a0:ByteArray)(r1:Bool)(r2:List Int)(r3:Bool)(w:World)(h:iC.f a0=some (r1,r2,r3)):
  Calls Tryz.prog 126 #[.string a0] w λ e w'=>∃s:Value,e= .returned (.tuple #[.agg #[.bool r1,s],.bool r3])∧Kd.V (Kd.int .u32) 328 w' w.heap.size (λ k_=>(w.heap.size≤k_)) s r2∧Below w.heap.size w w':=by
 unfold iC.f at h;split at h
 .rename_i hs
  simp only[Option.some.injEq,Prod.mk.injEq]at h;obtain⟨rfl,rfl,rfl⟩:=h;exact P_ a0 w hs
 .simp at h
end Go.Proofs.Ct.Q
namespace Go.Proofs.Ct.Q
open Go.RowKit Go.Proofs.aA.ak Go.Proofs.aA.aC Go.Proofs.aA.aG Go.Proofs.bO
theorem xL(n:Nat):val 10000 (limbs R n)=n:=uZ R2 n
theorem vL(n:Nat):inr 10000 (limbs R n):=yD R2 n
theorem Ck{l:List Int}(h:inr 10000 l):dU l=limbs R (val 10000 l).toNat:=sF R2 h
theorem Yw(x y:List Int)(hx:inr 10000 x)(hy:inr 10000 y)(hl:x.length=y.length)(hn:x.length<1000000)(n:Nat):∀k,n<k->n≤x.length->
  bg.l0 k x y ((n:Int)-1)=some (jA (val 10000 (x.take n)) (val 10000 (y.take n))):=by
 induction n with
 |zero=>
  intro k hk _;obtain⟨k,rfl⟩:∃m,k=m+1:=⟨k-1,by omega⟩;simp only[bg.l0];rw[if_neg (by omega)];simp[jA]
 |succ n ih=>
  intro k hk hm;obtain⟨k,rfl⟩:∃m,k=m+1:=⟨k-1,by omega⟩;simp only[bg.l0];have e:((n+1:Nat):Int)-1=(n:Int):=by omega
  have hxt:=tT hx n;have s:=tT hy n;have ht:(x.take n).length=(y.take n).length:=by rw[List.length_take,List.length_take,hl]
  rw[e,if_pos (by omega),if_pos (by omega),if_pos (by omega),if_pos (by omega),iw (by omega:n<x.length),iw (by omega:n<y.length),List.take_succ_eq_append_getElem (by omega),List.take_succ_eq_append_getElem (by omega)];by_cases h1:x[n]<y[n]
  .rw[if_pos h1]
   have:=wh (by decide) ht hxt s h1;unfold jA;rw[if_pos this]
  .rw[if_neg h1]
   by_cases h2:x[n]>y[n]
   .rw[if_pos h2]
    have:=wh (by decide) ht.symm s hxt h2;unfold jA;rw[if_neg (by omega),if_pos this]
   .rw[if_neg h2,eG (by omega) (by omega),ih k (by omega) (by omega)]
    have h3:x[n]=y[n]:=by omega
    rw[kT,kT,h3,ht];unfold jA;congr 1;split<;>split<;>(try split)<;>(try split)<;>omega
theorem rD(m n:Nat)(hm:(limbs R m).length<1000000)(hn:(limbs R n).length<1000000)(k:Nat)(hk:(limbs R m).length<k):
  bg.f k (limbs R m) (limbs R n)=some (jA m n):=by
 unfold bg.f;by_cases h:(limbs R m).length=(limbs R n).length
 .rw[if_pos (by omega),eG (by omega) (by omega),Yw _ _ (vL m) (vL n) h hm _ k hk (Nat.le_refl _),List.take_length,h,List.take_length,xL,xL]
 .rw[if_neg (by omega)]
  by_cases h2:(limbs R m).length<(limbs R n).length
  .have:=nH R2 h2
   rw[if_pos (by omega)];unfold jA;rw[if_pos (by omega)]
  .have:=nH R2 (by omega:(limbs R n).length<(limbs R m).length)
   rw[if_neg (by omega)];unfold jA;rw[if_neg (by omega),if_pos (by omega)]
theorem Yx(x:List Int)(hx:inr 10000 x)(hn:x.length<1000000)(a:Nat)(h3:x.length≤a+3)(n:Nat):∀k i:Nat,i=a+n->i≤x.length->n<k->
  dA.l0 k x (a:Int) (val 10000 (x.drop i)) ((i:Int)-1)=some (val 10000 (x.drop a)):=by
 induction n with
 |zero=>
  intro k i hi hl hk;obtain⟨k,rfl⟩:∃m,k=m+1:=⟨k-1,by omega⟩;simp only[dA.l0];rw[if_neg (by omega),hi];rfl
 |succ n ih=>
  intro k i hi hl hk;obtain⟨k,rfl⟩:∃m,k=m+1:=⟨k-1,by omega⟩;simp only[dA.l0];obtain⟨j,rfl⟩:∃j,i=j+1:=⟨i-1,by omega⟩;have e:((j+1:Nat):Int)-1=(j:Int):=by omega
  rw[e,if_pos (by omega),if_pos (by omega),if_pos (by omega),if_pos (by omega),iw (by omega:j<x.length)];have hr:=kF (by decide) (xu hx (j+1));have hp:(10000:Int)^(x.drop (j+1)).length≤10000^2:=by
   rw[List.length_drop];exact UH (by decide) (by omega:x.length-(j+1)≤2)
  have hp2:(10000:Int)^2=100000000:=by decide
  have hg:=fI hx (by omega:j<x.length);have ev:wrap64 (wrap64 (val 10000 (x.drop (j+1))*10000)+x[j])=val 10000 (x.drop j):=by
   rw[eG (x:=_*10000) (by omega) (by omega),eG (by omega) (by omega),List.drop_eq_getElem_cons (by omega:j<x.length),val];omega
  rw[ev,eG (by omega) (by omega),ih k j (by omega) (by omega) (by omega)]
theorem QH(x:List Int)(hx:inr 10000 x)(hn:x.length<1000000)(a:Nat)(h3:x.length≤a+3)(k:Nat)(hk:x.length+1<k):
  dA.f k x (a:Int)=some (val 10000 (x.drop a)):=by
 unfold dA.f;rw[eG (by omega) (by omega)];by_cases h:a≤x.length
 .have:=Yx x hx hn a h3 (x.length-a) k x.length (by omega) (by omega) (by omega)
  rw[List.drop_length]at this;exact this
 .obtain⟨k,rfl⟩:∃m,k=m+1:=⟨k-1,by omega⟩
  simp only[dA.l0];rw[if_neg (by omega),List.drop_eq_nil_of_le (by omega)];rfl
def Eo(b:Int)(x y:List Int)(i:Nat)(o:List Int)(c:Int):Prop:=
 o.length=x.length∧inr b o∧(∀j (h:j<o.length),i≤j->o[j]=0)∧(c=0∨c=1)∧val b o=val b (x.take i)-val b (y.take i)+c*b^i
theorem Eo.set{b:Int}{x y:List Int}{i:Nat}{o:List Int}{c:Int}(h:Eo b x y i o c)(hi:i<x.length)(yi:Int)(hy:val b (y.take (i+1))=val b (y.take i)+b^i*yi)
  (d c':Int)(hd:0≤d∧d<b)(hc':c'=0∨c'=1)(he:x[i]-c-yi=d-c'*b):Eo b x y (i+1) (o.set i d) c':=by
 obtain⟨ho,hro,hz,hc,s⟩:=h;have hoi:i<o.length:=by rw[ho];exact hi
 refine⟨by simpa using ho,zJ hro i hd,?_,hc',?_⟩
 .intro j hj hij
  rw[List.getElem_set_ne (by clear hy he s hd;omega)];exact hz j (by simpa using hj) (Nat.le_of_succ_le hij)
 .rw[Df b o i d hoi,hz i hoi (Nat.le_refl _),s,jh b x i hi,hy,Int.pow_succ]
  clear s hy
  grind
theorem Eo.last{b:Int}(hb:0<b){x y:List Int}{o:List Int}{c:Int}(h:Eo b x y x.length o c)(hl:y.length≤x.length)(hv:val b y≤val b x):val b o=val b x-val b y:=by
 obtain⟨ho,hro,hz,hc,s⟩:=h;rw[List.take_length,List.take_of_length_le hl]at s;have hr:=kF hb hro;rw[ho]at hr;rcases hc with h|h
 .rw[h,Int.zero_mul]at s;omega
 .rw[h,Int.one_mul]at s;omega
theorem Yy(x y:List Int)(hx:inr 10000 x)(hy:inr 10000 y)(hl:y.length≤x.length)(hn:x.length<1000000)(hv:val 10000 y≤val 10000 x)(n:Nat):∀(k i:Nat)(o:List Int)(c:Int),
  x.length-i=n->i≤x.length->Eo 10000 x y i o c->n+x.length+1<k->
  bP.l0 k x y o c (i:Int)=some (limbs R (val 10000 x-val 10000 y).toNat):=by
 induction n with
 |zero=>
  intro k i o c hi hil ho hk;obtain⟨k,rfl⟩:∃m,k=m+1:=⟨k-1,by omega⟩;simp only[bP.l0];obtain rfl:i=x.length:=by omega
  have z:=ho.1;rw[if_neg (by omega),wE o (by omega) k (by omega),Option.bind_some,Ck ho.2.1,ho.last (by decide) hl hv]
 |succ n ih=>
  intro k i o c hi hil ho hk;obtain⟨k,rfl⟩:∃m,k=m+1:=⟨k-1,by omega⟩;have hi3:i<x.length:=by omega
  have z:=ho.1;have hcc:=ho.2.2.2.1;have e:wrap64 ((i:Int)+1)=((i+1:Nat):Int):=by rw[eG (by omega) (by omega)];omega
  have hxi:=fI hx hi3
  have step:∀(d c':Int),Eo 10000 x y (i+1) (o.set i d) c'->
    bP.l0 k x y (o.set i d) c' (wrap64 ((i:Int)+1))=some (limbs R (val 10000 x-val 10000 y).toNat):=by
   intro d c' h';rw[e];exact ih k (i+1) (o.set i d) c' (by omega) (by omega) h' (by omega)
  have hpos:(0:Int)≤i:=by omega
  have hix:(i:Int)<x.length:=by omega
  have s:(i:Int)<o.length:=by omega
  have ht:((i:Int)).toNat=i:=rfl;simp only[bP.l0];rw[if_pos hix,if_pos hpos,iw hi3,ht,if_pos s,if_pos s,if_pos s,if_pos s];by_cases hy1:i<y.length
  .have hyi:=fI hy hy1
   have hs:=ho.set hi3 _ (jh 10000 y i hy1);rw[if_pos (by omega:(i:Int)<y.length),iw hy1,eG (x:=x[i]-c) (by omega) (by omega),eG (x:=x[i]-c-y[i]) (by omega) (by omega)];by_cases hneg:x[i]-c-y[i]<0
   .rw[if_pos hneg,eG (x:=x[i]-c-y[i]+10000) (by omega) (by omega)];exact step _ _ (hs _ _ (by omega) (.inr rfl) (by omega))
   .rw[if_neg hneg];exact step _ _ (hs _ _ (by omega) (.inl rfl) (by omega))
  .have hs:=ho.set hi3 0 (by rw[List.take_of_length_le (by omega),List.take_of_length_le (by omega),Int.mul_zero,Int.add_zero])
   rw[if_neg (by omega:¬(i:Int)<y.length),eG (x:=x[i]-c) (by omega) (by omega)];by_cases hneg:x[i]-c<0
   .rw[if_pos hneg,eG (x:=x[i]-c+10000) (by omega) (by omega)];exact step _ _ (hs _ _ (by omega) (.inr rfl) (by omega))
   .rw[if_neg hneg];exact step _ _ (hs _ _ (by omega) (.inl rfl) (by omega))
theorem IU(m n:Nat)(h:n≤m)(hm:(limbs R m).length<1000000)(k:Nat)(hk:2*(limbs R m).length+1<k):
  bP.f k (limbs R m) (limbs R n)=some (limbs R (m-n)):=by
 have hl:=fU R2 h;unfold bP.f;rw[if_pos (by omega),if_pos (by omega)];have:=Yy (limbs R m) (limbs R n) (vL m) (vL n) hl hm (by rw[xL,xL];omega) (limbs R m).length k 0 (List.replicate (limbs R m).length 0) 0 (by omega) (by omega) ⟨by simp,oz (by decide) _,by simp,.inl rfl,by simp[mE,val]⟩ (by omega);rw[xL,xL]at this;have e:(((m:Int)-n).toNat)=m-n:=by omega
 rw[e]at this;exact this
end Go.Proofs.Ct.Q
