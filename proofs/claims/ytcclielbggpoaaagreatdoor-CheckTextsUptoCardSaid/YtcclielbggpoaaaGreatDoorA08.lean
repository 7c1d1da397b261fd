/- Part of the proof of CheckTexts (see the last text). -/
import Derived.Test.YtcclielbggpoaaaGreatDoorA07
set_option linter.all false
namespace Go.Proofs.Ct.Q
open Go.RowKit Go.Proofs.aA.ak Go.Proofs.aA.aC Go.Proofs.aA.aG
attribute [local go_sem] aW aX bA bB
mutual
def aT.j0:Nat->ByteArray->Bool->Option (Bool)
 |0,_,_=>none
 |k+1,x0,x18=>if x18=true then(some false)else(aT.l0 k x0 0)
def aT.l0:Nat->ByteArray->Int->Option (Bool)
 |0,_,_=>none
 |k+1,x0,x3=>if x3<(x0.size:Int)then(if 0≤x3 then((dx.f (bt x0 x3)).bind λ s=>(if s=true then(aT.l0 k x0 (wrap64 (x3+1)))else((dM.f (bt x0 x3)).bind λ z=>(if z=true then(aT.l0 k x0 (wrap64 (x3+1)))else(if(bt x0 x3)=95 then(aT.l0 k x0 (wrap64 (x3+1)))else(if(bt x0 x3)=46 then(aT.l0 k x0 (wrap64 (x3+1)))else(if(bt x0 x3)=91 then(aT.l0 k x0 (wrap64 (x3+1)))else(if(bt x0 x3)=93 then(aT.l0 k x0 (wrap64 (x3+1)))else(if(bt x0 x3)=44 then(aT.l0 k x0 (wrap64 (x3+1)))else(if(bt x0 x3)=39 then(aT.l0 k x0 (wrap64 (x3+1)))else(some false)))))))))))else(none))else(some true)
end
def aT.f(k:Nat)(a0:ByteArray):Option (Bool):=if(a0.size:Int)<1 then(aT.j0 k a0 true)else(if(a0.size:Int)>80 then(aT.j0 k a0 true)else(if 0<(a0.size:Int)then((dx.f (bt a0 0)).bind λ s=>(aT.j0 k a0 (!s)))else(none)))
set_option maxHeartbeats 8000000 in
set_option maxRecDepth 100000 in
theorem aT.calls(k:Nat)(a0:ByteArray)(r:Bool)(w:World)(H:aT.f k a0=some r):
 Calls Tryz.prog 22 #[.string a0] w λ e w'=>e= .returned (.bool r)∧aM w w':=by
 unfold aT.f at H;have U:=ah.mk H;clear H;go_enter Tryz.func22,Tryz.ntmps22
 go_upto_region 1 with(fail)
 go_cut [18] (λ v18 wc=>∃(kq:Nat)(O:Bool),v18= .bool O∧ah (aT.j0 kq a0 O=some r)∧ah (kq≤k)∧aM w wc)
 case first=>
  have H:=U.out;clear U;revert H;refine ci (λ c3 H=>?_) λ c3 H=>?_
  .have T:=decide_eq_true c3
   have aq:decide (a0.size<1)=true:=decide_eq_true (by omega);clear c3
   (first|rw[T]|(simp only[eY,iI];rw[T])|skip)
   have H':=ah.mk H;clear H;go_wp2;go_meet
   case rel=>exact⟨_,(true),rS,H',⟨by first|omega|exact Nat.le_refl _⟩,by repeat(first|exact aM.refl _|apply aM.step)⟩
  .have T:=decide_eq_false c3
   have aq:decide (a0.size<1)=false:=decide_eq_false (by omega);clear c3
   (first|rw[T]|(simp only[eY,iI];rw[T])|skip)
   revert H;refine ci (λ c4 H=>?_) λ c4 H=>?_
   .have ar:=decide_eq_true c4
    have av:decide (80<a0.size)=true:=decide_eq_true (by omega);clear c4;have H':=ah.mk H;clear H;go_wp2;go_meet
    case rel=>exact⟨_,(true),rS,H',⟨by first|omega|exact Nat.le_refl _⟩,by repeat(first|exact aM.refl _|apply aM.step)⟩
   .have ar:=decide_eq_false c4
    have av:decide (80<a0.size)=false:=decide_eq_false (by omega);clear c4;revert H;refine cn λ c5 H=>?_;have c5b0:=decide_eq_true c5;have c5b1:decide (0<a0.size)=true:=decide_eq_true (by omega);clear c5;revert H;refine bi λ X A7 H=>?_;have H':=ah.mk H;clear H;have p6:0≤(0:Int):=(by omega);have q6:0<a0.size:=(by have:(0:Int)<(a0.size:Int):=oA;omega);have hx6:∀h:0<a0.size,((a0[0]'h).toNat:Int)=bt a0 0:=iX a0 0;clear p6;have qi6:(0<(a0.size:Int))=True:=eq_true oA;replace q6:=eq_true q6
    go_wp2_with (first|(go_at_call 62;(with_reducible refine(dx.calls (bt a0 0) X _ A7.out).mono ?_);rintro e w' ⟨rfl,⟨nd,rfl⟩⟩))
    go_meet
    case rel=>exact⟨_,(!X),rS,H',⟨by first|omega|exact Nat.le_refl _⟩,by repeat(first|exact aM.refl _|apply aM.step)⟩
 case rest=>
  clear U;obtain⟨kq,O,rfl,HA,E,⟨mc1,rfl⟩⟩:=hcut;cases kq with
  |zero=>exact absurd HA.out (by simp[aT.j0])
  |succ ap=>
   have H:=HA.out;clear HA;simp only[aT.j0]at H;obtain rfl|rfl:=tb O
   .replace H:=it H
    obtain rfl:=Option.some.inj H;go_wp2;go_ret;exact⟨rS,by repeat(first|exact aM.refl _|apply aM.step)⟩
   .replace H:=jf H
    have H':=ah.mk H;clear H;go_wp2;go_loopg [3] ap (λ kq v3 w'=>∃(s:Int),v3= .int .i64 s∧ah (aT.l0 kq a0 s=some r)∧ah (kq≤ap)∧aM w w')
    case atStart=>exact⟨(0),rS,H',⟨Nat.le_refl _⟩,by repeat(first|exact aM.refl _|apply aM.step)⟩
    case round=>
     clear H';obtain⟨s,rfl,HA,F,⟨m2,rfl⟩⟩:=hrel;cases gk with
     |zero=>exact absurd HA.out (by simp[aT.l0])
     |succ k2=>
      have H:=HA.out;clear HA;simp only[aT.l0]at H;revert H;refine ci (λ c9 H=>?_) λ c9 H=>?_
      .have aw:=decide_eq_true c9
       clear c9;revert H;refine cn λ c10 H=>?_;have c10b0:=decide_eq_true c10;clear c10;revert H;refine bi λ ax J H=>?_;obtain rfl|rfl:=tb ax
       .replace H:=it H
        have H':=ah.mk H;clear H;have z:0≤(s:Int):=oA;have D:s<(a0.size:Int):=oA;have I:=iX a0 s;replace z:=eq_true z;replace D:=eq_true D
        go_wp2_with (first|((with_reducible refine gc 62 rfl ?_);refine gl (some 29) Tryz.func62 (args:= #[.int .u8 (bt a0 s)]) (dx.calls (bt a0 s) true _ J.out) ?_;rintro e w' ⟨rfl,⟨nd,rfl⟩⟩;refine⟨_,rfl,?_⟩))
        go_roundg k2
        case measure=>have:=E.out;have:=F.out;omega
        case rel=>exact⟨(wrap64 (s+1)),rS,H',⟨by have:=E.out;have:=F.out;omega⟩,by repeat(first|exact aM.refl _|apply aM.step)⟩
       .replace H:=jf H
        revert H;refine bi λ ay L H=>?_;obtain rfl|rfl:=tb ay
        .replace H:=it H
         have H':=ah.mk H;clear H;have z:0≤(s:Int):=oA;have D:s<(a0.size:Int):=oA;have I:=iX a0 s;replace z:=eq_true z;replace D:=eq_true D
         go_wp2_with (first|((with_reducible refine gc 62 rfl ?_);refine gl (some 29) Tryz.func62 (args:= #[.int .u8 (bt a0 s)]) (dx.calls (bt a0 s) false _ J.out) ?_;rintro e w' ⟨rfl,⟨nd,rfl⟩⟩;refine⟨_,rfl,?_⟩)|(go_at_call 63;(with_reducible refine(dM.calls (bt a0 s) true _ L.out).mono ?_);rintro e w' ⟨rfl,⟨nd,rfl⟩⟩))
         go_roundg k2
         case measure=>have:=E.out;have:=F.out;omega
         case rel=>exact⟨(wrap64 (s+1)),rS,H',⟨by have:=E.out;have:=F.out;omega⟩,by repeat(first|exact aM.refl _|apply aM.step)⟩
        .replace H:=jf H
         revert H;refine ci (λ c16 H=>?_) λ c16 H=>?_
         .have Y:((bt a0 s)==95)=true:=beq_iff_eq.mpr c16
          have Z:((bt a0 s) !=95)=false:=bne_eq_false_iff_eq.mpr c16;clear c16;have H':=ah.mk H;clear H;have z:0≤(s:Int):=oA;have D:s<(a0.size:Int):=oA;have I:=iX a0 s;replace z:=eq_true z;replace D:=eq_true D
          go_wp2_with (first|((with_reducible refine gc 62 rfl ?_);refine gl (some 29) Tryz.func62 (args:= #[.int .u8 (bt a0 s)]) (dx.calls (bt a0 s) false _ J.out) ?_;rintro e w' ⟨rfl,⟨nd,rfl⟩⟩;refine⟨_,rfl,?_⟩)|(go_at_call 63;(with_reducible refine(dM.calls (bt a0 s) false _ L.out).mono ?_);rintro e w' ⟨rfl,⟨nd,rfl⟩⟩))
          go_roundg k2
          case measure=>have:=E.out;have:=F.out;omega
          case rel=>exact⟨(wrap64 (s+1)),rS,H',⟨by have:=E.out;have:=F.out;omega⟩,by repeat(first|exact aM.refl _|apply aM.step)⟩
         .have Y:((bt a0 s)==95)=false:=beq_eq_false_iff_ne.mpr c16
          have Z:((bt a0 s) !=95)=true:=bne_iff_ne.mpr c16;revert H;refine ci (λ c17 H=>?_) λ c17 H=>?_
          .have aa:((bt a0 s)==46)=true:=beq_iff_eq.mpr c17
           have ab:((bt a0 s) !=46)=false:=bne_eq_false_iff_eq.mpr c17;clear c17;have H':=ah.mk H;clear H;have z:0≤(s:Int):=oA;have D:s<(a0.size:Int):=oA;have I:=iX a0 s;replace z:=eq_true z;replace D:=eq_true D
           go_wp2_with (first|((with_reducible refine gc 62 rfl ?_);refine gl (some 29) Tryz.func62 (args:= #[.int .u8 (bt a0 s)]) (dx.calls (bt a0 s) false _ J.out) ?_;rintro e w' ⟨rfl,⟨nd,rfl⟩⟩;refine⟨_,rfl,?_⟩)|(go_at_call 63;(with_reducible refine(dM.calls (bt a0 s) false _ L.out).mono ?_);rintro e w' ⟨rfl,⟨nd,rfl⟩⟩))
           go_roundg k2
           case measure=>have:=E.out;have:=F.out;omega
           case rel=>exact⟨(wrap64 (s+1)),rS,H',⟨by have:=E.out;have:=F.out;omega⟩,by repeat(first|exact aM.refl _|apply aM.step)⟩
          .have aa:((bt a0 s)==46)=false:=beq_eq_false_iff_ne.mpr c17
           have ab:((bt a0 s) !=46)=true:=bne_iff_ne.mpr c17;revert H;refine ci (λ c18 H=>?_) λ c18 H=>?_
           .have ac:((bt a0 s)==91)=true:=beq_iff_eq.mpr c18
            have ae:((bt a0 s) !=91)=false:=bne_eq_false_iff_eq.mpr c18;clear c18;have H':=ah.mk H;clear H;have z:0≤(s:Int):=oA;have D:s<(a0.size:Int):=oA;have I:=iX a0 s;replace z:=eq_true z;replace D:=eq_true D
            go_wp2_with (first|((with_reducible refine gc 62 rfl ?_);refine gl (some 29) Tryz.func62 (args:= #[.int .u8 (bt a0 s)]) (dx.calls (bt a0 s) false _ J.out) ?_;rintro e w' ⟨rfl,⟨nd,rfl⟩⟩;refine⟨_,rfl,?_⟩)|(go_at_call 63;(with_reducible refine(dM.calls (bt a0 s) false _ L.out).mono ?_);rintro e w' ⟨rfl,⟨nd,rfl⟩⟩))
            go_roundg k2
            case measure=>have:=E.out;have:=F.out;omega
            case rel=>exact⟨(wrap64 (s+1)),rS,H',⟨by have:=E.out;have:=F.out;omega⟩,by repeat(first|exact aM.refl _|apply aM.step)⟩
           .have ac:((bt a0 s)==91)=false:=beq_eq_false_iff_ne.mpr c18
            have ae:((bt a0 s) !=91)=true:=bne_iff_ne.mpr c18;revert H;refine ci (λ c19 H=>?_) λ c19 H=>?_
            .have af:((bt a0 s)==93)=true:=beq_iff_eq.mpr c19
             have ag:((bt a0 s) !=93)=false:=bne_eq_false_iff_eq.mpr c19;clear c19;have H':=ah.mk H;clear H;have z:0≤(s:Int):=oA;have D:s<(a0.size:Int):=oA;have I:=iX a0 s;replace z:=eq_true z;replace D:=eq_true D
             go_wp2_with (first|((with_reducible refine gc 62 rfl ?_);refine gl (some 29) Tryz.func62 (args:= #[.int .u8 (bt a0 s)]) (dx.calls (bt a0 s) false _ J.out) ?_;rintro e w' ⟨rfl,⟨nd,rfl⟩⟩;refine⟨_,rfl,?_⟩)|(go_at_call 63;(with_reducible refine(dM.calls (bt a0 s) false _ L.out).mono ?_);rintro e w' ⟨rfl,⟨nd,rfl⟩⟩))
             go_roundg k2
             case measure=>have:=E.out;have:=F.out;omega
             case rel=>exact⟨(wrap64 (s+1)),rS,H',⟨by have:=E.out;have:=F.out;omega⟩,by repeat(first|exact aM.refl _|apply aM.step)⟩
            .have af:((bt a0 s)==93)=false:=beq_eq_false_iff_ne.mpr c19
             have ag:((bt a0 s) !=93)=true:=bne_iff_ne.mpr c19;revert H;refine ci (λ c20 H=>?_) λ c20 H=>?_
             .have al:((bt a0 s)==44)=true:=beq_iff_eq.mpr c20
              have am:((bt a0 s) !=44)=false:=bne_eq_false_iff_eq.mpr c20;clear c20;have H':=ah.mk H;clear H;have z:0≤(s:Int):=oA;have D:s<(a0.size:Int):=oA;have I:=iX a0 s;replace z:=eq_true z;replace D:=eq_true D
              go_wp2_with (first|((with_reducible refine gc 62 rfl ?_);refine gl (some 29) Tryz.func62 (args:= #[.int .u8 (bt a0 s)]) (dx.calls (bt a0 s) false _ J.out) ?_;rintro e w' ⟨rfl,⟨nd,rfl⟩⟩;refine⟨_,rfl,?_⟩)|(go_at_call 63;(with_reducible refine(dM.calls (bt a0 s) false _ L.out).mono ?_);rintro e w' ⟨rfl,⟨nd,rfl⟩⟩))
              go_roundg k2
              case measure=>have:=E.out;have:=F.out;omega
              case rel=>exact⟨(wrap64 (s+1)),rS,H',⟨by have:=E.out;have:=F.out;omega⟩,by repeat(first|exact aM.refl _|apply aM.step)⟩
             .have al:((bt a0 s)==44)=false:=beq_eq_false_iff_ne.mpr c20
              have am:((bt a0 s) !=44)=true:=bne_iff_ne.mpr c20;revert H;refine ci (λ c21 H=>?_) λ c21 H=>?_
              .have an:((bt a0 s)==39)=true:=beq_iff_eq.mpr c21
               have ao:((bt a0 s) !=39)=false:=bne_eq_false_iff_eq.mpr c21;clear c21;have H':=ah.mk H;clear H;have z:0≤(s:Int):=oA;have D:s<(a0.size:Int):=oA;have I:=iX a0 s;replace z:=eq_true z;replace D:=eq_true D
               go_wp2_with (first|((with_reducible refine gc 62 rfl ?_);refine gl (some 29) Tryz.func62 (args:= #[.int .u8 (bt a0 s)]) (dx.calls (bt a0 s) false _ J.out) ?_;rintro e w' ⟨rfl,⟨nd,rfl⟩⟩;refine⟨_,rfl,?_⟩)|(go_at_call 63;(with_reducible refine(dM.calls (bt a0 s) false _ L.out).mono ?_);rintro e w' ⟨rfl,⟨nd,rfl⟩⟩))
               go_roundg k2
               case measure=>have:=E.out;have:=F.out;omega
               case rel=>exact⟨(wrap64 (s+1)),rS,H',⟨by have:=E.out;have:=F.out;omega⟩,by repeat(first|exact aM.refl _|apply aM.step)⟩
              .have an:((bt a0 s)==39)=false:=beq_eq_false_iff_ne.mpr c21
               have ao:((bt a0 s) !=39)=true:=bne_iff_ne.mpr c21;obtain rfl:=Option.some.inj H;have z:0≤(s:Int):=oA;have D:s<(a0.size:Int):=oA;have I:=iX a0 s;replace z:=eq_true z;replace D:=eq_true D
               go_wp2_with (first|((with_reducible refine gc 62 rfl ?_);refine gl (some 29) Tryz.func62 (args:= #[.int .u8 (bt a0 s)]) (dx.calls (bt a0 s) false _ J.out) ?_;rintro e w' ⟨rfl,⟨nd,rfl⟩⟩;refine⟨_,rfl,?_⟩)|(go_at_call 63;(with_reducible refine(dM.calls (bt a0 s) false _ L.out).mono ?_);rintro e w' ⟨rfl,⟨nd,rfl⟩⟩))
               go_ret;exact⟨rS,by repeat(first|exact aM.refl _|apply aM.step)⟩
      .have aw:=decide_eq_false c9
       clear c9;obtain rfl:=Option.some.inj H;go_wp2;go_ret;exact⟨rS,by repeat(first|exact aM.refl _|apply aM.step)⟩
def dX.l0:Nat->List Int->List Int->Int->Int->Int->Option (List Int)
 |0,_,_,_,_,_=>none
 |k+1,x1,x5,x6,z,s=>if s<z then(if 0≤s then(if s<(x5.length:Int)then(if s<(x1.length:Int)then(if(wrap64 ((wrap64 ((wrap64 (rd x5 s))-x6))-(wrap64 (rd x1 s))))<0 then(dX.l0 k x1 (x5.set (s:Int).toNat ((wrap64 ((wrap64 ((wrap64 ((wrap64 (rd x5 s))-x6))-(wrap64 (rd x1 s))))+1000000000))% 4294967296)) 1 z (wrap64 (s+1)))else(dX.l0 k x1 (x5.set (s:Int).toNat ((wrap64 ((wrap64 ((wrap64 (rd x5 s))-x6))-(wrap64 (rd x1 s))))% 4294967296)) 0 z (wrap64 (s+1))))else(if(wrap64 ((wrap64 (rd x5 s))-x6))<0 then(dX.l0 k x1 (x5.set (s:Int).toNat ((wrap64 ((wrap64 ((wrap64 (rd x5 s))-x6))+1000000000))% 4294967296)) 1 z (wrap64 (s+1)))else(dX.l0 k x1 (x5.set (s:Int).toNat ((wrap64 ((wrap64 (rd x5 s))-x6))% 4294967296)) 0 z (wrap64 (s+1)))))else(none))else(none))else(some x5)
def dX.f(k:Nat)(l0:List Int)(l1:List Int):Option (List Int):=(cZ.f l0).bind λ s=>(dX.l0 k l1 s 0 (s.length:Int) 0)
set_option maxHeartbeats 8000000 in
set_option maxRecDepth 100000 in
theorem dX.calls(k:Nat)(A0:Option Addr)(c0:Nat)(l0:List Int)(A1:Option Addr)(c1:Nat)(l1:List Int)(r:List Int)(w:World)(hr0:Kd.C (Kd.int .u32) w A0 l0.length l0)(hc0:l0.length≤c0)(hr1:Kd.C (Kd.int .u32) w A1 l1.length l1)(hc1:l1.length≤c1)(H:dX.f k l0 l1=some r):
 Calls Tryz.prog 405 #[.slice A0 l0.length c0,.slice A1 l1.length c1] w λ e w'=>∃bj:Value,e= .returned (bj)∧Kd.R (Kd.int .u32) 328 w' w.heap.size (λ _=>True) bj r∧Below w.heap.size w w':=by
 have bz:=ah.mk hr0;have bE:=ah.mk hc0;clear hr0 hc0;have HR1:=ah.mk hr1;have HC1:=ah.mk hc1;clear hr1 hc1;have HB:=ah.mk (Below.refl w.heap.size w);unfold dX.f at H;revert H;refine bi λ X A3 H=>?_;have H':=ah.mk H;clear H;go_enter Tryz.func405,Tryz.ntmps405
 go_wp2_with (first|((with_reducible refine gc 407 rfl ?_);refine gl (some 10) Tryz.func407 (args:= #[.slice A0 l0.length c0]) (cZ.calls _ _ l0 X _ (sc bz.out) bE.out A3.out) ?_;rintro e w4 ⟨v136,rfl,ho0,hb⟩;refine⟨_,rfl,?_⟩;have ae:=kO ho0;replace HB:=kh hb;clear hb ho0;obtain⟨bI,bS,b0⟩:=Kd.dR ae.out;subst b0))
 go_loopg [6,13] k (λ kq v6 v13 w'=>∃(D:List Int)(F:Int)(s:Int),v6= .int .i64 F∧v13= .int .i64 s∧ah (dX.l0 kq l1 D F (X.length:Int) s=some r)∧ah (kq≤k)∧ah (Kd.R (Kd.int .u32) 328 w' w.heap.size (λ _=>True) (.slice bI X.length bS) D)∧ah (Below w.heap.size w w'))
 case atStart=>exact⟨(X),(0),(0),rS,rS,H',⟨Nat.le_refl _⟩,⟨kd ae⟩,⟨hB⟩⟩
 case round=>
  clear H';obtain⟨D,F,s,rfl,rfl,HA,O,z,HB⟩:=hrel;have E:=(Kd.d9 z.out).1;rw[E]at z
  (try simp only[E])
  cases gk with
  |zero=>exact absurd HA.out (by simp[dX.l0])
  |succ k1=>
   have H:=HA.out;clear HA;simp only[dX.l0]at H;revert H;refine ci (λ c6 H=>?_) λ c6 H=>?_
   .have Z:=decide_eq_true c6
    clear c6;revert H;refine cn λ c7 H=>?_;have c7b0:=decide_eq_true c7;clear c7;revert H;refine cn λ c8 H=>?_;have c8b0:=decide_eq_true c8;clear c8;revert H;refine ci (λ c9 H=>?_) λ c9 H=>?_
    .have bk:=decide_eq_true c9
     clear c9;revert H;refine ci (λ c10 H=>?_) λ c10 H=>?_
     .have bd:=decide_eq_true c10
      clear c10;first|(revert H;with_reducible refine gy λ ar af H=>?_)|(generalize ag:((D.set (s:Int).toNat ((wrap64 ((wrap64 ((wrap64 ((wrap64 (rd D s))-F))-(wrap64 (rd l1 s))))+1000000000))% 4294967296)):List Int)=ar at H;have af:=ah.mk ag.symm;clear ag)
      have H':=ah.mk H;clear H;obtain⟨Y,e138,J,aa,ab⟩:=ai (Kd.d9 z.out).2.2 s;cases e138;obtain⟨be,ac,L,bl,bm⟩:=ai HR1.out s;cases ac;replace L:=hc L;have av:0≤(s:Int):=oA;have aw:(s:Int)<((D.length:Int):Int):=oA;obtain⟨bo,co11,ax,ay,bp,cl11,az⟩:=Kd.jT z.out (by omega)
      (first|cases ax|(injection ax with I T U;(first|subst I|(injection I with I;subst I));subst U;clear T))
      have GB11:=ah.mk ay;have GG11:=ah.mk az;clear ay bp az
      (first|simp only[add_plain]at J|skip)
      obtain⟨hx11_0,hf11_0⟩:=Kd.fC 0 z.out (s:Int) av aw;replace av:=eq_true av;replace aw:=eq_true aw;have aB:=Kd.iH z.out (s:Int) ((wrap64 ((wrap64 ((wrap64 ((wrap64 (rd D s))-F))-(wrap64 (rd l1 s))))+1000000000))% 4294967296)
      go_wp2_with (first|((with_reducible refine gt 328 42 rfl ?_);refine st (wr.setCell ⟨bo,(s:Int).toNat,none⟩ (.int .u32 ((wrap64 ((wrap64 ((wrap64 ((wrap64 (rd D s))-F))-(wrap64 (rd l1 s))))+1000000000))% 4294967296))) ?_;intro w13 hw;replace z:=kP aB af hw;replace HB:=kt hw;clear hw aB))
      (try simp only[<-E])
      go_roundg k1
      case measure=>have:=O.out;omega
      case rel=>exact⟨(ar),(1),(wrap64 (s+1)),rS,rS,H',⟨by have:=O.out;omega⟩,⟨by(try simp only[E]);exact kd z⟩,⟨hB⟩⟩
     .have bd:=decide_eq_false c10
      clear c10;first|(revert H;with_reducible refine gy λ aD al H=>?_)|(generalize am:((D.set (s:Int).toNat ((wrap64 ((wrap64 ((wrap64 (rd D s))-F))-(wrap64 (rd l1 s))))% 4294967296)):List Int)=aD at H;have al:=ah.mk am.symm;clear am)
      have H':=ah.mk H;clear H;obtain⟨Y,e138,J,aa,ab⟩:=ai (Kd.d9 z.out).2.2 s;cases e138;obtain⟨be,ac,L,bl,bm⟩:=ai HR1.out s;cases ac;replace L:=hc L;have aE:0≤(s:Int):=oA;have aF:(s:Int)<((D.length:Int):Int):=oA;obtain⟨br,co14,aL,aO,bs,cl14,aP⟩:=Kd.jT z.out (by omega)
      (first|cases aL|(injection aL with I T U;(first|subst I|(injection I with I;subst I));subst U;clear T))
      have GB14:=ah.mk aO;have GG14:=ah.mk aP;clear aO bs aP
      (first|simp only[add_plain]at J|skip)
      obtain⟨hx14_0,hf14_0⟩:=Kd.fC 0 z.out (s:Int) aE aF;replace aE:=eq_true aE;replace aF:=eq_true aF;have aR:=Kd.iH z.out (s:Int) ((wrap64 ((wrap64 ((wrap64 (rd D s))-F))-(wrap64 (rd l1 s))))% 4294967296)
      go_wp2_with (first|((with_reducible refine gt 328 42 rfl ?_);refine st (wr.setCell ⟨br,(s:Int).toNat,none⟩ (.int .u32 ((wrap64 ((wrap64 ((wrap64 (rd D s))-F))-(wrap64 (rd l1 s))))% 4294967296))) ?_;intro w16 hw;replace z:=kP aR al hw;replace HB:=kt hw;clear hw aR))
      (try simp only[<-E])
      go_roundg k1
      case measure=>have:=O.out;omega
      case rel=>exact⟨(aD),(0),(wrap64 (s+1)),rS,rS,H',⟨by have:=O.out;omega⟩,⟨by(try simp only[E]);exact kd z⟩,⟨hB⟩⟩
    .have bk:=decide_eq_false c9
     clear c9;revert H;refine ci (λ c17 H=>?_) λ c17 H=>?_
     .have bh:=decide_eq_true c17
      clear c17;first|(revert H;with_reducible refine gy λ aS an H=>?_)|(generalize ao:((D.set (s:Int).toNat ((wrap64 ((wrap64 ((wrap64 (rd D s))-F))+1000000000))% 4294967296)):List Int)=aS at H;have an:=ah.mk ao.symm;clear ao)
      have H':=ah.mk H;clear H;obtain⟨Y,e138,J,aa,ab⟩:=ai (Kd.d9 z.out).2.2 s;cases e138;have a0:0≤(s:Int):=oA;have a1:(s:Int)<((D.length:Int):Int):=oA;obtain⟨bt,co18,a2,a3,bu,cl18,a4⟩:=Kd.jT z.out (by omega)
      (first|cases a2|(injection a2 with I T U;(first|subst I|(injection I with I;subst I));subst U;clear T))
      have GB18:=ah.mk a3;have GG18:=ah.mk a4;clear a3 bu a4
      (first|simp only[add_plain]at J|skip)
      obtain⟨hx18_0,hf18_0⟩:=Kd.fC 0 z.out (s:Int) a0 a1;replace a0:=eq_true a0;replace a1:=eq_true a1;have a5:=Kd.iH z.out (s:Int) ((wrap64 ((wrap64 ((wrap64 (rd D s))-F))+1000000000))% 4294967296)
      go_wp2_with (first|((with_reducible refine gt 328 42 rfl ?_);refine st (wr.setCell ⟨bt,(s:Int).toNat,none⟩ (.int .u32 ((wrap64 ((wrap64 ((wrap64 (rd D s))-F))+1000000000))% 4294967296))) ?_;intro w20 hw;replace z:=kP a5 an hw;replace HB:=kt hw;clear hw a5))
      (try simp only[<-E])
      go_roundg k1
      case measure=>have:=O.out;omega
      case rel=>exact⟨(aS),(1),(wrap64 (s+1)),rS,rS,H',⟨by have:=O.out;omega⟩,⟨by(try simp only[E]);exact kd z⟩,⟨hB⟩⟩
     .have bh:=decide_eq_false c17
      clear c17;first|(revert H;with_reducible refine gy λ a6 ap H=>?_)|(generalize aq:((D.set (s:Int).toNat ((wrap64 ((wrap64 (rd D s))-F))% 4294967296)):List Int)=a6 at H;have ap:=ah.mk aq.symm;clear aq)
      have H':=ah.mk H;clear H;obtain⟨Y,e138,J,aa,ab⟩:=ai (Kd.d9 z.out).2.2 s;cases e138;have a7:0≤(s:Int):=oA;have a8:(s:Int)<((D.length:Int):Int):=oA;obtain⟨bv,co21,a9,ba,bw,cl21,bb⟩:=Kd.jT z.out (by omega)
      (first|cases a9|(injection a9 with I T U;(first|subst I|(injection I with I;subst I));subst U;clear T))
      have GB21:=ah.mk ba;have GG21:=ah.mk bb;clear ba bw bb
      (first|simp only[add_plain]at J|skip)
      obtain⟨hx21_0,hf21_0⟩:=Kd.fC 0 z.out (s:Int) a7 a8;replace a7:=eq_true a7;replace a8:=eq_true a8;have bc:=Kd.iH z.out (s:Int) ((wrap64 ((wrap64 (rd D s))-F))% 4294967296)
      go_wp2_with (first|((with_reducible refine gt 328 42 rfl ?_);refine st (wr.setCell ⟨bv,(s:Int).toNat,none⟩ (.int .u32 ((wrap64 ((wrap64 (rd D s))-F))% 4294967296))) ?_;intro w23 hw;replace z:=kP bc ap hw;replace HB:=kt hw;clear hw bc))
      (try simp only[<-E])
      go_roundg k1
      case measure=>have:=O.out;omega
      case rel=>exact⟨(a6),(0),(wrap64 (s+1)),rS,rS,H',⟨by have:=O.out;omega⟩,⟨by(try simp only[E]);exact kd z⟩,⟨hB⟩⟩
   .have Z:=decide_eq_false c6
    (first|simp only[E]at Z|simp only[<-E]at Z)
    clear c6;obtain rfl:=Option.some.inj H;go_wp2;go_ret;exact⟨_,rW,kd z,hB⟩
def dJ.f(k:Nat)(l0:List Int)(a1:Bool):Option (Bool×List Int):=(dQ.f k l0).bind λ s=>(if a1=true then(some (decide (0<s.length),s))else(some (false,s)))
set_option maxHeartbeats 8000000 in
set_option maxRecDepth 100000 in
theorem dJ.calls(k:Nat)(I:Nat->Prop)(A0:Option Addr)(c0:Nat)(l0:List Int)(a1:Bool)(r1:Bool)(r2:List Int)(w:World)(hs0:Kd.V (Kd.int .u32) 328 w w.heap.size (λ k_=>I k_) (.slice A0 l0.length c0) l0)(H:dJ.f k l0 a1=some (r1,r2)):
 Calls Tryz.prog 230 #[.slice A0 l0.length c0,.bool a1] w λ e w'=>∃O:Value,e= .returned (.agg #[.bool r1,O])∧Kd.V (Kd.int .u32) 328 w' w.heap.size (λ k_=>(I k_∨w.heap.size≤k_)) O r2∧Below w.heap.size w w':=by
 have hu64:=Tryz.underlying64;have D:=ah.mk (show Kd.V (Kd.int .u32) 328 w w.heap.size (λ k_=>(I k_∨w.heap.size≤k_)) (.slice A0 l0.length c0) l0 from Kd.bU hs0 (λ k_ hk=> .inl hk));have HB:=ah.mk (Below.refl w.heap.size w);unfold dJ.f at H;revert H;refine bi λ F A3 H=>?_;obtain rfl|rfl:=tb a1
 .replace H:=it H
  simp only[Option.some.injEq,Prod.mk.injEq]at H;obtain⟨rfl,rfl⟩:=H;go_enter Tryz.func230,Tryz.ntmps230
  go_wp2_with (first|((with_reducible refine gd 4 rfl ?_);(try(refine sS (by rfl) ?_;dsimp only));refine bx #[.bool false,.slice none 0 0] 64 ?_;intro z hg w5 s hb;replace D:=kW D hg hb;have J:=kz hg;have L:=kz hg;replace HB:=kh hb;clear hb hg)|((with_reducible refine gc 317 rfl ?_);refine gl (some 6) Tryz.func317 (args:= #[.slice A0 l0.length c0]) (dQ.calls k (λ k_=>((I k_∨w.heap.size≤k_)∧k_≠z)) _ _ l0 F _ (kd D) A3.out) ?_;rintro e w6 ⟨T,rfl,ho0,hb⟩;refine⟨_,rfl,?_⟩;replace D:=kV D hb;have E:=kL (λ k_=>(I k_∨w.heap.size≤k_)∧k_≠z) ho0;replace s:=kb s hb;replace HB:=kh hb;clear hb ho0;obtain⟨Z,aa,ab⟩:=Kd.aY E.out;subst ab;have hcz8_0:=z2 s))
  refine bodyPost_ret (results_cell_row rfl _ _ z 64 #[.bool (decide (0<F.length)),.slice Z F.length aa] (0,0) _ rfl (by(with_reducible repeat(first|refine fP ?_ _|refine gP ?_|refine dP ?_ _));refine eB (cs:= #[.bool (decide (0<F.length)),.slice none 0 0]) ?_ 1 _ rfl;(with_reducible repeat(first|refine fP ?_ _|refine gP ?_|refine dP ?_ _));refine eB (cs:= #[.bool false,.slice none 0 0]) ?_ 0 _ rfl;(with_reducible repeat(first|refine fP ?_ _|refine gP ?_|refine dP ?_ _));exact s.out) Tryz.underlying64 rfl (by kernel_rfl)) rfl ?_;exact⟨_,rW,kv E,hB⟩
 .replace H:=jf H
  simp only[Option.some.injEq,Prod.mk.injEq]at H;obtain⟨rfl,rfl⟩:=H;go_enter Tryz.func230,Tryz.ntmps230
  go_wp2_with (first|((with_reducible refine gd 4 rfl ?_);(try(refine sS (by rfl) ?_;dsimp only));refine bx #[.bool false,.slice none 0 0] 64 ?_;intro z hg w9 s hb;replace D:=kW D hg hb;have J:=kz hg;have L:=kz hg;replace HB:=kh hb;clear hb hg)|((with_reducible refine gc 317 rfl ?_);refine gl (some 6) Tryz.func317 (args:= #[.slice A0 l0.length c0]) (dQ.calls k (λ k_=>((I k_∨w.heap.size≤k_)∧k_≠z)) _ _ l0 F _ (kd D) A3.out) ?_;rintro e w10 ⟨T,rfl,ho0,hb⟩;refine⟨_,rfl,?_⟩;replace D:=kV D hb;have E:=kL (λ k_=>(I k_∨w.heap.size≤k_)∧k_≠z) ho0;replace s:=kb s hb;replace HB:=kh hb;clear hb ho0;obtain⟨U,X,Y⟩:=Kd.aY E.out;subst Y;have hcz12_0:=z2 s))
  refine bodyPost_ret (results_cell_row rfl _ _ z 64 #[.bool false,.slice U F.length X] (0,0) _ rfl (kp s) Tryz.underlying64 rfl (by kernel_rfl)) rfl ?_;exact⟨_,rW,kv E,hB⟩
def eu.f(z:Bool)(D:List Int):Option (Int):=(gF.f z D).bind λ s=>((dz.f s.1 s.2).bind λ E=>(some (E.size:Int)))
set_option maxHeartbeats 8000000 in
set_option maxRecDepth 100000 in
theorem eu.calls(E:Bool)(F:Option Addr)(I:Nat)(s:List Int)(r:Int)(w:World)(L:Kd.C (Kd.int .u32) w F s.length s)(O:s.length≤I)(H:eu.f E s=some r):
 Calls Tryz.prog 128 #[.agg #[.bool E,.slice F s.length I]] w λ e w'=>e= .returned (.int .i64 r)∧Below w.heap.size w w':=by
 have hu64:=Tryz.underlying64;have T:=ah.mk L;have U:=ah.mk O;clear L O;have HB:=ah.mk (Below.refl w.heap.size w);unfold eu.f at H;revert H;refine bi λ ac A2 H=>?_;obtain⟨t124,J⟩:=ac;dsimp only at H;revert H;refine bi λ Y A3 H=>?_;obtain rfl:=Option.some.inj H;go_enter Tryz.func128,Tryz.ntmps128
 go_wp2_with (first|((with_reducible refine gd 1 rfl ?_);refine bx #[.bool E,.slice F s.length I] 64 ?_;intro X hg w4 z hb;have GW123:=kz hg;have GE123:=kz hg;replace HB:=kh hb;clear hb hg;have hcz5_0:=z2 z)|((with_reducible refine gc 231 rfl ?_);refine gl (some 4) Tryz.func231 (args:= #[.agg #[.bool E,.slice F s.length I]]) (gF.calls E (λ k_=>k_<w.heap.size) _ _ s t124 J _ (Kd.BS U.out (Kd.wG (Kd.YN (Kd.KW .u32) T.out) hB)) A2.out) ?_;rintro e w6 ⟨v126,rfl,ho0,hb⟩;refine⟨_,rfl,?_⟩;have D:=kL (λ k_=>k_≠X) ho0;replace z:=kb z hb;replace HB:=kh hb;clear hb ho0;obtain⟨Z,aa,ab⟩:=Kd.aY D.out;subst ab)|((with_reducible refine gc 141 rfl ?_);refine gl (some 5) Tryz.func141 (args:= #[.agg #[.bool t124,.slice Z J.length aa]]) (dz.calls t124 _ _ J Y _ (sc ((Kd.aH D.out).2.2)) ((Kd.aH D.out).2.1) A3.out) ?_;rintro e w8 ⟨rfl,hb⟩;refine⟨_,rfl,?_⟩;replace D:=kV D hb;replace z:=kb z hb;replace HB:=kh hb;clear hb))
 go_ret;exact⟨rW,hB⟩
def jX.f(s:Bool)(z:List Int):Option (Int):=(dZ.f s z).bind λ t130=>(if t130=true then(some 0)else(if s=true then(some (-1))else(some 1)))
set_option maxHeartbeats 8000000 in
set_option maxRecDepth 100000 in
theorem jX.calls(F:Bool)(D:Option Addr)(E:Nat)(z:List Int)(r:Int)(w:World)(L:Kd.C (Kd.int .u32) w D z.length z)(O:z.length≤E)(H:jX.f F z=some r):
 Calls Tryz.prog 206 #[.agg #[.bool F,.slice D z.length E]] w λ e w'=>e= .returned (.int .i64 r)∧Below w.heap.size w w':=by
 have hu64:=Tryz.underlying64;have I:=ah.mk L;have J:=ah.mk O;clear L O;have HB:=ah.mk (Below.refl w.heap.size w);unfold jX.f at H;revert H;refine bi λ t130 A2 H=>?_;obtain rfl|rfl:=tb t130
 .replace H:=it H
  obtain rfl:=Option.some.inj H;go_enter Tryz.func206,Tryz.ntmps206
  go_wp2_with (first|((with_reducible refine gd 1 rfl ?_);refine bx #[.bool F,.slice D z.length E] 64 ?_;intro T hg w4 s hb;have U:=kz hg;have X:=kz hg;replace HB:=kh hb;clear hb hg;have hcz5_0:=z2 s)|((with_reducible refine gc 233 rfl ?_);refine gl (some 5) Tryz.func233 (args:= #[.agg #[.bool F,.slice D z.length E]]) (dZ.calls F _ _ z true _ (sC I) J.out A2.out) ?_;rintro e w6 ⟨rfl,hb⟩;refine⟨_,rfl,?_⟩;replace s:=kb s hb;replace HB:=kh hb;clear hb))
  go_ret;exact⟨rW,hB⟩
 .replace H:=jf H
  obtain rfl|rfl:=tb F
  .replace H:=it H
   obtain rfl:=Option.some.inj H;go_enter Tryz.func206,Tryz.ntmps206
   go_wp2_with (first|((with_reducible refine gd 1 rfl ?_);refine bx #[.bool true,.slice D z.length E] 64 ?_;intro T hg w8 s hb;have U:=kz hg;have X:=kz hg;replace HB:=kh hb;clear hb hg;have hcz9_0:=z2 s)|((with_reducible refine gc 233 rfl ?_);refine gl (some 5) Tryz.func233 (args:= #[.agg #[.bool true,.slice D z.length E]]) (dZ.calls true _ _ z false _ (sC I) J.out A2.out) ?_;rintro e w10 ⟨rfl,hb⟩;refine⟨_,rfl,?_⟩;replace s:=kb s hb;replace HB:=kh hb;clear hb;have hcz11_0:=z2 s))
   go_ret;exact⟨rW,hB⟩
  .replace H:=jf H
   obtain rfl:=Option.some.inj H;go_enter Tryz.func206,Tryz.ntmps206
   go_wp2_with (first|((with_reducible refine gd 1 rfl ?_);refine bx #[.bool false,.slice D z.length E] 64 ?_;intro T hg w12 s hb;have U:=kz hg;have X:=kz hg;replace HB:=kh hb;clear hb hg;have hcz13_0:=z2 s)|((with_reducible refine gc 233 rfl ?_);refine gl (some 5) Tryz.func233 (args:= #[.agg #[.bool false,.slice D z.length E]]) (dZ.calls false _ _ z false _ (sC I) J.out A2.out) ?_;rintro e w14 ⟨rfl,hb⟩;refine⟨_,rfl,?_⟩;replace s:=kb s hb;replace HB:=kh hb;clear hb;have hcz15_0:=z2 s))
   go_ret;exact⟨rW,hB⟩
def fV.f(s:Bool)(z:List Int)(D:Bool)(E:List Int)(F:Bool)(I:Bool):Option (ByteArray):=if I=true then(if F=true then(some (⟨#[116,114,117,101]⟩:ByteArray))else(some (⟨#[102,97,108,115,101]⟩:ByteArray)))else((dS.f s z D E).bind λ J=>(some J))
set_option maxHeartbeats 8000000 in
set_option maxRecDepth 100000 in
theorem fV.calls(E:Bool)(I:Option Addr)(J:Nat)(s:List Int)(F:Bool)(L:Option Addr)(O:Nat)(z:List Int)(T:Bool)(U:Bool)(r:ByteArray)(w:World)(X:Kd.C (Kd.int .u32) w I s.length s)(Y:s.length≤J)(Z:Kd.C (Kd.int .u32) w L z.length z)(aa:z.length≤O)(H:fV.f E s F z T U=some r):
 Calls Tryz.prog 28 #[.agg #[.bool E,.slice I s.length J,.bool F,.slice L z.length O,.bool T,.bool U]] w λ e w'=>e= .returned (.string r)∧Below w.heap.size w w':=by
 have hu68:=Tryz.underlying68;have hu66:=Tryz.underlying66;have af:=ah.mk X;have ag:=ah.mk Y;clear X Y;have al:=ah.mk Z;have am:=ah.mk aa;clear Z aa;have HB:=ah.mk (Below.refl w.heap.size w);unfold fV.f at H;obtain rfl|rfl:=tb U
 .replace H:=it H
  obtain rfl|rfl:=tb T
  .replace H:=it H
   obtain rfl:=Option.some.inj H;go_enter Tryz.func28,Tryz.ntmps28
   go_wp2_with (first|((with_reducible refine gd 1 rfl ?_);refine bx #[.bool E,.slice I s.length J,.bool F,.slice L z.length O,.bool true,.bool true] 68 ?_;intro ab hg w4 D hb;have ac:=kz hg;have ae:=kz hg;replace HB:=kh hb;clear hb hg;have hcz5_0:=z6 D))
   go_ret;exact⟨rW,hB⟩
  .replace H:=jf H
   obtain rfl:=Option.some.inj H;go_enter Tryz.func28,Tryz.ntmps28
   go_wp2_with (first|((with_reducible refine gd 1 rfl ?_);refine bx #[.bool E,.slice I s.length J,.bool F,.slice L z.length O,.bool false,.bool true] 68 ?_;intro ab hg w6 D hb;have ac:=kz hg;have ae:=kz hg;replace HB:=kh hb;clear hb hg;have hcz7_0:=z6 D))
   go_ret;exact⟨rW,hB⟩
 .replace H:=jf H
  revert H;refine bi λ an ao H=>?_;obtain rfl:=Option.some.inj H;go_enter Tryz.func28,Tryz.ntmps28
  go_wp2_with (first|((with_reducible refine gd 1 rfl ?_);refine bx #[.bool E,.slice I s.length J,.bool F,.slice L z.length O,.bool T,.bool false] 68 ?_;intro ab hg w9 D hb;have ac:=kz hg;have ae:=kz hg;replace HB:=kh hb;clear hb hg;have hcz10_0:=z6 D)|((with_reducible refine gc 68 rfl ?_);refine gl (some 9) Tryz.func68 (args:= #[.agg #[.bool E,.slice I s.length J,.bool F,.slice L z.length O]]) (dS.calls E _ _ s F _ _ z an _ (sC af) ag.out (sC al) am.out ao.out) ?_;rintro e w11 ⟨rfl,hb⟩;refine⟨_,rfl,?_⟩;replace D:=kb D hb;replace HB:=kh hb;clear hb))
  go_ret;exact⟨rW,hB⟩
def iZ.f(s:Bool)(z:List Int)(D:Bool)(E:List Int):Option (Bool):=(eu.f s z).bind λ t194=>(if t194≤300 then((eu.f D E).bind λ F=>(some (decide (F≤300))))else(some false))
set_option maxHeartbeats 8000000 in
set_option maxRecDepth 100000 in
theorem iZ.calls(D:Bool)(F:Option Addr)(I:Nat)(z:List Int)(J:Bool)(L:Option Addr)(O:Nat)(E:List Int)(r:Bool)(w:World)(T:Kd.C (Kd.int .u32) w F z.length z)(U:z.length≤I)(X:Kd.C (Kd.int .u32) w L E.length E)(Y:E.length≤O)(H:iZ.f D z J E=some r):
 Calls Tryz.prog 130 #[.agg #[.bool D,.slice F z.length I,.bool J,.slice L E.length O]] w λ e w'=>e= .returned (.bool r)∧Below w.heap.size w w':=by
 have hu66:=Tryz.underlying66;have hu64:=Tryz.underlying64;have Z:=ah.mk T;have aa:=ah.mk U;clear T U;have ab:=ah.mk X;have ac:=ah.mk Y;clear X Y;have HB:=ah.mk (Below.refl w.heap.size w);unfold iZ.f at H;revert H;refine bi λ t194 A2 H=>?_;revert H;refine ci (λ c3 H=>?_) λ c3 H=>?_
 .have an:=decide_eq_true c3
  clear c3;revert H;refine bi λ ao A4 H=>?_;obtain rfl:=Option.some.inj H;go_enter Tryz.func130,Tryz.ntmps130
  go_wp2_with (first|((with_reducible refine gd 1 rfl ?_);refine bx #[.bool D,.slice F z.length I,.bool J,.slice L E.length O] 66 ?_;intro ae hg w5 s hb;have af:=kz hg;have ag:=kz hg;replace HB:=kh hb;clear hb hg;have hcz6_0:=z4 s)|((with_reducible refine gc 128 rfl ?_);refine gl (some 5) Tryz.func128 (args:= #[.agg #[.bool D,.slice F z.length I]]) (eu.calls D _ _ z t194 _ (sC Z) aa.out A2.out) ?_;rintro e w7 ⟨rfl,hb⟩;refine⟨_,rfl,?_⟩;replace s:=kb s hb;replace HB:=kh hb;clear hb;have hcz8_0:=z4 s)|(go_at_call 128;(with_reducible refine(eu.calls J _ _ E ao _ ?al ?am A4.out).mono ?_);(case al=>repeat(first|exact(Kd.eH ab.out HB.out)|(with_reducible refine Kd.zw ?_ _)|(with_reducible refine Kd.zy ?_ _)|(with_reducible refine Kd.zA ?_)));(case am=>exact ac.out);rintro e w9 ⟨rfl,hb⟩;replace s:=kb s hb;replace HB:=kh hb;clear hb))
  go_ret;exact⟨rW,hB⟩
 .have an:=decide_eq_false c3
  clear c3;obtain rfl:=Option.some.inj H;go_enter Tryz.func130,Tryz.ntmps130
  go_wp2_with (first|((with_reducible refine gd 1 rfl ?_);refine bx #[.bool D,.slice F z.length I,.bool J,.slice L E.length O] 66 ?_;intro ae hg w10 s hb;have af:=kz hg;have ag:=kz hg;replace HB:=kh hb;clear hb hg;have hcz11_0:=z4 s)|((with_reducible refine gc 128 rfl ?_);refine gl (some 5) Tryz.func128 (args:= #[.agg #[.bool D,.slice F z.length I]]) (eu.calls D _ _ z t194 _ (sC Z) aa.out A2.out) ?_;rintro e w12 ⟨rfl,hb⟩;refine⟨_,rfl,?_⟩;replace s:=kb s hb;replace HB:=kh hb;clear hb))
  go_ret;exact⟨rW,hB⟩
def gI.f(k:Nat)(l0:List Int)(a1:Int):Option (List Int):=(bq.f k (IntKind.u64.wrap (a1))).bind λ s=>((aN.f k l0 s).bind λ z=>(some z))
set_option maxHeartbeats 8000000 in
set_option maxRecDepth 100000 in
theorem gI.calls(k:Nat)(A0:Option Addr)(c0:Nat)(l0:List Int)(a1:Int)(r:List Int)(w:World)(hr0:Kd.C (Kd.int .i64) w A0 l0.length l0)(hc0:l0.length≤c0)(H:gI.f k l0 a1=some r):
 Calls Tryz.prog 267 #[.slice A0 l0.length c0,.int .i64 a1] w λ e w'=>∃E:Value,e= .returned (E)∧Kd.V (Kd.int .i64) 3 w' w.heap.size (λ k_=>(w.heap.size≤k_)) E r∧Below w.heap.size w w':=by
 have L:=ah.mk hr0;have O:=ah.mk hc0;clear hr0 hc0;have HB:=ah.mk (Below.refl w.heap.size w);unfold gI.f at H;revert H;refine bi λ z A3 H=>?_;revert H;refine bi λ J A4 H=>?_;obtain rfl:=Option.some.inj H;go_enter Tryz.func267,Tryz.ntmps267
 go_wp2_with (first|((with_reducible refine gc 137 rfl ?_);refine gl (some 8) Tryz.func137 (args:= #[.int .u64 (IntKind.u64.wrap (a1))]) (bq.calls k (IntKind.u64.wrap (a1)) z _ A3.out) ?_;rintro e w5 ⟨v414,rfl,ho0,hb⟩;refine⟨_,rfl,?_⟩;have s:=kN ho0;replace HB:=kh hb;clear hb ho0;obtain⟨F,I,T⟩:=Kd.dR s.out;subst T)|((with_reducible refine gc 184 rfl ?_);refine gl (some 9) Tryz.func184 (args:= #[.slice A0 l0.length c0,.slice F z.length I]) (aN.calls k _ _ l0 _ _ z J _ (sC L) O.out (sc ((Kd.d9 s.out).2.2)) ((Kd.d9 s.out).2.1) A4.out) ?_;rintro e w7 ⟨v417,rfl,ho0,hb⟩;refine⟨_,rfl,?_⟩;have D:=ah.mk (Kd.lM (Kd.bU (ok':=λ k_=>(w.heap.size≤k_)∧some k_≠(.slice F z.length I:Value).ownBlock) ho0 (λ k_ gG=>⟨(Nat.le_trans (bG hB) gG),(Kd.fresh' (Kd.qB (kd s)) k_ gG)⟩)) (bG hB));replace s:=kR s hb;replace HB:=kh hb;clear hb ho0))
 go_ret;exact⟨_,rW,kv D,hB⟩
def dB.j0:Nat->ByteArray->Bool->List Int->List Int->Option (ByteArray)
 |0,_,_,_,_=>none
 |k+1,x3,z,D,s=>(fQ.f k z D s).bind λ F=>(if F=true then(some x3)else(if x3.size+1≤9223372036854775807 then((aQ.f k s).bind λ E=>(if(x3++(⟨#[47]⟩:ByteArray)).size+E.size≤9223372036854775807 then(some ((x3++(⟨#[47]⟩:ByteArray))++E))else(none)))else(none)))
def dB.f(k:Nat)(s:Bool)(z:List Int)(E:List Int):Option (ByteArray):=(aQ.f k z).bind λ D=>(if s=true then(if 1+D.size≤9223372036854775807 then(dB.j0 k ((⟨#[45]⟩:ByteArray)++D) s z E)else(none))else(dB.j0 k D s z E))
set_option maxHeartbeats 8000000 in
set_option maxRecDepth 100000 in
theorem dB.calls(k:Nat)(E:Bool)(F:Option Addr)(I:Nat)(z:List Int)(J:Option Addr)(L:Nat)(D:List Int)(r:ByteArray)(w:World)(ab:Kd.C (Kd.int .i64) w F z.length z)(ac:z.length≤I)(ae:Kd.C (Kd.int .i64) w J D.length D)(af:D.length≤L)(H:dB.f k E z D=some r):
 Calls Tryz.prog 66 #[.agg #[.bool E,.slice F z.length I,.slice J D.length L]] w λ e w'=>e= .returned (.string r)∧Below w.heap.size w w':=by
 have hu122:=Tryz.underlying122;have T:=ah.mk ab;have U:=ah.mk ac;clear ab ac;have X:=ah.mk ae;have Y:=ah.mk af;clear ae af;have HB:=ah.mk (Below.refl w.heap.size w);unfold dB.f at H;revert H;refine bi λ Z A2 H=>?_;have ag:=ah.mk H;clear H;go_enter Tryz.func66,Tryz.ntmps66
 go_upto_if 8 with(first|((with_reducible refine gd 1 rfl ?_);refine bx #[.bool E,.slice F z.length I,.slice J D.length L] 122 ?_;intro ao hg w4 s hb;have GW538:=kz hg;have GE538:=kz hg;replace HB:=kh hb;clear hb hg;have al:=z3 s)|((with_reducible refine gc 138 rfl ?_);refine gl (some 6) Tryz.func138 (args:= #[.slice F z.length I]) (aQ.calls k _ _ z Z _ (sC T) U.out A2.out) ?_;rintro e w6 ⟨rfl,hb⟩;refine⟨_,rfl,?_⟩;replace s:=kb s hb;replace HB:=kh hb;clear hb;have am:=z3 s))
 (try simp only[Act.put,List.setIfInBounds_toArray,List.set_cons_zero,List.set_cons_succ])
 go_cut [3] (λ v3 wc=>∃(kq:Nat)(O:ByteArray),v3= .string O∧ah (dB.j0 kq O E z D=some r)∧ah (kq≤k)∧ah (wc.heap[ao]? =some (.cells #[.bool E,(.slice F z.length I),(.slice J D.length L)] 122 (0,0)))∧ah (Below w.heap.size w wc))
 case first=>
  have H:=ag.out;clear ag;obtain rfl|rfl:=tb E
  .replace H:=it H
   revert H;refine cn λ c9 H=>?_;have c9b0:=eq_true c9;have c9b1:=decide_eq_true c9;try have c9b2:(9223372036854775807<1+Z.size)=False:=eq_false (Nat.not_lt.2 c9)
   have H':=ah.mk H;clear H;go_wp2;go_meet
   case rel=>exact⟨_,((⟨#[45]⟩:ByteArray)++Z),rS,H',⟨by first|omega|exact Nat.le_refl _⟩,⟨kd s⟩,⟨hB⟩⟩
  .replace H:=jf H
   have H':=ah.mk H;clear H;go_wp2;go_meet
   case rel=>exact⟨_,(Z),rS,H',⟨by first|omega|exact Nat.le_refl _⟩,⟨kd s⟩,⟨hB⟩⟩
 case rest=>
  clear ag;clear al am;obtain⟨kq,O,rfl,HA,HJ2,s,HB⟩:=hcut;cases kq with
  |zero=>exact absurd HA.out (by simp[dB.j0])
  |succ an=>
   have H:=HA.out;clear HA;simp only[dB.j0]at H;revert H;refine bi λ aq ap H=>?_;obtain rfl|rfl:=tb aq
   .replace H:=it H
    obtain rfl:=Option.some.inj H;have hcz12_0:=z3 s
    go_wp2_with (first|((with_reducible refine gc 139 rfl ?_);refine gl (some 12) Tryz.func139 (args:= #[.agg #[.bool E,.slice F z.length I,.slice J D.length L]]) (fQ.calls an E _ _ z _ _ D true _ (sC T) U.out (sC X) Y.out ap.out) ?_;rintro e w13 ⟨rfl,hb⟩;refine⟨_,rfl,?_⟩;replace s:=kb s hb;replace HB:=kh hb;clear hb))
    go_ret;exact⟨rW,hB⟩
   .replace H:=jf H
    revert H;refine cn λ c14 H=>?_;have c14b0:=eq_true c14;have c14b1:=decide_eq_true c14;try have c14b2:(9223372036854775807<O.size+1)=False:=eq_false (Nat.not_lt.2 c14)
    revert H;refine bi λ aa ar H=>?_;revert H;refine cn λ c16 H=>?_;have c16b0:=eq_true c16;have c16b1:=decide_eq_true c16;try have c16b2:(9223372036854775807<(O++(⟨#[47]⟩:ByteArray)).size+aa.size)=False:=eq_false (Nat.not_lt.2 c16)
    try have c16b2x:(9223372036854775807<O.size+1+aa.size)=False:=eq_false (by have h_:=c16;simp only[ByteArray.size_append]at h_;have h2_:(⟨#[47]⟩:ByteArray).size=1:=rfl;omega)
    obtain rfl:=Option.some.inj H;have hcz17_0:=z3 s
    go_wp2_with (first|((with_reducible refine gc 139 rfl ?_);refine gl (some 12) Tryz.func139 (args:= #[.agg #[.bool E,.slice F z.length I,.slice J D.length L]]) (fQ.calls an E _ _ z _ _ D false _ (sC T) U.out (sC X) Y.out ap.out) ?_;rintro e w18 ⟨rfl,hb⟩;refine⟨_,rfl,?_⟩;replace s:=kb s hb;replace HB:=kh hb;clear hb;have hcz19_0:=z3 s)|((with_reducible refine gc 138 rfl ?_);refine gl (some 18) Tryz.func138 (args:= #[.slice J D.length L]) (aQ.calls an _ _ D aa _ (sC X) Y.out ar.out) ?_;rintro e w20 ⟨rfl,hb⟩;refine⟨_,rfl,?_⟩;replace s:=kb s hb;replace HB:=kh hb;clear hb))
    go_ret;exact⟨rW,hB⟩
def jd.f(k:Nat)(z:ByteArray)(s:Int)(D:Bool):Option (Bool):=(aT.f k z).bind λ E=>(if E=true then(if s≥0 then(if s≤6 then(if D=true then(some (s==0))else(some true))else(some false))else(some false))else(some false))
set_option maxHeartbeats 8000000 in
set_option maxRecDepth 100000 in
theorem jd.calls(k:Nat)(s:ByteArray)(D:Int)(E:Bool)(r:Bool)(w:World)(H:jd.f k s D E=some r):
 Calls Tryz.prog 30 #[.agg #[.string s,.int .i64 D,.bool E]] w λ e w'=>e= .returned (.bool r)∧Below w.heap.size w w':=by
 have hu25:=Tryz.underlying25;have HB:=ah.mk (Below.refl w.heap.size w);unfold jd.f at H;revert H;refine bi λ L A2 H=>?_;obtain rfl|rfl:=tb L
 .replace H:=it H
  revert H;refine ci (λ c4 H=>?_) λ c4 H=>?_
  .have O:=decide_eq_true c4
   clear c4;revert H;refine ci (λ c5 H=>?_) λ c5 H=>?_
   .have T:=decide_eq_true c5
    clear c5;obtain rfl|rfl:=tb E
    .replace H:=it H
     obtain rfl:=Option.some.inj H;go_enter Tryz.func30,Tryz.ntmps30
     go_wp2_with (first|((with_reducible refine gd 1 rfl ?_);refine bx #[.string s,.int .i64 D,.bool true] 25 ?_;intro F hg w7 z hb;have I:=kz hg;have J:=kz hg;replace HB:=kh hb;clear hb hg;have hcz8_0:=z3 z)|((with_reducible refine gc 22 rfl ?_);refine gl (some 5) Tryz.func22 (args:= #[.string s]) (aT.calls k s true _ A2.out) ?_;rintro e w' ⟨rfl,⟨nd,rfl⟩⟩;refine⟨_,rfl,?_⟩))
     go_ret;exact⟨rW,hB⟩
    .replace H:=jf H
     obtain rfl:=Option.some.inj H;go_enter Tryz.func30,Tryz.ntmps30
     go_wp2_with (first|((with_reducible refine gd 1 rfl ?_);refine bx #[.string s,.int .i64 D,.bool false] 25 ?_;intro F hg w9 z hb;have I:=kz hg;have J:=kz hg;replace HB:=kh hb;clear hb hg;have hcz10_0:=z3 z)|((with_reducible refine gc 22 rfl ?_);refine gl (some 5) Tryz.func22 (args:= #[.string s]) (aT.calls k s true _ A2.out) ?_;rintro e w' ⟨rfl,⟨nd,rfl⟩⟩;refine⟨_,rfl,?_⟩))
     go_ret;exact⟨rW,hB⟩
   .have T:=decide_eq_false c5
    clear c5;obtain rfl:=Option.some.inj H;go_enter Tryz.func30,Tryz.ntmps30
    go_wp2_with (first|((with_reducible refine gd 1 rfl ?_);refine bx #[.string s,.int .i64 D,.bool E] 25 ?_;intro F hg w11 z hb;have I:=kz hg;have J:=kz hg;replace HB:=kh hb;clear hb hg;have hcz12_0:=z3 z)|((with_reducible refine gc 22 rfl ?_);refine gl (some 5) Tryz.func22 (args:= #[.string s]) (aT.calls k s true _ A2.out) ?_;rintro e w' ⟨rfl,⟨nd,rfl⟩⟩;refine⟨_,rfl,?_⟩))
    go_ret;exact⟨rW,hB⟩
  .have O:=decide_eq_false c4
   clear c4;obtain rfl:=Option.some.inj H;go_enter Tryz.func30,Tryz.ntmps30
   go_wp2_with (first|((with_reducible refine gd 1 rfl ?_);refine bx #[.string s,.int .i64 D,.bool E] 25 ?_;intro F hg w13 z hb;have I:=kz hg;have J:=kz hg;replace HB:=kh hb;clear hb hg;have hcz14_0:=z3 z)|((with_reducible refine gc 22 rfl ?_);refine gl (some 5) Tryz.func22 (args:= #[.string s]) (aT.calls k s true _ A2.out) ?_;rintro e w' ⟨rfl,⟨nd,rfl⟩⟩;refine⟨_,rfl,?_⟩))
   go_ret;exact⟨rW,hB⟩
 .replace H:=jf H
  obtain rfl:=Option.some.inj H;go_enter Tryz.func30,Tryz.ntmps30
  go_wp2_with (first|((with_reducible refine gd 1 rfl ?_);refine bx #[.string s,.int .i64 D,.bool E] 25 ?_;intro F hg w15 z hb;have I:=kz hg;have J:=kz hg;replace HB:=kh hb;clear hb hg;have hcz16_0:=z3 z)|((with_reducible refine gc 22 rfl ?_);refine gl (some 5) Tryz.func22 (args:= #[.string s]) (aT.calls k s false _ A2.out) ?_;rintro e w' ⟨rfl,⟨nd,rfl⟩⟩;refine⟨_,rfl,?_⟩))
  go_ret;exact⟨rW,hB⟩
end Go.Proofs.Ct.Q
