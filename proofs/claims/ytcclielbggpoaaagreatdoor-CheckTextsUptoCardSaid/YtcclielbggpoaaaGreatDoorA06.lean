/- Part of the proof of CheckTexts (see the last text). -/
import Derived.Test.YtcclielbggpoaaaGreatDoorA04
set_option linter.all false
namespace Go.Proofs.Ct.Q
open Go.RowKit Go.Proofs.aA.ak Go.Proofs.aA.aC Go.Proofs.aA.aG
attribute [local go_sem] aW aX bA bB
def bL.l0:Nat->List Int->Int->Option (List Int)
 |0,_,_=>none
 |k+1,x0,x3=>if x3>0 then(if 0≤(wrap64 (x3-1))then(if(wrap64 (x3-1))<(x0.length:Int)then(if(rd x0 (wrap64 (x3-1)))=0 then(bL.l0 k x0 (wrap64 (x3-1)))else(if 0≤x3 then(if x3≤(x0.length:Int)then(some (x0.take (x3:Int).toNat))else(none))else(none)))else(none))else(none))else(if 0≤x3 then(if x3≤(x0.length:Int)then(some (x0.take (x3:Int).toNat))else(none))else(none))
def bL.f(k:Nat)(l0:List Int):Option (List Int):=bL.l0 k l0 (l0.length:Int)
set_option maxHeartbeats 8000000 in
set_option maxRecDepth 100000 in
theorem bL.calls(k:Nat)(ab:Nat->Prop)(A0:Option Addr)(c0:Nat)(l0:List Int)(r:List Int)(w:World)(hs0:Kd.V (Kd.int .i64) 3 w w.heap.size (λ k_=>ab k_) (.slice A0 l0.length c0) l0)(H:bL.f k l0=some r):
 Calls Tryz.prog 263 #[.slice A0 l0.length c0] w λ e w'=>∃ay:Value,e= .returned (ay)∧Kd.V (Kd.int .i64) 3 w' w.heap.size (λ k_=>(ab k_∨w.heap.size≤k_)) ay r∧Below w.heap.size w w':=by
 have aS:=ah.mk (show Kd.V (Kd.int .i64) 3 w w.heap.size (λ k_=>(ab k_∨w.heap.size≤k_)) (.slice A0 l0.length c0) l0 from Kd.bU hs0 (λ k_ hk=> .inl hk));have HB:=ah.mk (Below.refl w.heap.size w);unfold bL.f at H;have H':=ah.mk H;clear H;go_enter Tryz.func263,Tryz.ntmps263;go_wp2;go_loopg [3] k (λ kq v3 w'=>∃(s:Int),v3= .int .i64 s∧ah (bL.l0 kq l0 s=some r)∧ah (kq≤k)∧ah (Kd.V (Kd.int .i64) 3 w' w.heap.size (λ k_=>(ab k_∨w.heap.size≤k_)) (.slice A0 l0.length c0) l0)∧ah (Below w.heap.size w w'))
 case atStart=>exact⟨((l0.length:Int)),rS,H',⟨Nat.le_refl _⟩,⟨kd aS⟩,⟨hB⟩⟩
 case round=>
  clear H';obtain⟨s,rfl,HA,az,z,HB⟩:=hrel;cases gk with
  |zero=>exact absurd HA.out (by simp[bL.l0])
  |succ k1=>
   have H:=HA.out;clear HA;simp only[bL.l0]at H;revert H;refine ci (λ c2 H=>?_) λ c2 H=>?_
   .have aD:=decide_eq_true c2
    clear c2;obtain⟨D,I⟩:∃a0,(wrap64 (s-1))=a0:=⟨_,rfl⟩;first|rw[I]at H|simp only[I]at H
    have hji3w:(IntKind.i64.wrap (s-1))=D:=(eY _).trans I;revert H;refine cn λ c4 H=>?_;have c4b0:=decide_eq_true c4;clear c4;revert H;refine cn λ c5 H=>?_;have c5b0:=decide_eq_true c5;clear c5;revert H;refine ci (λ c6 H=>?_) λ c6 H=>?_
    .have aE:((rd l0 (D))==0)=true:=beq_iff_eq.mpr c6
     have aF:((rd l0 (D)) !=0)=false:=bne_eq_false_iff_eq.mpr c6;clear c6;have H':=ah.mk H;clear H;obtain⟨E,Y,ag,aL,aO⟩:=ai (Kd.aH z.out).2.2 (D);cases Y;go_wp2;go_roundg k1
     case measure=>have:=az.out;omega
     case rel=>exact⟨(D),(by first|rfl|(simp;done)|(simp only[<-I]<;>(first|rfl|simp))|(simp[*];done)),H',⟨by have:=az.out;omega⟩,⟨kd z⟩,⟨hB⟩⟩
    .have aE:((rd l0 (D))==0)=false:=beq_eq_false_iff_ne.mpr c6
     have aF:((rd l0 (D)) !=0)=true:=bne_iff_ne.mpr c6;revert H;refine cn λ c7 H=>?_;have c7b0:=eq_true c7;have c7b1:=decide_eq_true c7;clear c7;revert H;refine cn λ c8 H=>?_;have c8b0:=eq_true c8;have c8b1:=decide_eq_true c8;clear c8;first|(revert H;with_reducible refine gy λ J T H=>?_)|(generalize ac:((l0.take (s:Int).toNat):List Int)=J at H;have T:=ah.mk ac.symm;clear ac)
     obtain rfl:=Option.some.inj H;obtain⟨E,Y,ag,aL,aO⟩:=ai (Kd.aH z.out).2.2 (D);cases Y;have aP:(s:Int)≤((l0.length:Int):Int):=oA;obtain⟨i09,al,_,aR,_⟩:=info_parts info3;have X:l0.length≤c0:=(Kd.aH z.out).2.1;have aB:Kd.F (Kd.int .i64) _ _ (some E) l0.length l0:=(Kd.Aq (base:=w.heap.size) z.out).2.2;have ar:=KU (P:=Tryz.prog) 120 3 .i64 Tryz.underlying120 al (some E) l0.length c0 s oA aP X;have am:=Kd.Fj (m:=(s:Int).toNat) aB (by omega);have an:J.length=(s:Int).toNat:=(by rw[T.out,List.length_take];omega);rw[<-T.out]at am;rw[<-an]at ar;have av:=ah.mk (show Kd.V (Kd.int .i64) 3 _ w.heap.size _ (.slice (some E) J.length c0) J from Kd.BS (by omega) am);have HC373:=ah.mk (show J.length≤c0 from by omega);clear am aB X al aR;have KY9:=ah.mk an;clear an;replace aP:=eq_true aP;go_wp2;go_ret;exact⟨_,by first|rfl|(simp[eP,eT]<;>rfl)|(simp only[<-I];first|rfl|(simp[eP,eT]<;>rfl))|(simp[*,eP,eT]<;>rfl),kd av,hB⟩
   .have aD:=decide_eq_false c2
    clear c2;revert H;refine cn λ c10 H=>?_;have c10b0:=eq_true c10;have c10b1:=decide_eq_true c10;clear c10;revert H;refine cn λ c11 H=>?_;have c11b0:=eq_true c11;have c11b1:=decide_eq_true c11;clear c11;first|(revert H;with_reducible refine gy λ L U H=>?_)|(generalize ae:((l0.take (s:Int).toNat):List Int)=L at H;have U:=ah.mk ae.symm;clear ae)
    obtain rfl:=Option.some.inj H;have ao:(s:Int)≤((l0.length:Int):Int):=oA;obtain⟨i012,af,_,aw,_⟩:=info_parts info3;have O:l0.length≤c0:=(Kd.aH z.out).2.1;have ap:Kd.F (Kd.int .i64) _ _ A0 l0.length l0:=(Kd.Aq (base:=w.heap.size) z.out).2.2;have aq:=KU (P:=Tryz.prog) 120 3 .i64 Tryz.underlying120 af A0 l0.length c0 s oA ao O;have Z:=Kd.Fj (m:=(s:Int).toNat) ap (by omega);have aa:L.length=(s:Int).toNat:=(by rw[U.out,List.length_take];omega);rw[<-U.out]at Z;rw[<-aa]at aq;have ax:=ah.mk (show Kd.V (Kd.int .i64) 3 _ w.heap.size _ (.slice A0 L.length c0) L from Kd.BS (by omega) Z);have HC378:=ah.mk (show L.length≤c0 from by omega);clear Z ap O af aw;have KY12:=ah.mk aa;clear aa;replace ao:=eq_true ao;go_wp2;go_ret;exact⟨_,rW,kd ax,hB⟩
def iQ.f(s:ByteArray)(E:Int)(F:Bool)(z:ByteArray)(I:Int)(D:Bool):Option (Bool):=if s.toList=z.toList then(if(F !=D)=true then(some D)else(some (decide (E<I))))else(some (Op.bytesLess s.toList z.toList))
set_option maxHeartbeats 8000000 in
set_option maxRecDepth 100000 in
theorem iQ.calls(I:ByteArray)(O:Int)(E:Bool)(J:ByteArray)(T:Int)(F:Bool)(r:Bool)(w:World)(H:iQ.f I O E J T F=some r):
 Calls Tryz.prog 69 #[.agg #[.string I,.int .i64 O,.bool E],.agg #[.string J,.int .i64 T,.bool F]] w λ e w'=>e= .returned (.bool r)∧Below w.heap.size w w':=by
 have hu25:=Tryz.underlying25;have HB:=ah.mk (Below.refl w.heap.size w);unfold iQ.f at H;revert H;refine ci (λ c3 H=>?_) λ c3 H=>?_
 .have ac:(I.toList==J.toList)=true:=beq_iff_eq.mpr c3
  have ae:(I.toList !=J.toList)=false:=bne_eq_false_iff_eq.mpr c3;clear c3;revert H;refine ci (λ c4 H=>?_) λ c4 H=>?_
  .have af:(E !=F)=true:=c4
   (try(have ag:decide (E=F)=false:=by simpa using c4))
   (try(have al:(E==F)=false:=by simpa using c4))
   (try(have c4b3:¬(E=F):=by simpa using c4))
   clear c4;obtain rfl:=Option.some.inj H;go_enter Tryz.func69,Tryz.ntmps69
   go_wp2_with (first|((with_reducible refine gd 2 rfl ?_);refine bx #[.string I,.int .i64 O,.bool E] 25 ?_;intro U hg w5 s hb;have X:=kz hg;have Y:=kz hg;replace HB:=kh hb;clear hb hg)|((with_reducible refine gd 3 rfl ?_);refine bx #[.string J,.int .i64 T,.bool F] 25 ?_;intro Z hg w6 L hb;have aa:=kz hg;have ab:=kz hg;replace HB:=kh hb;have z:=kl s hg;have D:=kr s hg;replace s:=kb s hb;clear hb hg;have hnb7:=z.out;have hnc7:=D.out;have hcz8_0:=z3 s;have hcz9_0:=z3 L))
   go_ret;exact⟨rW,hB⟩
  .have af:(E !=F)=false:=by simpa using c4
   (try(have ag:decide (E=F)=true:=by simpa using c4))
   (try(have al:(E==F)=true:=by simpa using c4))
   clear c4;obtain rfl:=Option.some.inj H;go_enter Tryz.func69,Tryz.ntmps69
   go_wp2_with (first|((with_reducible refine gd 2 rfl ?_);refine bx #[.string I,.int .i64 O,.bool E] 25 ?_;intro U hg w10 s hb;have X:=kz hg;have Y:=kz hg;replace HB:=kh hb;clear hb hg)|((with_reducible refine gd 3 rfl ?_);refine bx #[.string J,.int .i64 T,.bool F] 25 ?_;intro Z hg w11 L hb;have aa:=kz hg;have ab:=kz hg;replace HB:=kh hb;have z:=kl s hg;have D:=kr s hg;replace s:=kb s hb;clear hb hg;have hnb12:=z.out;have hnc12:=D.out;have hcz13_0:=z3 s;have hcz14_0:=z3 L))
   go_ret;exact⟨rW,hB⟩
 .have ac:(I.toList==J.toList)=false:=beq_eq_false_iff_ne.mpr c3
  have ae:(I.toList !=J.toList)=true:=bne_iff_ne.mpr c3;obtain rfl:=Option.some.inj H;go_enter Tryz.func69,Tryz.ntmps69
  go_wp2_with (first|((with_reducible refine gd 2 rfl ?_);refine bx #[.string I,.int .i64 O,.bool E] 25 ?_;intro U hg w15 s hb;have X:=kz hg;have Y:=kz hg;replace HB:=kh hb;clear hb hg)|((with_reducible refine gd 3 rfl ?_);refine bx #[.string J,.int .i64 T,.bool F] 25 ?_;intro Z hg w16 L hb;have aa:=kz hg;have ab:=kz hg;replace HB:=kh hb;have z:=kl s hg;have D:=kr s hg;replace s:=kb s hb;clear hb hg;have hnb17:=z.out;have hnc17:=D.out;have hcz18_0:=z3 s;have hcz19_0:=z3 L))
  go_ret;exact⟨rW,hB⟩
def dM.f(a0:Int):Option (Bool):=if a0≥48 then(some (decide (a0≤57)))else(some false)
set_option maxHeartbeats 8000000 in
set_option maxRecDepth 100000 in
theorem dM.calls(a0:Int)(r:Bool)(w:World)(H:dM.f a0=some r):
 Calls Tryz.prog 63 #[.int .u8 a0] w λ e w'=>e= .returned (.bool r)∧aM w w':=by
 unfold dM.f at H;revert H;refine ci (λ c2 H=>?_) λ c2 H=>?_
 .have s:=decide_eq_true c2
  clear c2;obtain rfl:=Option.some.inj H;go_enter Tryz.func63,Tryz.ntmps63;go_wp2;go_ret;exact⟨rS,by repeat(first|exact aM.refl _|apply aM.step)⟩
 .have s:=decide_eq_false c2
  clear c2;obtain rfl:=Option.some.inj H;go_enter Tryz.func63,Tryz.ntmps63;go_wp2;go_ret;exact⟨rS,by repeat(first|exact aM.refl _|apply aM.step)⟩
def dx.f(a0:Int):Option (Bool):=if a0≥97 then(if a0≤122 then(some true)else(if a0≥65 then(some (decide (a0≤90)))else(some false)))else(if a0≥65 then(some (decide (a0≤90)))else(some false))
set_option maxHeartbeats 8000000 in
set_option maxRecDepth 100000 in
theorem dx.calls(a0:Int)(r:Bool)(w:World)(H:dx.f a0=some r):
 Calls Tryz.prog 62 #[.int .u8 a0] w λ e w'=>e= .returned (.bool r)∧aM w w':=by
 unfold dx.f at H;revert H;refine ci (λ c2 H=>?_) λ c2 H=>?_
 .have s:=decide_eq_true c2
  clear c2;revert H;refine ci (λ c3 H=>?_) λ c3 H=>?_
  .have z:=decide_eq_true c3
   clear c3;obtain rfl:=Option.some.inj H;go_enter Tryz.func62,Tryz.ntmps62;go_wp2;go_ret;exact⟨rS,by repeat(first|exact aM.refl _|apply aM.step)⟩
  .have z:=decide_eq_false c3
   clear c3;revert H;refine ci (λ c4 H=>?_) λ c4 H=>?_
   .have D:=decide_eq_true c4
    clear c4;obtain rfl:=Option.some.inj H;go_enter Tryz.func62,Tryz.ntmps62;go_wp2;go_ret;exact⟨rS,by repeat(first|exact aM.refl _|apply aM.step)⟩
   .have D:=decide_eq_false c4
    clear c4;obtain rfl:=Option.some.inj H;go_enter Tryz.func62,Tryz.ntmps62;go_wp2;go_ret;exact⟨rS,by repeat(first|exact aM.refl _|apply aM.step)⟩
 .have s:=decide_eq_false c2
  clear c2;revert H;refine ci (λ c5 H=>?_) λ c5 H=>?_
  .have E:=decide_eq_true c5
   clear c5;obtain rfl:=Option.some.inj H;go_enter Tryz.func62,Tryz.ntmps62;go_wp2;go_ret;exact⟨rS,by repeat(first|exact aM.refl _|apply aM.step)⟩
  .have E:=decide_eq_false c5
   clear c5;obtain rfl:=Option.some.inj H;go_enter Tryz.func62,Tryz.ntmps62;go_wp2;go_ret;exact⟨rS,by repeat(first|exact aM.refl _|apply aM.step)⟩
def cO.l0:Nat->List ByteArray->List ByteArray->Int->Option (Bool)
 |0,_,_,_=>none
 |k+1,x0,x1,x5=>if x5<(x0.length:Int)then(if 0≤x5 then(if x5<(x1.length:Int)then(if(qD ByteArray.empty x0 x5).toList=(qD ByteArray.empty x1 x5).toList then(cO.l0 k x0 x1 (wrap64 (x5+1)))else(some false))else(none))else(none))else(some true)
def cO.f(k:Nat)(l0:List ByteArray)(l1:List ByteArray):Option (Bool):=if(l0.length:Int)=(l1.length:Int)then(cO.l0 k l0 l1 0)else(some false)
set_option maxHeartbeats 8000000 in
set_option maxRecDepth 100000 in
theorem cO.calls(k:Nat)(A0:Option Addr)(c0:Nat)(l0:List ByteArray)(A1:Option Addr)(c1:Nat)(l1:List ByteArray)(r:Bool)(w:World)(hr0:Kd.C Kd.string w A0 l0.length l0)(hc0:l0.length≤c0)(hr1:Kd.C Kd.string w A1 l1.length l1)(hc1:l1.length≤c1)(H:cO.f k l0 l1=some r):
 Calls Tryz.prog 9 #[.slice A0 l0.length c0,.slice A1 l1.length c1] w λ e w'=>e= .returned (.bool r)∧aM w w':=by
 have aa:=ah.mk hr0;have HC0:=ah.mk hc0;clear hr0 hc0;have HR1:=ah.mk hr1;have HC1:=ah.mk hc1;clear hr1 hc1;unfold cO.f at H;revert H;refine ci (λ c3 H=>?_) λ c3 H=>?_
 .have T:((l0.length:Int)==(l1.length:Int))=true:=beq_iff_eq.mpr c3
  have U:((l0.length:Int) !=(l1.length:Int))=false:=bne_eq_false_iff_eq.mpr c3;have X:(l0.length==l1.length)=true:=by first|simpa using c3|(simp at c3|-;omega)
  clear c3;have H':=ah.mk H;clear H;go_enter Tryz.func9,Tryz.ntmps9;go_wp2;repeat(go_quiet (fail);try go_wp2)
  go_loopg [5] k (λ kq v5 w'=>∃(s:Int),v5= .int .i64 s∧ah (cO.l0 kq l0 l1 s=some r)∧ah (kq≤k)∧aM w w')
  case atStart=>exact⟨(0),rS,H',⟨Nat.le_refl _⟩,by repeat(first|exact aM.refl _|apply aM.step)⟩
  case round=>
   clear H';clear T U X;obtain⟨s,rfl,HA,ab,⟨m1,rfl⟩⟩:=hrel;cases gk with
   |zero=>exact absurd HA.out (by simp[cO.l0])
   |succ k1=>
    have H:=HA.out;clear HA;simp only[cO.l0]at H;revert H;refine ci (λ c4 H=>?_) λ c4 H=>?_
    .have ac:=decide_eq_true c4
     clear c4;revert H;refine cn λ c5 H=>?_;have c5b0:=decide_eq_true c5;clear c5;revert H;refine cn λ c6 H=>?_;have c6b0:=decide_eq_true c6;clear c6;revert H;refine ci (λ c7 H=>?_) λ c7 H=>?_
     .have ae:((qD ByteArray.empty l0 s).toList==(qD ByteArray.empty l1 s).toList)=true:=beq_iff_eq.mpr c7
      have af:((qD ByteArray.empty l0 s).toList !=(qD ByteArray.empty l1 s).toList)=false:=bne_eq_false_iff_eq.mpr c7;clear c7;have H':=ah.mk H;clear H;have z:0≤(s:Int):=oA;have D:s<(l0.length:Int):=oA;obtain⟨Y,I,L⟩:=Kd.rF aa.out s z D;cases I;replace z:=eq_true z;replace D:=eq_true D;have E:0≤(s:Int):=oA;have F:s<(l1.length:Int):=oA;obtain⟨Z,J,O⟩:=Kd.rF HR1.out s E F;cases J;replace E:=eq_true E;replace F:=eq_true F;go_wp2;repeat(go_quiet (fail);try go_wp2)
      go_roundg k1
      case measure=>have:=ab.out;omega
      case rel=>exact⟨(wrap64 (s+1)),rS,H',⟨by have:=ab.out;omega⟩,by repeat(first|exact aM.refl _|apply aM.step)⟩
     .have ae:((qD ByteArray.empty l0 s).toList==(qD ByteArray.empty l1 s).toList)=false:=beq_eq_false_iff_ne.mpr c7
      have af:((qD ByteArray.empty l0 s).toList !=(qD ByteArray.empty l1 s).toList)=true:=bne_iff_ne.mpr c7;obtain rfl:=Option.some.inj H;have z:0≤(s:Int):=oA;have D:s<(l0.length:Int):=oA;obtain⟨Y,I,L⟩:=Kd.rF aa.out s z D;cases I;replace z:=eq_true z;replace D:=eq_true D;have E:0≤(s:Int):=oA;have F:s<(l1.length:Int):=oA;obtain⟨Z,J,O⟩:=Kd.rF HR1.out s E F;cases J;replace E:=eq_true E;replace F:=eq_true F;go_wp2;repeat(go_quiet (fail);try go_wp2)
      go_ret;exact⟨rS,by repeat(first|exact aM.refl _|apply aM.step)⟩
    .have ac:=decide_eq_false c4
     clear c4;obtain rfl:=Option.some.inj H;go_wp2;repeat(go_quiet (fail);try go_wp2)
     go_ret;exact⟨rS,by repeat(first|exact aM.refl _|apply aM.step)⟩
 .have T:((l0.length:Int)==(l1.length:Int))=false:=beq_eq_false_iff_ne.mpr c3
  have U:((l0.length:Int) !=(l1.length:Int))=true:=bne_iff_ne.mpr c3;have X:(l0.length==l1.length)=false:=by first|simpa using c3|(simp at c3|-;omega)
  obtain rfl:=Option.some.inj H;go_enter Tryz.func9,Tryz.ntmps9;go_wp2;repeat(go_quiet (fail);try go_wp2)
  go_ret;exact⟨rS,by repeat(first|exact aM.refl _|apply aM.step)⟩
def ko.f(a0:ByteArray):Option (ByteArray):=if a0.toList=([]:List UInt8)then(some (⟨#[45]⟩:ByteArray))else(some a0)
set_option maxHeartbeats 8000000 in
set_option maxRecDepth 100000 in
theorem ko.calls(a0:ByteArray)(r:ByteArray)(w:World)(H:ko.f a0=some r):
 Calls Tryz.prog 25 #[.string a0] w λ e w'=>e= .returned (.string r)∧aM w w':=by
 unfold ko.f at H;revert H;refine ci (λ c2 H=>?_) λ c2 H=>?_
 .have s:(a0.toList==([]:List UInt8))=true:=beq_iff_eq.mpr c2
  have z:(a0.toList !=([]:List UInt8))=false:=bne_eq_false_iff_eq.mpr c2;clear c2;obtain rfl:=Option.some.inj H;go_enter Tryz.func25,Tryz.ntmps25;go_wp2;go_ret;exact⟨rS,by repeat(first|exact aM.refl _|apply aM.step)⟩
 .have s:(a0.toList==([]:List UInt8))=false:=beq_eq_false_iff_ne.mpr c2
  have z:(a0.toList !=([]:List UInt8))=true:=bne_iff_ne.mpr c2;obtain rfl:=Option.some.inj H;go_enter Tryz.func25,Tryz.ntmps25;go_wp2;go_ret;exact⟨rS,by repeat(first|exact aM.refl _|apply aM.step)⟩
def l7.f:Option (List ByteArray):=some (([(⟨#[109,105,115,115,105,110,103]⟩:ByteArray),(⟨#[116,105,109,101]⟩:ByteArray),(⟨#[112,97,114,97,109]⟩:ByteArray),(⟨#[105,110,112,117,116]⟩:ByteArray),(⟨#[101,113]⟩:ByteArray),(⟨#[105,110,105,116]⟩:ByteArray),(⟨#[115,116,97,114,116]⟩:ByteArray),(⟨#[112,114,101]⟩:ByteArray),(⟨#[100,105,115,99,114,101,116,101]⟩:ByteArray),(⟨#[114,101,105,110,105,116]⟩:ByteArray),(⟨#[115,116,101,112]⟩:ByteArray),(⟨#[116,114,105,103,103,101,114]⟩:ByteArray),(⟨#[101,110,100]⟩:ByteArray)]:List ByteArray))
set_option maxHeartbeats 8000000 in
set_option maxRecDepth 100000 in
theorem l7.calls(r:List ByteArray)(w:World)(H:l7.f=some r):
 Calls Tryz.prog 21 #[] w λ e w'=>∃F:Value,e= .returned (F)∧Kd.R Kd.string 9 w' w.heap.size (λ _=>True) F r∧Below w.heap.size w w':=by
 have HB:=ah.mk (Below.refl w.heap.size w);unfold l7.f at H;first|(revert H;with_reducible refine gy λ I s H=>?_)|(generalize z:((([(⟨#[109,105,115,115,105,110,103]⟩:ByteArray),(⟨#[116,105,109,101]⟩:ByteArray),(⟨#[112,97,114,97,109]⟩:ByteArray),(⟨#[105,110,112,117,116]⟩:ByteArray),(⟨#[101,113]⟩:ByteArray),(⟨#[105,110,105,116]⟩:ByteArray),(⟨#[115,116,97,114,116]⟩:ByteArray),(⟨#[112,114,101]⟩:ByteArray),(⟨#[100,105,115,99,114,101,116,101]⟩:ByteArray),(⟨#[114,101,105,110,105,116]⟩:ByteArray),(⟨#[115,116,101,112]⟩:ByteArray),(⟨#[116,114,105,103,103,101,114]⟩:ByteArray),(⟨#[101,110,100]⟩:ByteArray)]:List ByteArray)):List ByteArray)=I at H;have s:=ah.mk z.symm;clear z)
 obtain rfl:=Option.some.inj H;go_enter Tryz.func21,Tryz.ntmps21
 go_wp2_with (first|((with_reducible refine gV (N:=1) rfl ?_);refine Kd.C_ Kd.string _ 9 ?hg (N:=1) ?hd (xs:=([(⟨#[109,105,115,115,105,110,103]⟩:ByteArray),(⟨#[116,105,109,101]⟩:ByteArray),(⟨#[112,97,114,97,109]⟩:ByteArray),(⟨#[105,110,112,117,116]⟩:ByteArray),(⟨#[101,113]⟩:ByteArray),(⟨#[105,110,105,116]⟩:ByteArray),(⟨#[115,116,97,114,116]⟩:ByteArray),(⟨#[112,114,101]⟩:ByteArray),(⟨#[100,105,115,99,114,101,116,101]⟩:ByteArray),(⟨#[114,101,105,110,105,116]⟩:ByteArray),(⟨#[115,116,101,112]⟩:ByteArray),(⟨#[116,114,105,103,103,101,114]⟩:ByteArray),(⟨#[101,110,100]⟩:ByteArray)]:List ByteArray)) (inner:=[.string (⟨#[109,105,115,115,105,110,103]⟩:ByteArray),.string (⟨#[116,105,109,101]⟩:ByteArray),.string (⟨#[112,97,114,97,109]⟩:ByteArray),.string (⟨#[105,110,112,117,116]⟩:ByteArray),.string (⟨#[101,113]⟩:ByteArray),.string (⟨#[105,110,105,116]⟩:ByteArray),.string (⟨#[115,116,97,114,116]⟩:ByteArray),.string (⟨#[112,114,101]⟩:ByteArray),.string (⟨#[100,105,115,99,114,101,116,101]⟩:ByteArray),.string (⟨#[114,101,105,110,105,116]⟩:ByteArray),.string (⟨#[115,116,101,112]⟩:ByteArray),.string (⟨#[116,114,105,103,103,101,114]⟩:ByteArray),.string (⟨#[101,110,100]⟩:ByteArray)]) (ok:=λ _=>True) (kZ:=λ _=>True) ?hr ?hp (λ _ hk=>hk) trivial (Below.refl _ _) (Nat.le_refl _) (by simp) ?_;(case hd=>rfl);(case hg=>rfl);(case hr=>first|(go_simp;done)|(go_simp;rfl));(case hp=>exact(dY.one (show Kd.M Kd.string _ _ _ (⟨#[109,105,115,115,105,110,103]⟩:ByteArray) [.string (⟨#[109,105,115,115,105,110,103]⟩:ByteArray)]from rfl) (dY.one (show Kd.M Kd.string _ _ _ (⟨#[116,105,109,101]⟩:ByteArray) [.string (⟨#[116,105,109,101]⟩:ByteArray)]from rfl) (dY.one (show Kd.M Kd.string _ _ _ (⟨#[112,97,114,97,109]⟩:ByteArray) [.string (⟨#[112,97,114,97,109]⟩:ByteArray)]from rfl) (dY.one (show Kd.M Kd.string _ _ _ (⟨#[105,110,112,117,116]⟩:ByteArray) [.string (⟨#[105,110,112,117,116]⟩:ByteArray)]from rfl) (dY.one (show Kd.M Kd.string _ _ _ (⟨#[101,113]⟩:ByteArray) [.string (⟨#[101,113]⟩:ByteArray)]from rfl) (dY.one (show Kd.M Kd.string _ _ _ (⟨#[105,110,105,116]⟩:ByteArray) [.string (⟨#[105,110,105,116]⟩:ByteArray)]from rfl) (dY.one (show Kd.M Kd.string _ _ _ (⟨#[115,116,97,114,116]⟩:ByteArray) [.string (⟨#[115,116,97,114,116]⟩:ByteArray)]from rfl) (dY.one (show Kd.M Kd.string _ _ _ (⟨#[112,114,101]⟩:ByteArray) [.string (⟨#[112,114,101]⟩:ByteArray)]from rfl) (dY.one (show Kd.M Kd.string _ _ _ (⟨#[100,105,115,99,114,101,116,101]⟩:ByteArray) [.string (⟨#[100,105,115,99,114,101,116,101]⟩:ByteArray)]from rfl) (dY.one (show Kd.M Kd.string _ _ _ (⟨#[114,101,105,110,105,116]⟩:ByteArray) [.string (⟨#[114,101,105,110,105,116]⟩:ByteArray)]from rfl) (dY.one (show Kd.M Kd.string _ _ _ (⟨#[115,116,101,112]⟩:ByteArray) [.string (⟨#[115,116,101,112]⟩:ByteArray)]from rfl) (dY.one (show Kd.M Kd.string _ _ _ (⟨#[116,114,105,103,103,101,114]⟩:ByteArray) [.string (⟨#[116,114,105,103,103,101,114]⟩:ByteArray)]from rfl) (dY.one (show Kd.M Kd.string _ _ _ (⟨#[101,110,100]⟩:ByteArray) [.string (⟨#[101,110,100]⟩:ByteArray)]from rfl) (dY.none _ _)))))))))))))));intro v360 w1 ho2 hb J D;clear J D;(first|rw[<-s.out]at ho2|(simp only[Int.reduceToNat]at ho2;rw[<-s.out]at ho2));have E:=kO ho2;replace HB:=kh hb;clear hb ho2))
 go_ret;exact⟨_,rW,kd E,hB⟩
theorem TM(d:Nat)(w:World)(x0 y0:ByteArray)(x1 y1:Int)(x2 y2:Bool):
 (Op.equalIn (d+2) 25 (.agg #[.string x0,.int .i64 x1,.bool x2]) (.agg #[.string y0,.int .i64 y1,.bool y2])).run Tryz.prog w= .ok (x0.toList==y0.toList&&(x1==y1&&(x2==y2))) w:=by
 refine Xt Tryz.underlying25 (by kernel_rfl) ?_;refine KV (by rfl) (by go_simp;rfl) (by go_simp;rfl) (by go_simp) ?_;refine KV (by rfl) (by go_simp;rfl) (by go_simp;rfl) (by go_simp) ?_;exact SQ (by rfl) (by go_simp;rfl) (by go_simp;rfl) (by go_simp)
def aZ.l0:Nat->List Int->Int->Int->Option (List Int)
 |0,_,_,_=>none
 |k+1,x0,x2,x3=>if x2<x3 then(if 0≤x3 then(if x3<(x0.length:Int)then(if 0≤x2 then(if x2<(x0.length:Int)then(aZ.l0 k ((x0.set (x2:Int).toNat (rd x0 x3)).set (x3:Int).toNat (rd x0 x2)) (wrap64 (x2+1)) (wrap64 (x3-1)))else(none))else(none))else(none))else(none))else(some x0)
def aZ.f(k:Nat)(l0:List Int):Option (List Int):=aZ.l0 k l0 0 (wrap64 ((l0.length:Int)-1))
def aZ.T3:Bool×List (List Nat×List Nat):=(true,[([],[]),([],[]),([],[]),([],[]),([],[]),([],[]),([4,5],[4,5]),([6],[6]),([],[]),([],[]),([8,9],[8,9]),([10],[10]),([0,1,0,1,4,5,6,7,11],[0,1]),([12,7,0,1,4,5,6,7,11],[7,12]),([2,3,0,1,2,3,4,5,6,7,8,9,10,11,12,13],[2,3]),([14,11,13,0,1,2,3,4,5,6,7,8,9,10,11,12,13],[11,14])])
def aZ.B3:List Nat:=[0,0,0,0,0,0,48,112,0,0,768,1792,4083,8179,16383,32767]
theorem aZ.SN:jQ .any (opsOf Tryz.f409 3)=aZ.T3:=by kernel_rfl
theorem aZ.Od:mF aZ.T3.2 aZ.B3=true:=by kernel_rfl
set_option maxHeartbeats 8000000 in
set_option maxRecDepth 100000 in
theorem aZ.calls(k:Nat)(O:Nat->Prop)(F:Value)(l0:List Int)(r:List Int)(w0 w:World)(hB:Below w0.heap.size w0 w)(ho0:Kd.R (Kd.int .u32) 328 w w0.heap.size O F l0)(H:aZ.f k l0=some r):
 Calls Tryz.prog 409 #[F] w λ e w'=>e= .returned (.tuple #[])∧Kd.R (Kd.int .u32) 328 w' w0.heap.size (λ k_=>(O k_∨w.heap.size≤k_)) F r∧Below w0.heap.size w0 w'∧Kept w w' (λ k_=>O k_):=by
 have aw:=ah.mk (show Kd.R (Kd.int .u32) 328 w w0.heap.size (λ k_=>(O k_∨w.heap.size≤k_)) F l0 from Kd.gY ho0 (λ k_ hk=>(.inl hk)));have HK:=ah.mk (Kept.refl w (λ k_=>O k_));have HW0:=ah.mk hB.size;have HB:=ah.mk hB;clear hB;unfold aZ.f at H;have H':=ah.mk H;clear H;obtain⟨aR,aS,a0⟩:=Kd.dR aw.out;subst a0;go_enter Tryz.func409,Tryz.ntmps409;go_wp2;go_loopg [2,3] k (λ kq v2 v3 w'=>∃(E:List Int)(s:Int)(z:Int),v2= .int .i64 s∧v3= .int .i64 z∧ah (aZ.l0 kq E s z=some r)∧ah (kq≤k)∧ah (Kd.R (Kd.int .u32) 328 w' w0.heap.size (λ k_=>(O k_∨w.heap.size≤k_)) (.slice aR l0.length aS) E)∧ah (Kept w w' (λ k_=>O k_))∧ah (Below w0.heap.size w0 w'))
 case atStart=>exact⟨(l0),(0),(wrap64 ((l0.length:Int)-1)),rS,rS,H',⟨Nat.le_refl _⟩,⟨kd aw⟩,⟨by repeat(first|(with_reducible first|exact HK.out|apply Kept.alloc|apply Kept.drewN|apply Kept.drew)|exact HK.out)⟩,⟨hB⟩⟩
 case round=>
  clear H';obtain⟨E,s,z,rfl,rfl,HA,ax,D,HK,HB⟩:=hrel;have I:=(Kd.d9 D.out).1;rw[I]at D
  (try simp only[I])
  cases gk with
  |zero=>exact absurd HA.out (by simp[aZ.l0])
  |succ k1=>
   have H:=HA.out;clear HA;simp only[aZ.l0]at H;revert H;refine ci (λ c3 H=>?_) λ c3 H=>?_
   .have aE:=decide_eq_true c3
    clear c3;revert H;refine cn λ c4 H=>?_;have c4b0:=decide_eq_true c4;clear c4;revert H;refine cn λ c5 H=>?_;have c5b0:=decide_eq_true c5;clear c5;revert H;refine cn λ c6 H=>?_;have c6b0:=decide_eq_true c6;clear c6;revert H;refine cn λ c7 H=>?_;have c7b0:=decide_eq_true c7;clear c7;first|(revert H;with_reducible refine gy λ ag Y H=>?_)|(generalize Z:((E.set (s:Int).toNat (rd E z)):List Int)=ag at H;have Y:=ah.mk Z.symm;clear Z)
    first|(revert H;with_reducible refine gy λ al aa H=>?_)|(generalize ab:((ag.set (z:Int).toNat (rd E s)):List Int)=al at H;have aa:=ah.mk ab.symm;clear ab)
    have H':=ah.mk H;clear H;try go_wp2
    replace D:=ah.mk (Kd.ow D.out);replace HK:=ah.mk (Kept.drew HK.out);replace HB:=ky HB;obtain⟨an,e231,J,p231,q231⟩:=ai (Kd.d9 D.out).2.2 z;cases e231;obtain⟨ao,e232,L,p232,q232⟩:=ai (Kd.d9 D.out).2.2 s;obtain rfl:an=ao:=(by injection e232);have aF:0≤(s:Int):=oA;have aL:(s:Int)<((E.length:Int):Int):=oA;obtain⟨ac,co8,ay,az,a1,cl8,aB⟩:=Kd.jT D.out (by omega)
    (first|cases ay|(injection ay with ae a2 a3;(first|subst ae|(injection ae with ae;subst ae));subst a3;clear a2))
    have aD:=ah.mk az;have a4:=ah.mk aB;clear az a1 aB;have af:=ah.mk (show(O ac∨w.heap.size≤ac)from(D.out.1 _ rfl))
    (first|simp only[add_plain]at J|skip)
    (first|simp only[add_plain]at L|skip)
    obtain⟨ap,aq⟩:=Kd.fC 0 D.out (s:Int) aF aL;replace aF:=eq_true aF;replace aL:=eq_true aL;have T:=Kd.QE D.out (s:Int) (rd E z);rw[<-Y.out]at T;have U:=ah.mk T;clear T;have aO:0≤(z:Int):=oA;have aP:(z:Int)<((E.length:Int):Int):=oA;obtain⟨ar,av⟩:=Kd.fC 0 U.out (z:Int) aO aP;replace aO:=eq_true aO;replace aP:=eq_true aP;have X:=Kd.QE U.out (z:Int) (rd E s);rw[<-aa.out]at X;have am:=ah.mk X;clear X;refine mR (n:=16) (S:=λ w'=>w'.cell? ⟨ac,(z).toNat,none⟩=some (.int .u32 (rd E z))∧w'.cell? ⟨ac,(s).toNat,none⟩=some (.int .u32 (rd E s))) (ds:=[13,15]) #[false,false,false,false,false,false,false,false,false,false,false,false,false,false,false,false] (by kernel_rfl) rfl rfl ⟨J,L⟩ (λ hHeld=>?_);refine lI aZ.SN aZ.Od (λ wY Dy=>?_);generalize wr.drew=w10 at D HK HB a4 U am aq av J L ap ar hHeld|-
    refine pu 0 (some 14) ?_;refine pu 1 (some 15) ?_;refine pu 2 (some 16) ?_;refine pu 3 (some 17) ?_;refine pu 4 (some 18) ?_;refine pu 5 (some 19) ?_;refine pu 6 (some 20) ?_;refine pu 8 (some 22) ?_;refine pu 9 (some 23) ?_;refine pu 10 (some 24) ?_;refine tk 7 (some 21) ?_;refine tk 11 (some 25) ?_;refine pu 12 (some 26) ?_;refine la 13 none λ K hK=>?_;refine sk ?_;refine hK.out _ _ ?_;clear hK K;refine pu 14 (some 27) ?_;refine la 15 none λ K hK=>?_;refine sk ?_;refine hK.out _ _ ?_;clear hK K;refine dn ?_;try go_wp2
    (try simp only[<-I])
    go_roundg k1
    case measure=>have:=ax.out;omega
    case rel=>exact⟨(al),(wrap64 (s+1)),(wrap64 (z-1)),rS,rS,H',⟨by have:=ax.out;omega⟩,⟨by(try simp only[I]);exact kd am⟩,⟨by repeat(first|(with_reducible first|exact HK.out|apply Kept.alloc|apply Kept.drewN|apply Kept.drew|refine Kept.setCell ?_ af.out _|refine Kept.setCell ?_ af.out _)|exact HK.out)⟩,⟨by repeat(first|(with_reducible first|exact HB.out|apply fA|apply lK|apply b_|refine bH ?_ aD.out|refine bH ?_ aD.out)|exact HB.out)⟩⟩
   .have aE:=decide_eq_false c3
    clear c3;obtain rfl:=Option.some.inj H;go_wp2;first|go_end0|((try simp only[Exit.inBlock,Exit.then]);refine bodyPost_ret (results_none rfl _ _ _) rfl ?_)
    exact⟨rW,(by first|exact(kd D)|(simp only[I];exact(kd D))),hB,by repeat(first|(with_reducible first|exact HK.out|apply Kept.alloc|apply Kept.drewN|apply Kept.drew)|exact HK.out)⟩
def dK.l0:Nat->List Int->List Int->Int->Option (Int)
 |0,_,_,_=>none
 |k+1,x0,x1,x5=>if x5≥0 then(if 0≤x5 then(if x5<(x0.length:Int)then(if x5<(x1.length:Int)then(if(rd x0 x5)=(rd x1 x5)then(dK.l0 k x0 x1 (wrap64 (x5-1)))else(some (wrap64 ((wrap64 (rd x0 x5))-(wrap64 (rd x1 x5))))))else(none))else(none))else(none))else(some 0)
def dK.f(k:Nat)(l0:List Int)(l1:List Int):Option (Int):=if(l0.length:Int)=(l1.length:Int)then(dK.l0 k l0 l1 (wrap64 ((l0.length:Int)-1)))else(some (wrap64 ((l0.length:Int)-(l1.length:Int))))
set_option maxHeartbeats 8000000 in
set_option maxRecDepth 100000 in
theorem dK.calls(k:Nat)(A0:Option Addr)(c0:Nat)(l0:List Int)(A1:Option Addr)(c1:Nat)(l1:List Int)(r:Int)(w:World)(hr0:Kd.C (Kd.int .u32) w A0 l0.length l0)(hc0:l0.length≤c0)(hr1:Kd.C (Kd.int .u32) w A1 l1.length l1)(hc1:l1.length≤c1)(H:dK.f k l0 l1=some r):
 Calls Tryz.prog 320 #[.slice A0 l0.length c0,.slice A1 l1.length c1] w λ e w'=>e= .returned (.int .i64 r)∧aM w w':=by
 have L:=ah.mk hr0;have HC0:=ah.mk hc0;clear hr0 hc0;have HR1:=ah.mk hr1;have HC1:=ah.mk hc1;clear hr1 hc1;unfold dK.f at H;revert H;refine ci (λ c3 H=>?_) λ c3 H=>?_
 .have O:((l0.length:Int)==(l1.length:Int))=true:=beq_iff_eq.mpr c3
  have T:((l0.length:Int) !=(l1.length:Int))=false:=bne_eq_false_iff_eq.mpr c3;have U:(l0.length==l1.length)=true:=by first|simpa using c3|(simp at c3|-;omega)
  clear c3;have H':=ah.mk H;clear H;go_enter Tryz.func320,Tryz.ntmps320;go_wp2;repeat(go_quiet (fail);try go_wp2)
  go_loopg [5] k (λ kq v5 w'=>∃(s:Int),v5= .int .i64 s∧ah (dK.l0 kq l0 l1 s=some r)∧ah (kq≤k)∧aM w w')
  case atStart=>exact⟨(wrap64 ((l0.length:Int)-1)),rS,H',⟨Nat.le_refl _⟩,by repeat(first|exact aM.refl _|apply aM.step)⟩
  case round=>
   clear H';clear O T U;obtain⟨s,rfl,HA,Z,⟨m1,rfl⟩⟩:=hrel;cases gk with
   |zero=>exact absurd HA.out (by simp[dK.l0])
   |succ k1=>
    have H:=HA.out;clear HA;simp only[dK.l0]at H;revert H;refine ci (λ c4 H=>?_) λ c4 H=>?_
    .have aa:=decide_eq_true c4
     clear c4;revert H;refine cn λ c5 H=>?_;have c5b0:=decide_eq_true c5;clear c5;revert H;refine cn λ c6 H=>?_;have c6b0:=decide_eq_true c6;clear c6;revert H;refine cn λ c7 H=>?_;have c7b0:=decide_eq_true c7;clear c7;revert H;refine ci (λ c8 H=>?_) λ c8 H=>?_
     .have ab:((rd l0 s)==(rd l1 s))=true:=beq_iff_eq.mpr c8
      have ac:((rd l0 s) !=(rd l1 s))=false:=bne_eq_false_iff_eq.mpr c8;clear c8;have H':=ah.mk H;clear H;obtain⟨E,z,I,ae,af⟩:=ai L.out s;cases z;obtain⟨F,D,J,ag,al⟩:=ai HR1.out s;cases D;go_wp2;repeat(go_quiet (fail);try go_wp2)
      go_roundg k1
      case measure=>have:=Z.out;omega
      case rel=>exact⟨(wrap64 (s-1)),rS,H',⟨by have:=Z.out;omega⟩,by repeat(first|exact aM.refl _|apply aM.step)⟩
     .have ab:((rd l0 s)==(rd l1 s))=false:=beq_eq_false_iff_ne.mpr c8
      have ac:((rd l0 s) !=(rd l1 s))=true:=bne_iff_ne.mpr c8;obtain rfl:=Option.some.inj H;obtain⟨E,z,I,ae,af⟩:=ai L.out s;cases z;obtain⟨F,D,J,ag,al⟩:=ai HR1.out s;cases D;obtain⟨X,am,hx133_0,p133,q133⟩:=ai L.out s;obtain rfl:E=X:=(by injection am);obtain⟨Y,an,hx134_0,p134,q134⟩:=ai HR1.out s;obtain rfl:F=Y:=(by injection an);go_wp2;repeat(go_quiet (fail);try go_wp2)
      go_ret;exact⟨rS,by repeat(first|exact aM.refl _|apply aM.step)⟩
    .have aa:=decide_eq_false c4
     clear c4;obtain rfl:=Option.some.inj H;go_wp2;repeat(go_quiet (fail);try go_wp2)
     go_ret;exact⟨rS,by repeat(first|exact aM.refl _|apply aM.step)⟩
 .have O:((l0.length:Int)==(l1.length:Int))=false:=beq_eq_false_iff_ne.mpr c3
  have T:((l0.length:Int) !=(l1.length:Int))=true:=bne_iff_ne.mpr c3;have U:(l0.length==l1.length)=false:=by first|simpa using c3|(simp at c3|-;omega)
  obtain rfl:=Option.some.inj H;go_enter Tryz.func320,Tryz.ntmps320;go_wp2;repeat(go_quiet (fail);try go_wp2)
  go_ret;exact⟨rS,by repeat(first|exact aM.refl _|apply aM.step)⟩
def oJ.f(l0:List Int)(l1:List Int):Option (Int):=if(l0.length:Int)<(l1.length:Int)then(some 0)else(if 0≤(wrap64 ((l1.length:Int)-1))then(if(wrap64 ((l1.length:Int)-1))<(l0.length:Int)then(if(l0.length:Int)>(l1.length:Int)then(if 0≤(l1.length:Int)then(if(l1.length:Int)<(l0.length:Int)then(if(wrap64 ((l1.length:Int)-1))<(l1.length:Int)then(if(IntKind.u64.wrap (rd l1 (wrap64 ((l1.length:Int)-1))))=0 then(none)else(some ((mn (IntKind.u64.wrap (Int.tdiv (IntKind.u64.wrap ((IntKind.u64.wrap (rd l0 (wrap64 ((l1.length:Int)-1))))+(IntKind.u64.wrap ((IntKind.u64.wrap (rd l0 (l1.length:Int)))*1000000000)))) (IntKind.u64.wrap (rd l1 (wrap64 ((l1.length:Int)-1)))))) 999999999)% 4294967296)))else(none))else(none))else(none))else(if(wrap64 ((l1.length:Int)-1))<(l1.length:Int)then(if(IntKind.u64.wrap (rd l1 (wrap64 ((l1.length:Int)-1))))=0 then(none)else(some ((mn (IntKind.u64.wrap (Int.tdiv (IntKind.u64.wrap (rd l0 (wrap64 ((l1.length:Int)-1)))) (IntKind.u64.wrap (rd l1 (wrap64 ((l1.length:Int)-1)))))) 999999999)% 4294967296)))else(none)))else(none))else(none))
set_option maxHeartbeats 8000000 in
set_option maxRecDepth 100000 in
theorem oJ.calls(A0:Option Addr)(c0:Nat)(l0:List Int)(A1:Option Addr)(c1:Nat)(l1:List Int)(r:Int)(w:World)(hr0:Kd.C (Kd.int .u32) w A0 l0.length l0)(hc0:l0.length≤c0)(hr1:Kd.C (Kd.int .u32) w A1 l1.length l1)(hc1:l1.length≤c1)(H:oJ.f l0 l1=some r):
 Calls Tryz.prog 408 #[.slice A0 l0.length c0,.slice A1 l1.length c1] w λ e w'=>e= .returned (.int .u32 r)∧Below w.heap.size w w':=by
 have L:=ah.mk hr0;have HC0:=ah.mk hc0;clear hr0 hc0;have HR1:=ah.mk hr1;have HC1:=ah.mk hc1;clear hr1 hc1;have HB:=ah.mk (Below.refl w.heap.size w);unfold oJ.f at H;revert H;refine ci (λ c3 H=>?_) λ c3 H=>?_
 .have U:=decide_eq_true c3
  have X:decide (l0.length<l1.length)=true:=decide_eq_true (Int.ofNat_lt.mp c3);clear c3;obtain rfl:=Option.some.inj H;go_enter Tryz.func408,Tryz.ntmps408;go_wp2;go_ret;exact⟨rW,hB⟩
 .have U:=decide_eq_false c3
  have X:decide (l0.length<l1.length)=false:=decide_eq_false (λ h=>c3 (Int.ofNat_lt.mpr h));clear c3;obtain⟨s,E⟩:∃O,(wrap64 ((l1.length:Int)-1))=O:=⟨_,rfl⟩;first|rw[E]at H|simp only[E]at H
  have hji4w:(IntKind.i64.wrap ((l1.length:Int)-1))=s:=(eY _).trans E;revert H;refine cn λ c5 H=>?_;have c5b0:=decide_eq_true c5;clear c5;revert H;refine cn λ c6 H=>?_;have c6b0:=decide_eq_true c6;clear c6;revert H;refine ci (λ c7 H=>?_) λ c7 H=>?_
  .have Y:=decide_eq_true c7
   have Z:decide (l1.length<l0.length)=true:=decide_eq_true (Int.ofNat_lt.mp c7);clear c7;revert H;refine cn λ c8 H=>?_;have c8b0:=decide_eq_true c8;have c8b1:decide (0≤l1.length)=true:=decide_eq_true (by omega);clear c8;revert H;refine cn λ c9 H=>?_;have c9b0:=decide_eq_true c9;have c9b1:decide (l1.length<l0.length)=true:=decide_eq_true (Int.ofNat_lt.mp c9);clear c9;revert H;refine cn λ c10 H=>?_;have c10b0:=decide_eq_true c10;clear c10;revert H;refine cf λ c11 H=>?_;have c11b0:((IntKind.u64.wrap (rd l1 (s)))==0)=false:=beq_eq_false_iff_ne.mpr c11;have c11b1:((IntKind.u64.wrap (rd l1 (s))) !=0)=true:=bne_iff_ne.mpr c11;obtain⟨aa,z⟩:∃O,(mn (IntKind.u64.wrap (Int.tdiv (IntKind.u64.wrap ((IntKind.u64.wrap (rd l0 (s)))+(IntKind.u64.wrap ((IntKind.u64.wrap (rd l0 (l1.length:Int)))*1000000000)))) (IntKind.u64.wrap (rd l1 (s))))) 999999999)=O:=⟨_,rfl⟩;first|rw[z]at H|simp only[z]at H
   have hji12_:(if 999999999<(IntKind.u64.wrap (Int.tdiv (IntKind.u64.wrap ((IntKind.u64.wrap (rd l0 (s)))+(IntKind.u64.wrap ((IntKind.u64.wrap (rd l0 (l1.length:Int)))*1000000000)))) (IntKind.u64.wrap (rd l1 (s)))))then 999999999 else(IntKind.u64.wrap (Int.tdiv (IntKind.u64.wrap ((IntKind.u64.wrap (rd l0 (s)))+(IntKind.u64.wrap ((IntKind.u64.wrap (rd l0 (l1.length:Int)))*1000000000)))) (IntKind.u64.wrap (rd l1 (s))))))=aa:=z;obtain rfl:=Option.some.inj H;obtain⟨F,e227,I,ab,ac⟩:=ai L.out (s);cases e227;obtain⟨T,e228,J,p228,q228⟩:=ai L.out (l1.length:Int);obtain rfl:F=T:=(by injection e228)
   (try simp only[Go.IntWalk.toNatUp]at J)
   obtain⟨ad229,e229,hx229_0,p229,q229⟩:=ai HR1.out (s);cases e229;go_enter Tryz.func408,Tryz.ntmps408;go_wp2;go_ret;exact⟨by first|rfl|(simp[eP,eT]<;>rfl)|(simp only[<-E,<-z];first|rfl|(simp[eP,eT]<;>rfl))|(simp[*,eP,eT]<;>rfl),hB⟩
  .have Y:=decide_eq_false c7
   have Z:decide (l1.length<l0.length)=false:=decide_eq_false (λ h=>c7 (Int.ofNat_lt.mpr h));clear c7;revert H;refine cn λ c13 H=>?_;have c13b0:=decide_eq_true c13;clear c13;revert H;refine cf λ c14 H=>?_;have c14b0:((IntKind.u64.wrap (rd l1 (s)))==0)=false:=beq_eq_false_iff_ne.mpr c14;have c14b1:((IntKind.u64.wrap (rd l1 (s))) !=0)=true:=bne_iff_ne.mpr c14;obtain⟨ae,D⟩:∃O,(mn (IntKind.u64.wrap (Int.tdiv (IntKind.u64.wrap (rd l0 (s))) (IntKind.u64.wrap (rd l1 (s))))) 999999999)=O:=⟨_,rfl⟩;first|rw[D]at H|simp only[D]at H
   have hji15_:(if 999999999<(IntKind.u64.wrap (Int.tdiv (IntKind.u64.wrap (rd l0 (s))) (IntKind.u64.wrap (rd l1 (s)))))then 999999999 else(IntKind.u64.wrap (Int.tdiv (IntKind.u64.wrap (rd l0 (s))) (IntKind.u64.wrap (rd l1 (s))))))=ae:=D;obtain rfl:=Option.some.inj H;obtain⟨F,e227,I,ab,ac⟩:=ai L.out (s);cases e227;obtain⟨ad230,e230,hx230_0,p230,q230⟩:=ai HR1.out (s);cases e230;go_enter Tryz.func408,Tryz.ntmps408;go_wp2;go_ret;exact⟨by first|rfl|(simp[eP,eT]<;>rfl)|(simp only[<-E,<-D];first|rfl|(simp[eP,eT]<;>rfl))|(simp[*,eP,eT]<;>rfl),hB⟩
mutual
def fM.j0:Nat->Int->Bool->Option (Bool×List Int)
 |0,_,_=>none
 |k+1,x4,s=>fM.l0 k x4 s ([]:List Int)
def fM.l0:Nat->Int->Bool->List Int->Option (Bool×List Int)
 |0,_,_,_=>none
 |k+1,x4,z,s=>if x4>0 then(if s.length<35184372088832 then(fM.l0 k (IntKind.u64.wrap (Int.tdiv x4 1000000000)) z (s++[(Int.tmod x4 1000000000)% 4294967296]))else(none))else(some (z,s))
end
def fM.f(k:Nat)(a0:Int):Option (Bool×List Int):=if a0<0 then(fM.j0 k (IntKind.u64.wrap (-(IntKind.u64.wrap (a0)))) (decide (a0<0)))else(fM.j0 k (IntKind.u64.wrap (a0)) (decide (a0<0)))
set_option maxHeartbeats 8000000 in
set_option maxRecDepth 100000 in
theorem fM.calls(k:Nat)(a0:Int)(r1:Bool)(r2:List Int)(w:World)(H:fM.f k a0=some (r1,r2)):
 Calls Tryz.prog 127 #[.int .i64 a0] w λ e w'=>∃am:Value,e= .returned (.agg #[.bool r1,am])∧Kd.R (Kd.int .u32) 328 w' w.heap.size (λ _=>True) am r2∧Below w.heap.size w w':=by
 have hu64:=Tryz.underlying64;have HB:=ah.mk (Below.refl w.heap.size w);unfold fM.f at H;have ab:=ah.mk H;clear H;go_enter Tryz.func127,Tryz.ntmps127
 go_upto_if 11 with(first|((with_reducible refine gd 2 rfl ?_);refine bx #[.bool false,.slice none 0 0] 64 ?_;intro L hg w3 s hb;have GW115:=kz hg;have GE115:=kz hg;replace HB:=kh hb;clear hb hg)|((with_reducible refine gd 3 rfl ?_);refine bx #[.bool false,.slice none 0 0] 64 ?_;intro T hg w4 z hb;have GW116:=kz hg;have GE116:=kz hg;replace HB:=kh hb;have F:=kl s hg;have I:=kr s hg;replace s:=kb s hb;clear hb hg;have hnb5:=I.out;have hnc5:=F.out;have ac:=z2 z))
 (try simp only[Act.put,List.setIfInBounds_toArray,List.set_cons_zero,List.set_cons_succ])
 go_cut [4] (λ v4 wc=>∃(kq:Nat)(U:Int),v4= .int .u64 U∧ah (fM.j0 kq U (decide (a0<0))=some (r1,r2))∧ah (kq≤k)∧ah (wc.heap[L]? =some (.cells #[.bool false,(.slice none 0 0)] 64 (0,0)))∧ah (wc.heap[T]? =some (.cells #[.bool (decide (a0<0)),(.slice none 0 0)] 64 (0,0)))∧ah (Below w.heap.size w wc))
 case first=>
  have H:=ab.out;clear ab;revert H;refine ci (λ c7 H=>?_) λ c7 H=>?_
  .have J:=decide_eq_true c7
   clear c7
   (first|rw[J]|(simp only[eY,iI];rw[J])|skip)
   have H':=ah.mk H;clear H;go_wp2;go_meet
   case rel=>exact⟨_,(IntKind.u64.wrap (-(IntKind.u64.wrap (a0)))),rS,H',⟨by first|omega|exact Nat.le_refl _⟩,⟨kp s⟩,⟨by(with_reducible repeat(first|refine fP ?_ _|refine gP ?_|refine dP ?_ _));refine eB (cs:= #[.bool (decide (a0<0)),.slice none 0 0]) ?_ 1 _ rfl;(with_reducible repeat(first|refine fP ?_ _|refine gP ?_|refine dP ?_ _));refine eB (cs:= #[.bool false,.slice none 0 0]) ?_ 0 _ (by first|rfl|simp[J]);(with_reducible repeat(first|refine fP ?_ _|refine gP ?_|refine dP ?_ _));exact z.out⟩,⟨hB⟩⟩
  .have J:=decide_eq_false c7
   clear c7
   (first|rw[J]|(simp only[eY,iI];rw[J])|skip)
   have H':=ah.mk H;clear H;go_wp2;go_meet
   case rel=>exact⟨_,(IntKind.u64.wrap (a0)),rS,H',⟨by first|omega|exact Nat.le_refl _⟩,⟨kp s⟩,⟨by(with_reducible repeat(first|refine fP ?_ _|refine gP ?_|refine dP ?_ _));refine eB (cs:= #[.bool (decide (a0<0)),.slice none 0 0]) ?_ 1 _ rfl;(with_reducible repeat(first|refine fP ?_ _|refine gP ?_|refine dP ?_ _));refine eB (cs:= #[.bool false,.slice none 0 0]) ?_ 0 _ (by first|rfl|simp[J]);(with_reducible repeat(first|refine fP ?_ _|refine gP ?_|refine dP ?_ _));exact z.out⟩,⟨hB⟩⟩
 case rest=>
  clear ab
  (try clear ac)
  obtain⟨kq,U,rfl,HA,an,s,z,HB⟩:=hcut;cases kq with
  |zero=>exact absurd HA.out (by simp[fM.j0])
  |succ ao=>
   have H:=HA.out;clear HA;simp only[fM.j0]at H;have H':=ah.mk H;clear H;go_wp2;go_loopg [4] ao (λ kq v4 w'=>∃(O:Int)(D:List Int)(u117001:Value),v4= .int .u64 O∧ah (fM.l0 kq O (decide (a0<0)) D=some (r1,r2))∧ah (kq≤ao)∧ah (Kd.R (Kd.int .u32) 328 w' w.heap.size (λ _=>True) u117001 D)∧ah (w'.heap[L]? =some (.cells #[.bool false,(.slice none 0 0)] 64 (0,0)))∧ah (w'.heap[T]? =some (.cells #[.bool (decide (a0<0)),u117001] 64 (0,0)))∧ah (Below w.heap.size w w'))
   case atStart=>exact⟨(U),(([]:List Int)),(.slice none 0 0),rS,H',⟨Nat.le_refl _⟩,⟨by first|exact Kd.mZ _ _ _ _ _|exact Kd.F3 _ _ _ _ _|exact Kd.lu _ _ _ _ _|exact Kd.F4 _ _ _ _ _|exact Kd.F5 _ _ _ _ _⟩,⟨kd s⟩,⟨kd z⟩,⟨hB⟩⟩
   case round=>
    clear H';obtain⟨O,D,u117001,rfl,HA,ap,E,s,z,HB⟩:=hrel;cases gk with
    |zero=>exact absurd HA.out (by simp[fM.l0])
    |succ k2=>
     have H:=HA.out;clear HA;simp only[fM.l0]at H;revert H;refine ci (λ c8 H=>?_) λ c8 H=>?_
     .have aq:=decide_eq_true c8
      clear c8;revert H;refine cn λ c9 H=>?_;have ar:=ah.mk c9;clear c9;first|(revert H;with_reducible refine gy λ X Y H=>?_)|(generalize Z:((D++[(Int.tmod O 1000000000)% 4294967296]):List Int)=X at H;have Y:=ah.mk Z.symm;clear Z)
      have H':=ah.mk H;clear H;have hnb10:=I.out;have hnc10:=F.out;have hcz11_0:=z2 z
      go_wp2_with (first|((with_reducible refine eX (b:= .append) (xs:= #[.tmp 19,.tmp 23]) rfl ?_);at_builtin;refine Kd.jl (Kd.int .u32) (w0:=w) w.heap.size rfl (.tmp 19) (.tmp 23) 62 328 (.int .u32 0) 4 rfl Tryz.underlying62 iR rfl (by decide) (by omega) u117001 D ((Int.tmod O 1000000000)% 4294967296) [.int .u32 ((Int.tmod O 1000000000)% 4294967296)] (λ _=>True) (λ _=>False) rfl rfl ?ax (λ _ hk=>hk.elim) ?ay ?az ?aB ?aD ?aE ?_;(case ax=>exact rfl);(case aB=>exact hB);(case ay=>exact(λ _ _=>trivial));(case az=>exact(kd E));(case aD=>exact(bG hB));(case aE=>have:=ar.out;omega);intro v118 w12 ho hb hg hat;rw[<-Y.out]at ho;replace s:=ah.mk (lH (g:=L) (o:= .cells #[.bool false,.slice none 0 0] 64 (0,0)) (kd s) hg (Kd.yY E.out s.out (by decide)));replace z:=ah.mk (lH (g:=T) (o:= .cells #[.bool (decide (a0<0)),u117001] 64 (0,0)) (kd z) hg (Kd.yY E.out z.out (by decide)));replace HB:=ah.mk (hb);have aa:=ah.mk (ho);clear E ho hb hg hat;obtain⟨ae,af,av⟩:=Kd.dR aa.out;subst av;have hcz14_0:=z2 z))
      go_roundg k2
      case measure=>have:=an.out;have:=ap.out;omega
      case rel=>exact⟨(IntKind.u64.wrap (Int.tdiv O 1000000000)),(X),(.slice ae X.length af),rS,H',⟨by have:=an.out;have:=ap.out;omega⟩,⟨kD (Kd.gY (Kd.jF (p:=⟨T,1,none⟩) (Kd.dh aa.out z.out (by decide)) (λ _ hk=>hk.2) (.slice ae X.length af)) (λ _ hk=>trivial))⟩,⟨kp s⟩,⟨by(with_reducible repeat(first|refine fP ?_ _|refine gP ?_|refine dP ?_ _));refine eB (cs:= #[.bool (decide (a0<0)),u117001]) ?_ 1 _ rfl;(with_reducible repeat(first|refine fP ?_ _|refine gP ?_|refine dP ?_ _));exact z.out⟩,⟨hB⟩⟩
     .have aq:=decide_eq_false c8
      clear c8;simp only[Option.some.injEq,Prod.mk.injEq]at H;obtain⟨rfl,rfl⟩:=H;have hnb15:=I.out;have hnc15:=F.out;have hcz16_0:=z2 z;have hcz17_0:=z2 s;obtain⟨ag,al,aw⟩:=Kd.dR E.out;subst aw;go_wp2;refine bodyPost_ret (results_cell_row rfl _ _ L 64 #[.bool (decide (a0<0)),.slice ag D.length al] (0,0) _ rfl (by(with_reducible repeat(first|refine fP ?_ _|refine gP ?_|refine dP ?_ _));refine eB (cs:= #[.bool (decide (a0<0)),.slice none 0 0]) ?_ 1 _ rfl;(with_reducible repeat(first|refine fP ?_ _|refine gP ?_|refine dP ?_ _));refine eB (cs:= #[.bool false,.slice none 0 0]) ?_ 0 _ (by first|rfl|simp[J]);(with_reducible repeat(first|refine fP ?_ _|refine gP ?_|refine dP ?_ _));exact s.out) Tryz.underlying64 rfl (by kernel_rfl)) rfl ?_;exact⟨_,rW,kD (Kd.gY (Kd.jF (p:=⟨L,1,none⟩) (Kd.jF (p:=⟨L,0,none⟩) (Kd.dh E.out s.out (by decide)) (λ _ hk=>hk.2) (.bool (decide (a0<0)))) (λ _ hk=>hk.2) (.slice ag D.length al)) (λ _ hk=>trivial)),hB⟩
def dQ.l0:Nat->List Int->Option (List Int)
 |0,_=>none
 |k+1,x0=>if(x0.length:Int)>0 then(if 0≤(wrap64 ((x0.length:Int)-1))then(if(wrap64 ((x0.length:Int)-1))<(x0.length:Int)then(if(rd x0 (wrap64 ((x0.length:Int)-1)))=0 then(if(wrap64 ((x0.length:Int)-1))≤(x0.length:Int)then(dQ.l0 k (x0.take ((wrap64 ((x0.length:Int)-1)):Int).toNat))else(none))else(some x0))else(none))else(none))else(some x0)
def dQ.f(k:Nat)(l0:List Int):Option (List Int):=dQ.l0 k l0
set_option maxHeartbeats 8000000 in
set_option maxRecDepth 100000 in
theorem dQ.calls(k:Nat)(Y:Nat->Prop)(A0:Option Addr)(c0:Nat)(l0:List Int)(r:List Int)(w:World)(hs0:Kd.V (Kd.int .u32) 328 w w.heap.size (λ k_=>Y k_) (.slice A0 l0.length c0) l0)(H:dQ.f k l0=some r):
 Calls Tryz.prog 317 #[.slice A0 l0.length c0] w λ e w'=>∃an:Value,e= .returned (an)∧Kd.V (Kd.int .u32) 328 w' w.heap.size (λ k_=>(Y k_∨w.heap.size≤k_)) an r∧Below w.heap.size w w':=by
 have aB:=ah.mk (show Kd.V (Kd.int .u32) 328 w w.heap.size (λ k_=>(Y k_∨w.heap.size≤k_)) (.slice A0 l0.length c0) l0 from Kd.bU hs0 (λ k_ hk=> .inl hk));have HB:=ah.mk (Below.refl w.heap.size w);unfold dQ.f at H;have H':=ah.mk H;clear H;go_enter Tryz.func317,Tryz.ntmps317;go_wp2;go_loopg [0] k (λ kq v0 w'=>∃(s:List Int),ah (dQ.l0 kq s=some r)∧ah (kq≤k)∧ah (Kd.V (Kd.int .u32) 328 w' w.heap.size (λ k_=>(Y k_∨w.heap.size≤k_)) v0 s)∧ah (Below w.heap.size w w'))
 case atStart=>exact⟨(l0),H',⟨Nat.le_refl _⟩,⟨kd aB⟩,⟨hB⟩⟩
 case round=>
  clear H';obtain⟨s,HA,ao,D,HB⟩:=hrel;cases gk with
  |zero=>exact absurd HA.out (by simp[dQ.l0])
  |succ k1=>
   have H:=HA.out;clear HA;simp only[dQ.l0]at H;revert H;refine ci (λ c2 H=>?_) λ c2 H=>?_
   .have ap:=decide_eq_true c2
    have aq:decide (0<s.length)=true:=decide_eq_true (by omega);clear c2;obtain⟨z,L⟩:∃aE,(wrap64 ((s.length:Int)-1))=aE:=⟨_,rfl⟩;first|rw[L]at H|simp only[L]at H
    have hji3w:(IntKind.i64.wrap ((s.length:Int)-1))=z:=(eY _).trans L;revert H;refine cn λ c4 H=>?_;have c4b0:=decide_eq_true c4;clear c4;revert H;refine cn λ c5 H=>?_;have c5b0:=decide_eq_true c5;clear c5;revert H;refine ci (λ c6 H=>?_) λ c6 H=>?_
    .have ar:((rd s (z))==0)=true:=beq_iff_eq.mpr c6
     have av:((rd s (z)) !=0)=false:=bne_eq_false_iff_eq.mpr c6;clear c6;have c7b0:=eq_true (oA:0≤(z));revert H;refine cn λ c8 H=>?_;have c8b0:=eq_true c8;have c8b1:=decide_eq_true c8;clear c8;first|(revert H;with_reducible refine gy λ E O H=>?_)|(generalize Z:((s.take ((z):Int).toNat):List Int)=E at H;have O:=ah.mk Z.symm;clear Z)
     have H':=ah.mk H;clear H;obtain⟨Ao9,aa,aD⟩:=Kd.aY D.out;subst aD;obtain⟨I,T,ac,aw,ax⟩:=ai (Kd.aH D.out).2.2 (z);cases T;have ae:((z):Int)≤((s.length:Int):Int):=oA;obtain⟨i010,ab,_,al,_⟩:=info_parts iR;have J:s.length≤aa:=(Kd.aH D.out).2.1;have af:Kd.F (Kd.int .u32) _ _ (some I) s.length s:=(Kd.Aq (base:=w.heap.size) D.out).2.2;have ag:=KU (P:=Tryz.prog) 62 328 .i64 Tryz.underlying62 ab (some I) s.length aa (z) oA ae J;have U:=Kd.Fj (m:=((z):Int).toNat) af (by omega);have X:E.length=((z):Int).toNat:=(by rw[O.out,List.length_take];omega);rw[<-O.out]at U;rw[<-X]at ag;have am:=ah.mk (show Kd.V (Kd.int .u32) 328 _ w.heap.size _ (.slice (some I) E.length aa) E from Kd.BS (by omega) U);have HC110:=ah.mk (show E.length≤aa from by omega);clear U af J ab al;have KY10:=ah.mk X;clear X;replace ae:=eq_true ae;go_wp2;go_roundg k1
     case measure=>have:=ao.out;omega
     case rel=>exact⟨(E),H',⟨by have:=ao.out;omega⟩,⟨kd am⟩,⟨hB⟩⟩
    .have ar:((rd s (z))==0)=false:=beq_eq_false_iff_ne.mpr c6
     have av:((rd s (z)) !=0)=true:=bne_iff_ne.mpr c6;obtain rfl:=Option.some.inj H;obtain⟨Ao11,co11,ay⟩:=Kd.aY D.out;subst ay;obtain⟨I,T,ac,aw,ax⟩:=ai (Kd.aH D.out).2.2 (z);cases T;go_wp2;go_ret;exact⟨_,by first|rfl|(simp[eP,eT]<;>rfl)|(simp only[<-L];first|rfl|(simp[eP,eT]<;>rfl))|(simp[*,eP,eT]<;>rfl),kd D,hB⟩
   .have ap:=decide_eq_false c2
    have aq:decide (0<s.length)=false:=decide_eq_false (by omega);clear c2;obtain rfl:=Option.some.inj H;obtain⟨Ao12,co12,az⟩:=Kd.aY D.out;subst az;go_wp2;go_ret;exact⟨_,rW,kd D,hB⟩
def fH.l0:Nat->List Int->Int->List Int->Int->Int->Option (List Int×Int)
 |0,_,_,_,_,_=>none
 |k+1,x0,x1,x6,x7,x8=>if x8≥0 then(if 0≤x8 then(if x8<(x0.length:Int)then(if(IntKind.u64.wrap (x1))=0 then(none)else(if x8<(x6.length:Int)then(fH.l0 k x0 x1 (x6.set (x8:Int).toNat ((IntKind.u64.wrap (Int.tdiv (IntKind.u64.wrap ((IntKind.u64.wrap (x7*1000000000))+(IntKind.u64.wrap (rd x0 x8)))) (IntKind.u64.wrap (x1))))% 4294967296)) (Int.tmod (IntKind.u64.wrap ((IntKind.u64.wrap (x7*1000000000))+(IntKind.u64.wrap (rd x0 x8)))) (IntKind.u64.wrap (x1))) (wrap64 (x8-1)))else(none)))else(none))else(none))else(some (x6,(x7)% 4294967296))
def fH.f(k:Nat)(l0:List Int)(a1:Int):Option (List Int×Int):=if 0≤(l0.length:Int)then(if((l0.length:Int):Int).toNat≤70368744177664 then(fH.l0 k l0 a1 (List.replicate ((l0.length:Int):Int).toNat 0) 0 (wrap64 ((l0.length:Int)-1)))else(none))else(none)
set_option maxHeartbeats 8000000 in
set_option maxRecDepth 100000 in
theorem fH.calls(k:Nat)(A0:Option Addr)(c0:Nat)(l0:List Int)(a1:Int)(r1:List Int)(r2:Int)(w:World)(hr0:Kd.C (Kd.int .u32) w A0 l0.length l0)(hc0:l0.length≤c0)(H:fH.f k l0 a1=some (r1,r2)):
 Calls Tryz.prog 321 #[.slice A0 l0.length c0,.int .u32 a1] w λ e w'=>∃am:Value,e= .returned (.tuple #[am,.int .u32 r2])∧Kd.R (Kd.int .u32) 328 w' w.heap.size (λ _=>True) am r1∧Below w.heap.size w w':=by
 have az:=ah.mk hr0;have HC0:=ah.mk hc0;clear hr0 hc0;have HB:=ah.mk (Below.refl w.heap.size w);unfold fH.f at H;revert H;refine cn λ c3 H=>?_;have ao:=eq_true c3;have ap:=decide_eq_true c3;clear c3;revert H;refine cn λ c4 H=>?_;have aq:=eq_true c4;have ar:=decide_eq_true c4;clear c4;first|(revert H;with_reducible refine gy λ X I H=>?_)|(generalize L:((List.replicate ((l0.length:Int):Int).toNat 0):List Int)=X at H;have I:=ah.mk L.symm;clear L)
 have H':=ah.mk H;clear H;go_enter Tryz.func321,Tryz.ntmps321
 go_wp2_with (first|((with_reducible refine gV (N:=12) rfl ?_);refine Kd.sQ (Kd.int .u32) _ 328 rfl (N:=12) rfl 62 _ _ rfl (l0.length:Int) rfl rfl Tryz.underlying62 (.int .u32 0) 4 iR rfl (by decide) (by omega) 0 (ok:=λ _=>True) (kZ:=λ _=>True) rfl (λ _ hk=>hk) trivial oA (Nat.le_trans (Nat.mul_le_mul_right _ (oA:(l0.length:Int).toNat≤70368744177664)) (by omega)) (Below.refl _ _) (Nat.le_refl _) ?_;intro av w5 J hb aB ag;clear aB ag;(first|rw[<-I.out]at J|(simp only[Int.reduceToNat]at J;rw[<-I.out]at J));have al:=kO J;replace HB:=kh hb;clear hb J))
 go_loopg [7,8] k (λ kq v7 v8 w'=>∃(E:List Int)(z:Int)(s:Int),v7= .int .u64 z∧v8= .int .i64 s∧ah (fH.l0 kq l0 a1 E z s=some (r1,r2))∧ah (kq≤k)∧ah (Kd.R (Kd.int .u32) 328 w' w.heap.size (λ _=>True) av E)∧ah (Below w.heap.size w w'))
 case atStart=>exact⟨(X),(0),(wrap64 ((l0.length:Int)-1)),rS,rS,H',⟨Nat.le_refl _⟩,⟨kd al⟩,⟨hB⟩⟩
 case round=>
  clear H';clear ao ap aq ar;obtain⟨E,z,s,rfl,rfl,HA,an,D,HB⟩:=hrel;cases gk with
  |zero=>exact absurd HA.out (by simp[fH.l0])
  |succ k1=>
   have H:=HA.out;clear HA;simp only[fH.l0]at H;revert H;refine ci (λ c7 H=>?_) λ c7 H=>?_
   .have aw:=decide_eq_true c7
    clear c7;revert H;refine cn λ c8 H=>?_;have c8b0:=decide_eq_true c8;clear c8;revert H;refine cn λ c9 H=>?_;have c9b0:=decide_eq_true c9;clear c9;revert H;refine cf λ c10 H=>?_;have c10b0:((IntKind.u64.wrap (a1))==0)=false:=beq_eq_false_iff_ne.mpr c10;have c10b1:((IntKind.u64.wrap (a1)) !=0)=true:=bne_iff_ne.mpr c10;revert H;refine cn λ c11 H=>?_;have c11b0:=decide_eq_true c11;clear c11;first|(revert H;with_reducible refine gy λ Y O H=>?_)|(generalize T:((E.set (s:Int).toNat ((IntKind.u64.wrap (Int.tdiv (IntKind.u64.wrap ((IntKind.u64.wrap (z*1000000000))+(IntKind.u64.wrap (rd l0 s)))) (IntKind.u64.wrap (a1))))% 4294967296)):List Int)=Y at H;have O:=ah.mk T.symm;clear T)
    have H':=ah.mk H;clear H;obtain⟨ad199,e199,F,p199,q199⟩:=ai az.out s;cases e199;replace F:=hc F;have Z:0≤(s:Int):=oA;have aa:(s:Int)<((E.length:Int):Int):=oA;obtain⟨ax,co12,ab,ac,ay,cl12,ae⟩:=Kd.jT D.out (by omega)
    (first|cases ab|(injection ab with U aD aE;(first|subst U|(injection U with U;subst U));subst aE;clear aD))
    have GB12:=ah.mk ac;have GG12:=ah.mk ae;clear ac ay ae;obtain⟨hx12_0,hf12_0⟩:=Kd.fC 0 D.out (s:Int) Z aa;replace Z:=eq_true Z;replace aa:=eq_true aa;have af:=Kd.iH D.out (s:Int) ((IntKind.u64.wrap (Int.tdiv (IntKind.u64.wrap ((IntKind.u64.wrap (z*1000000000))+(IntKind.u64.wrap (rd l0 s)))) (IntKind.u64.wrap (a1))))% 4294967296)
    go_wp2_with (first|((with_reducible refine gt 328 35 rfl ?_);refine st (wr.setCell ⟨ax,(s:Int).toNat,none⟩ (.int .u32 ((IntKind.u64.wrap (Int.tdiv (IntKind.u64.wrap ((IntKind.u64.wrap (z*1000000000))+(IntKind.u64.wrap (rd l0 s)))) (IntKind.u64.wrap (a1))))% 4294967296))) ?_;intro w14 hw;replace D:=kP af O hw;replace HB:=kt hw;clear hw af))
    go_roundg k1
    case measure=>have:=an.out;omega
    case rel=>exact⟨(Y),(Int.tmod (IntKind.u64.wrap ((IntKind.u64.wrap (z*1000000000))+(IntKind.u64.wrap (rd l0 s)))) (IntKind.u64.wrap (a1))),(wrap64 (s-1)),rS,rS,H',⟨by have:=an.out;omega⟩,⟨kd D⟩,⟨hB⟩⟩
   .have aw:=decide_eq_false c7
    clear c7;simp only[Option.some.injEq,Prod.mk.injEq]at H;obtain⟨rfl,rfl⟩:=H;go_wp2;go_ret2;exact⟨_,rW,kd D,hB⟩
def gF.f(a0_0:Bool)(s:List Int):Option (Bool×List Int):=some (false,s)
set_option maxHeartbeats 8000000 in
set_option maxRecDepth 100000 in
theorem gF.calls(O:Bool)(I:Nat->Prop)(E:Option Addr)(F:Nat)(s:List Int)(r1:Bool)(r2:List Int)(w:World)(U:Kd.V (Kd.int .u32) 328 w w.heap.size (λ k_=>I k_) (.slice E s.length F) s)(H:gF.f O s=some (r1,r2)):
 Calls Tryz.prog 231 #[.agg #[.bool O,.slice E s.length F]] w λ e w'=>∃Y:Value,e= .returned (.agg #[.bool r1,Y])∧Kd.V (Kd.int .u32) 328 w' w.heap.size (λ k_=>(I k_∨w.heap.size≤k_)) Y r2∧Below w.heap.size w w':=by
 have hu64:=Tryz.underlying64;have z:=ah.mk (show Kd.V (Kd.int .u32) 328 w w.heap.size (λ k_=>(I k_∨w.heap.size≤k_)) (.slice E s.length F) s from Kd.bU U (λ k_ hk=> .inl hk));have HB:=ah.mk (Below.refl w.heap.size w);unfold gF.f at H;simp only[Option.some.injEq,Prod.mk.injEq]at H;obtain⟨rfl,rfl⟩:=H;go_enter Tryz.func231,Tryz.ntmps231
 go_wp2_with (first|((with_reducible refine gd 1 rfl ?_);refine bx #[.bool O,.slice E s.length F] 64 ?_;intro gb121 hg w2 D hb;replace z:=kW z hg hb;have GW121:=kz hg;have GE121:=kz hg;replace HB:=kh hb;clear hb hg)|((with_reducible refine gd 2 rfl ?_);refine bx #[.bool false,.slice none 0 0] 64 ?_;intro X hg w3 T hb;replace z:=kW z hg hb;have GW122:=kz hg;have GE122:=kz hg;replace HB:=kh hb;have J:=kl D hg;have L:=kr D hg;replace D:=kb D hb;clear hb hg;have hnb4:=J.out;have hnc4:=L.out;have hcz5_0:=z2 D;have hcz6_0:=z2 T))
 refine bodyPost_ret (results_cell_row rfl _ _ X 64 #[.bool false,.slice E s.length F] (0,0) _ rfl (kp T) Tryz.underlying64 rfl (by kernel_rfl)) rfl ?_;exact⟨_,rW,kv z,hB⟩
def gX.f(z:Bool)(s:List Int):Option (Bool):=if z=true then(some false)else(if(s.length:Int)=1 then(if 0<(s.length:Int)then(some ((rd s 0)==1))else(none))else(some false))
set_option maxHeartbeats 8000000 in
set_option maxRecDepth 100000 in
theorem gX.calls(I:Bool)(E:Option Addr)(F:Nat)(s:List Int)(r:Bool)(w:World)(O:Kd.C (Kd.int .u32) w E s.length s)(T:s.length≤F)(H:gX.f I s=some r):
 Calls Tryz.prog 132 #[.agg #[.bool I,.slice E s.length F]] w λ e w'=>e= .returned (.bool r)∧Below w.heap.size w w':=by
 have hu64:=Tryz.underlying64;have Z:=ah.mk O;have HC0_1:=ah.mk T;clear O T;have HB:=ah.mk (Below.refl w.heap.size w);unfold gX.f at H;obtain rfl|rfl:=tb I
 .replace H:=it H
  obtain rfl:=Option.some.inj H;go_enter Tryz.func132,Tryz.ntmps132
  go_wp2_with (first|((with_reducible refine gd 1 rfl ?_);(try(refine sS (by rfl) ?_;dsimp only));refine bx #[.bool true,.slice E s.length F] 64 ?_;intro U hg w3 D hb;have X:=kz hg;have Y:=kz hg;replace HB:=kh hb;clear hb hg;have hcz4_0:=z2 D))
  go_ret;exact⟨rW,hB⟩
 .replace H:=jf H
  revert H;refine ci (λ c5 H=>?_) λ c5 H=>?_
  .have aa:((s.length:Int)==1)=true:=beq_iff_eq.mpr c5
   have ab:((s.length:Int) !=1)=false:=bne_eq_false_iff_eq.mpr c5;clear c5;revert H;refine cn λ c6 H=>?_;have c6b0:=decide_eq_true c6;have c6b1:decide (0<s.length)=true:=decide_eq_true (by omega);clear c6;obtain rfl:=Option.some.inj H;go_enter Tryz.func132,Tryz.ntmps132
   go_wp2_with (first|((with_reducible refine gd 1 rfl ?_);(try(refine sS (by rfl) ?_;dsimp only));refine bx #[.bool false,.slice E s.length F] 64 ?_;intro U hg w7 D hb;have X:=kz hg;have Y:=kz hg;replace HB:=kh hb;clear hb hg;have hcz8_0:=z2 D;have J:0≤(0:Int):=(by omega);have L:0<(s.length:Int):=oA;obtain⟨ad289,e289,z⟩:=Kd.E5 Z.out 0 J L;cases e289;have qi289:(0<s.length)=True:=eq_true (by omega);(try rw[show((0:Int)).toNat=0 from rfl]at z);(try rw[Addr.add_zero']at z);replace z:=hc z;replace J:=eq_true J;replace L:=eq_true L))
   go_ret;exact⟨rW,hB⟩
  .have aa:((s.length:Int)==1)=false:=beq_eq_false_iff_ne.mpr c5
   have ab:((s.length:Int) !=1)=true:=bne_iff_ne.mpr c5;obtain rfl:=Option.some.inj H;go_enter Tryz.func132,Tryz.ntmps132
   go_wp2_with (first|((with_reducible refine gd 1 rfl ?_);(try(refine sS (by rfl) ?_;dsimp only));refine bx #[.bool false,.slice E s.length F] 64 ?_;intro U hg w9 D hb;have X:=kz hg;have Y:=kz hg;replace HB:=kh hb;clear hb hg;have hcz10_0:=z2 D))
   go_ret;exact⟨rW,hB⟩
end Go.Proofs.Ct.Q
