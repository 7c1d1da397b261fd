/- Part of the proof of CheckTexts (see the last text). -/
import Derived.Test.YtcclielbggpoaaaGreatDoorA16
set_option linter.all false
namespace Go.Proofs.Ct.Q
open Go.Proofs.g_ Go.RowKit Go.Proofs.aA.ak Go.Proofs.aA.aC Go.Proofs.aA.aG Go.Proofs.bO
attribute [local go_sem] aW aX bA bB
theorem P7{t:ByteArray}{b:Bool}(h:t.size≤4000000)(hb:dW t=b):gH.f 1 t=some b:=by rw[TF t (by omega),hb]
theorem Za{l:List f_}{j:Nat}{x y:f_}{q n t p b:Bool}(hx:bQ l (j:Int)=x)(hy:bQ l ((j-1:Nat):Int)=y)(hq:ny x.f0.f0 x.f0.f1 x.f0.f2=q)(hn:dW x.f1=n)(ht:ou x.f1=t)(hp:decide (0<j)=p)
 (hb:jc y.f0.f0 y.f0.f1 y.f0.f2 x.f0.f0 x.f0.f1 x.f0.f2=b):(!jy l j)=((!q||(!n&& !t))||(p&& !b)):=by
 unfold jy ku;rw[hx,hy,hq,hn,ht,hb,show decide (j=0)= !p by rw[<-hp,<-decide_not];apply decide_eq_decide.2;omega];cases q<;>cases n<;>cases t<;>cases p<;>cases b<;>rfl
def Zb(t:ByteArray)(l:List f_)(w:World)(e:Ending)(w':World):Prop:=e= .returned (.int .i64 (jP t l))∧Below w.heap.size w w'
theorem RX{t:ByteArray}{l:List f_}{j:Nat}(hl:¬1000<l.length)(hj:j<l.length)(h:jy l j=false):jP t l=1:=by
 unfold jP;have:qI l=false:=by
  unfold qI;rw[Bool.eq_false_iff];intro h2;have:=List.all_eq_true.1 h2 j (List.mem_range.2 hj);rw[h]at this;cases this
 rw[if_neg hl,this,Bool.and_false,if_neg (by simp)]
theorem all_succ{l:List f_}{j:Nat}(h:(List.range j).all (jy l)=true)(hj:jy l j=true):(List.range (j+1)).all (jy l)=true:=by
 rw[List.range_succ,List.all_append,h,List.all_cons,hj];rfl
set_option maxHeartbeats 40000000 in
set_option maxRecDepth 100000 in
theorem zD(t:ByteArray)(b:Bool)(A:Option Addr)(c:Nat)(l:List f_)(w:World)(hC:Kd.C nG w A l.length l)(hc:l.length≤c)(hz:BP t l):
 Calls Tryz.prog 29 #[.agg #[.string t,.bool b,.slice A l.length c]] w λ e w'=>Zb t l w e w':=by
 have hu31:=Tryz.underlying31;have hu56:=Tryz.underlying56;have HC:=ah.mk hC;have aR:=Lib.hid hz;have T:=Lib.hid hz.1;clear hC hz;by_cases hl:1000<l.length
 .have b1:decide (1000<(l.length:Int))=true:=decide_eq_true (by omega)
  have b2:decide (1000<l.length)=true:=decide_eq_true hl;have HE:=Lib.hid (show jP t l=2 by unfold jP;rw[if_pos hl]);go_enter Tryz.func29,Tryz.ntmps29
  go_wp2_with (first|((with_reducible refine gd 1 rfl ?_);refine bx #[.string t,.bool b,.slice A l.length c] 31 ?_;intro gb hg w1 s hb;have HB:=ah.mk hb;have hc0:=(aj s.out 0).trans rfl;have hc1:=(aj s.out 1).trans rfl;have hc2:=(aj s.out 2).trans rfl;clear hb hg))
  go_ret;exact⟨by rw[HE.out];rfl,HB.out⟩
 have b1:decide (1000<(l.length:Int))=false:=decide_eq_false (by omega);have b2:decide (1000<l.length)=false:=decide_eq_false hl;obtain⟨NB,hnb⟩:∃nb,dW t=nb:=⟨_,rfl⟩;have J:=Lib.hid hnb;have L:=Lib.hid hl;clear hl hnb;cases NB with
 |false=>
  have HE:=Lib.hid (show jP t l=1 by unfold jP;rw[if_neg L.out,J.out];rfl);go_enter Tryz.func29,Tryz.ntmps29
  go_wp2_with (first|((with_reducible refine gd 1 rfl ?_);refine bx #[.string t,.bool b,.slice A l.length c] 31 ?_;intro gb hg w1 s hb;have HB:=ah.mk hb;have hc0:=(aj s.out 0).trans rfl;have hc1:=(aj s.out 1).trans rfl;have hc2:=(aj s.out 2).trans rfl;clear hb hg)|(go_at_call 64;refine(gH.calls 1 t false _ (P7 T.out J.out)).mono ?_;rintro e w5 ⟨rfl,hb⟩;replace HB:=kh hb;replace s:=kb s hb;clear hb hc0 hc1 hc2))
  go_ret;exact⟨by rw[HE.out];rfl,HB.out⟩
 |true=>
  go_enter Tryz.func29,Tryz.ntmps29
  go_wp2_with (first|((with_reducible refine gd 1 rfl ?_);refine bx #[.string t,.bool b,.slice A l.length c] 31 ?_;intro gb hg w1 s hb;have HB:=ah.mk hb;have hc0:=(aj s.out 0).trans rfl;have hc1:=(aj s.out 1).trans rfl;have hc2:=(aj s.out 2).trans rfl;clear hb hg)|(go_at_call 64;refine(gH.calls 1 t true _ (P7 T.out J.out)).mono ?_;rintro e w5 ⟨rfl,hb⟩;replace HB:=kh hb;replace s:=kb s hb;clear hb hc0 hc1 hc2))
  clear b1 b2;go_loopw [3] (λ i wr=>∃j:Nat,j≤l.length∧i= .int .i64 j∧ah ((List.range j).all (jy l)=true)∧ah (Below w.heap.size w wr)∧ah (wr.heap[gb]? =some (.cells #[.string t,.bool b,.slice A l.length c] 31 (0,0)))) (λ i _=>l.length-(RowKit.intOf i).toNat)
  case atStart=>exact⟨0,Nat.zero_le _,rfl,⟨rfl⟩,HB,s⟩
  case round=>
   clear HB s;obtain⟨j,hj,rfl,HJ,HB,s⟩:=hrel;have hc2:=(aj s.out 2).trans rfl;have hln:l.length≤1000:=by have:=L.out;omega
   by_cases hlt:j<l.length
   .obtain⟨ad,hA,hx0,hx1,hx2,hx3⟩:=xA HC.out j (Int.natCast_nonneg j) (by omega)
    rw[Int.toNat_natCast]at hx0 hx1 hx2 hx3;subst hA;replace hx0:=au HB.out hx0;replace hx1:=au HB.out hx1;replace hx2:=au HB.out hx2;replace hx3:=au HB.out hx3;obtain⟨x,hx⟩:∃x,bQ l (j:Int)=x:=⟨_,rfl⟩;rw[hx]at hx0 hx1 hx2 hx3;have HX:=Lib.hid hx;clear hx;have c1:decide (j<l.length)=true:=decide_eq_true hlt;have p1:((0:Int)≤(j:Int))=True:=eq_true (by omega);have q1:((j:Int)<(l.length:Int))=True:=eq_true (by omega)
    go_wp2_with (first|((with_reducible refine gd 4 rfl ?_);refine bx #[.string (⟨#[]⟩:ByteArray),.int .i64 0,.bool false,.string (⟨#[]⟩:ByteArray)] 56 ?_;intro g hg w1 D hb;have E:=kh hb;have I:=kb s hb;have GE:=ah.mk (show w.heap.size≤g by rw[hg];exact HB.out.size);have NE:=ah.mk (show gb≠g by rw[hg];exact Nat.ne_of_lt (gT s.out));replace hx0:=au hb hx0;replace hx1:=au hb hx1;replace hx2:=au hb hx2;replace hx3:=au hb hx3;clear HB s hb hg hc2;have HB:=E;have s:=I;clear E I;have hc0:=(aj D.out 0).trans rfl;have hc1:=(aj D.out 1).trans rfl;have hc2:=(aj D.out 2).trans rfl;have hc3:=(aj D.out 3).trans rfl;have hf0:=aI D.out 0;have hf1:=aI D.out 1;have hf2:=aI D.out 2;have hf3:=aI D.out 3))
    have E:=ah.mk (wW (.string x.f0.f0) (.int .i64 x.f0.f1) (.bool x.f0.f2) (.string x.f1) D.out);have I:=ah.mk (jg (.string x.f0.f0) (.int .i64 x.f0.f1) (.bool x.f0.f2) (.string x.f1) HB.out GE.out);have O:=ah.mk (show((((w1.setCell ⟨g,0,none⟩ (.string x.f0.f0)).setCell ⟨g,1,none⟩ (.int .i64 x.f0.f1)).setCell ⟨g,2,none⟩ (.bool x.f0.f2)).setCell ⟨g,3,none⟩ (.string x.f1)).heap[gb]? =some (.cells #[.string t,.bool b,.slice (some ad) l.length c] 31 (0,0))from jK (jK (jK (jK s.out NE.out _) NE.out _) NE.out _) NE.out _);clear D HB s hx0 hx1 hx2 hx3 hc0 hc1 hc2 hc3 hf0 hf1 hf2 hf3 c1 p1 q1;generalize ((((w1.setCell _ _).setCell _ _).setCell _ _).setCell _ _)=w2 at E I O|-
    have D:=E;have HB:=I;have s:=O;clear E I O
    go_upto_if 57 with fail
    go_cut [57] (λ v w'=>v= .bool (!jy l j)∧ah (Below w.heap.size w w')∧ah (w'.heap[gb]? =some (.cells #[.string t,.bool b,.slice (some ad) l.length c] 31 (0,0))))
    case first=>
     obtain⟨y,hy⟩:∃y,bQ l ((j-1:Nat):Int)=y:=⟨_,rfl⟩;obtain⟨q,hq⟩:∃q,ny x.f0.f0 x.f0.f1 x.f0.f2=q:=⟨_,rfl⟩;obtain⟨n,hn⟩:∃q,dW x.f1=q:=⟨_,rfl⟩;obtain⟨u,hu⟩:∃q,ou x.f1=q:=⟨_,rfl⟩;obtain⟨p,hp⟩:∃q,decide (0<j)=q:=⟨_,rfl⟩;obtain⟨z,hz⟩:∃q,jc y.f0.f0 y.f0.f1 y.f0.f2 x.f0.f0 x.f0.f1 x.f0.f2=q:=⟨_,rfl⟩;have aL:=Lib.hid (Za HX.out hy hq hn hu hp hz);have aO:=Lib.hid (show x.f1.size≤9223372036854775807 by have:=(aR.out.2 l[j] (List.getElem_mem _)).1;rw[<-xw hlt,HX.out]at this;omega);have hpr:p=true->w2.drew.cell? (ad.add ((j-1)*4))=some (.string y.f0.f0)∧w2.drew.cell? ⟨(ad.add ((j-1)*4)).block,(ad.add ((j-1)*4)).off+1,none⟩=some (.int .i64 y.f0.f1)∧w2.drew.cell? ⟨(ad.add ((j-1)*4)).block,(ad.add ((j-1)*4)).off+2,none⟩=some (.bool y.f0.f2):=λ _=>by
      obtain⟨ad2,hA2,k0,k1,k2,_⟩:=xA HC.out ((j-1:Nat):Int) (Int.natCast_nonneg _) (by omega);rw[Int.toNat_natCast]at k0 k1 k2;injection hA2 with hA2;subst hA2;rw[hy]at k0 k1 k2;exact⟨au (b_ HB.out) k0,au (b_ HB.out) k1,au (b_ HB.out) k2⟩
     have hy0:w2.drew.cell? ⟨g,0,none⟩=some (.string x.f0.f0):=(aj D.out 0).trans rfl;have hy1:w2.drew.cell? ⟨g,1,none⟩=some (.int .i64 x.f0.f1):=(aj D.out 1).trans rfl;have hy2:w2.drew.cell? ⟨g,2,none⟩=some (.bool x.f0.f2):=(aj D.out 2).trans rfl;have hy3:w2.drew.cell? ⟨g,3,none⟩=some (.string x.f1):=(aj D.out 3).trans rfl;have hsl:w2.drew.cell? ⟨gb,2,none⟩=some (.slice (some ad) l.length c):=(aj s.out 2).trans rfl;refine iW (F:=TG g gb x y ad l.length c j q n u p z) (by kernel_rfl) (by kernel_rfl) (λ w w' j u _ h=>h) (Ye g gb x y ad l.length c j q n u p z (Lib.hid hq) (Lib.hid hn) (Lib.hid hu) aO hp (Lib.hid hz) (λ h=>by subst h;have:=of_decide_eq_true hp;rw[IntKind.wrap_i64];omega) (λ h=>by omega) _ hy0 hy1 hy2 hy3 hsl hpr _ rfl rfl rfl) ?_;clear hy hq hn hu hp hz hpr hy0 hy1 hy2 hy3 hsl;intro a w' hF ha hb;have k25:_=_:=hF 0 _ 25 rfl rfl;have k26:_=_:=hF 1 _ 26 rfl rfl;have k27:_=_:=hF 2 _ 27 rfl rfl;have k28:_=_:=hF 3 _ 28 rfl rfl;have U:_=_:=hF 4 _ 29 rfl rfl;have X:_=_:=hF 5 _ 30 rfl rfl;have Ba:_=_:=hF 6 _ 31 rfl rfl;have Y:_=_:=hF 7 _ 32 rfl rfl;have sU:_=_:=hF 8 _ 33 rfl rfl;have Z:_=_:=hF 9 _ 34 rfl rfl;have aa:_=_:=hF 10 _ 35 rfl rfl;have ab:_=_:=hF 11 _ 36 rfl rfl;have ac:_=_:=hF 12 _ 37 rfl rfl;have ae:_=_:=hF 13 _ 38 rfl rfl;have af:_=_:=hF 14 _ 39 rfl rfl;have ag:_=_:=hF 15 _ 40 rfl rfl;have al:_=_:=hF 16 _ 41 rfl rfl;have am:_=_:=hF 17 _ 42 rfl rfl;have an:_=_:=hF 18 _ 43 rfl rfl;have ao:_=_:=hF 19 _ 44 rfl rfl;have ap:_=_:=hF 20 _ 45 rfl rfl;have aq:_=_:=hF 21 _ 46 rfl rfl;have ar:_=_:=hF 22 _ 47 rfl rfl;have av:_=_:=hF 23 _ 48 rfl rfl;have aw:_=_:=hF 24 _ 49 rfl rfl;have ax:_=_:=hF 25 _ 50 rfl rfl;have ay:_=_:=hF 26 _ 51 rfl rfl;have az:_=_:=hF 27 _ 52 rfl rfl;have aB:_=_:=hF 28 _ 53 rfl rfl;have aD:_=_:=hF 29 _ 54 rfl rfl;have aE:_=_:=hF 30 _ 55 rfl rfl;have nG:_=_:=hF 31 _ 56 rfl rfl;have aF:_=_:=hF 32 _ 57 rfl rfl;simp only[eU,List.foldl_cons,List.foldl_nil,k25,k26,k27,k28,U,X,Ba,Y,sU,Z,aa,ab,ac,ae,af,ag,al,am,an,ao,ap,aq,ar,av,aw,ax,ay,az,aB,aD,aE,nG,aF]at ha;clear hF k25 k26 k27 k28 U X Ba Y sU Z aa ab ac ae af ag al am an ao ap aq ar av aw ax ay az aB aD aE nG aF;subst ha;simp only[Act.put,List.setIfInBounds_toArray,List.set_cons_zero,List.set_cons_succ];go_wp2;go_meet
     case rel=>exact⟨by rw[aL.out],⟨aU (b_ HB.out) hb⟩,⟨bY (show w2.drew.heap[gb]? =_ from s.out) hb⟩⟩
    case rest=>
     obtain⟨rfl,HB,s⟩:=hcut;cases hbd:jy l j with
     |false=>
      have HE:=Lib.hid (RX (t:=t) L.out hlt hbd);clear hbd;go_wp2;go_ret;exact⟨by rw[HE.out];rfl,HB.out⟩
     |true=>
      have aP:=Lib.hid hbd;clear hbd;go_wp2;go_roundw
      case rel=>exact⟨j+1,by omega,by go_num,⟨all_succ HJ.out aP.out⟩,HB,s⟩
      case measure=>simp[RowKit.intOf];omega
   .obtain rfl:j=l.length:=by omega
    have c1:decide (l.length<l.length)=false:=decide_eq_false (by omega);have HE:=Lib.hid (show jP t l=0 by unfold jP qI;rw[if_neg L.out,J.out,HJ.out];rfl);go_wp2;go_ret;exact⟨by rw[HE.out];rfl,HB.out⟩
def QG(g:Nat)(f:iY)(b0 d0 e2 n2 e3 v0 v1:Bool):Nat->Value->World->Prop:=λ i s _=>([
λ u=>u= .pointer (some ⟨g,1,none⟩),
 λ u=>u= .int .i64 f.f1,
 λ u=>u= .bool b0,
 λ u=>u= .bool b0,
 λ u=>u=cond (!b0) (.pointer (some ⟨g,1,none⟩)) undef,
 λ u=>u=cond (!b0) (.int .i64 f.f1) undef,
 λ u=>b0=false->∃A c,u= .slice A 13 c,
 λ u=>u=cond (!b0) (.int .i64 13) undef,
 λ u=>u=cond (!b0) (.bool d0) undef,
 λ u=>u= .bool (b0||d0),
 λ u=>u= .bool (b0||d0),
 λ u=>u=cond (!(b0||d0)) (.pointer (some ⟨g,2,none⟩)) undef,
 λ u=>u=cond (!(b0||d0)) (.string f.f2) undef,
 λ u=>u=cond (!(b0||d0)) (.bool e2) undef,
 λ u=>u=cond (!(b0||d0)) (.bool e2) undef,
 λ u=>u=cond (!(b0||d0)&&e2) (.pointer (some ⟨g,2,none⟩)) undef,
 λ u=>u=cond (!(b0||d0)&&e2) (.string f.f2) undef,
 λ u=>u=cond (!(b0||d0)&&e2) (.bool n2) undef,
 λ u=>u=cond (!(b0||d0)&&e2) (.bool (!n2)) undef,
 λ u=>u=cond (!(b0||d0)) (.bool (e2&& !n2)) undef,
 λ u=>u= .bool ((b0||d0)||(e2&& !n2)),
 λ u=>u= .bool ((b0||d0)||(e2&& !n2)),
 λ u=>u=cond (!((b0||d0)||(e2&& !n2))) (.pointer (some ⟨g,3,none⟩)) undef,
 λ u=>u=cond (!((b0||d0)||(e2&& !n2))) (.string f.f3) undef,
 λ u=>u=cond (!((b0||d0)||(e2&& !n2))) (.bool e3) undef,
 λ u=>u=cond (!((b0||d0)||(e2&& !n2))) (.bool e3) undef,
 λ u=>u=cond (!((b0||d0)||(e2&& !n2))&&e3) (.pointer (some ⟨g,3,none⟩)) undef,
 λ u=>u=cond (!((b0||d0)||(e2&& !n2))&&e3) (.string f.f3) undef,
 λ u=>u=cond (!((b0||d0)||(e2&& !n2))&&e3) (.bool v0) undef,
 λ u=>u=cond (!((b0||d0)||(e2&& !n2))&&e3) (.bool (!v0)) undef,
 λ u=>u=cond (!((b0||d0)||(e2&& !n2))) (.bool (e3&& !v0)) undef,
 λ u=>u=cond (!((b0||d0)||(e2&& !n2))) (.bool (e3&& !v0)) undef,
 λ u=>u=cond (!((b0||d0)||(e2&& !n2))&&(e3&& !v0)) (.pointer (some ⟨g,3,none⟩)) undef,
 λ u=>u=cond (!((b0||d0)||(e2&& !n2))&&(e3&& !v0)) (.string f.f3) undef,
 λ u=>u=cond (!((b0||d0)||(e2&& !n2))&&(e3&& !v0)) (.bool v1) undef,
 λ u=>u=cond (!((b0||d0)||(e2&& !n2))&&(e3&& !v0)) (.bool (!v1)) undef,
 λ u=>u=cond (!((b0||d0)||(e2&& !n2))) (.bool ((e3&& !v0)&& !v1)) undef,
 λ u=>u= .bool (((b0||d0)||(e2&& !n2))||((e3&& !v0)&& !v1))]:List (Value->Prop)).getD i (λ _=>True) s
set_option maxHeartbeats 20000000 in
set_option maxRecDepth 100000 in
theorem Xu(g:Nat)(f:iY)(b0 d0 e2 n2 e3 v0 v1:Bool)(h0:decide (f.f1<0)=b0)(h1:decide (13≤f.f1)=d0)(h2:(f.f2.toList !=([]:List UInt8))=e2)(H3:Hid (iP f.f2=n2))(h4:(f.f3.toList !=([]:List UInt8))=e3)
 (H5:Hid (dW f.f3=v0))(O:Hid (ou f.f3=v1))(E:Hid (f.f3.size≤9223372036854775807))(W0:World)(hx1:W0.cell? ⟨g,1,none⟩=some (.int .i64 f.f1))(hx2:W0.cell? ⟨g,2,none⟩=some (.string f.f2))(hx3:W0.cell? ⟨g,3,none⟩=some (.string f.f3))
 (a0:Act)(D:a0.eval (.tmp 6)= .pointer (some ⟨g,0,none⟩)):aJ Tryz.prog (opsOf Tryz.f6 6) (QG g f b0 d0 e2 n2 e3 v0 v1) W0 a0 0 (opsOf Tryz.f6 6).toList:=by
     refine aJ.cons (λ a w' hS hr=>?_) ?_
     .have h6:=gw hr D
      exact dN
     refine aJ.cons (λ a w' hS hr=>?_) ?_
     .have h17:=gQ hr 17 0
      have hc:=au hS hx1;exact dN
     refine aJ.cons (λ a w' hS hr=>?_) ?_
     .cases b0<;>(have h18:=gQ hr 18 1;exact dN)
     refine aJ.cons (λ a w' hS hr=>?_) ?_
     .cases b0<;>(have h19:=gQ hr 19 2;exact dN)
     refine aJ.cons (λ a w' hS hr=>?_) ?_
     .cases b0<;>(have h20:=gQ hr 20 3;have h6:=gw hr D;exact sx h20)
     refine aJ.cons (λ a w' hS hr=>?_) ?_
     .cases b0<;>(have h20:=gQ hr 20 3;have h21:=gQ hr 21 4;(first|exact jD h20|exact jE h20|(have hc:=au hS hx1;exact nO h20)))
     refine aJ.cons (λ a w' hS hr=>?_) ?_
     .cases b0<;>(have h20:=gQ hr 20 3;(first|exact jD h20|exact jE h20|(refine gU #[] ((eO rfl rfl rfl h20).trans rfl) Tryz.func21 (by kernel_rfl) rfl rfl (by simp only[List.map_toArray,List.map_cons,List.map_nil,bT,h20,cond_true,cond_false,Bool.not_true,Bool.not_false,Bool.and_true,Bool.and_false,Bool.true_and,Bool.false_and,Bool.or_true,Bool.or_false,Bool.true_or,Bool.false_or]) ?_;exact(Dx _).mono λ e w2 h=>by obtain⟨v,he,hv,hb⟩:=h;obtain⟨A,c,e1⟩:=Kd.dR hv;exact⟨v,he,λ _=>⟨A,c,e1⟩,hb⟩)))
     refine aJ.cons (λ a w' hS hr=>?_) ?_
     .cases b0<;>(have h20:=gQ hr 20 3;have h23:=gq hr 23 6;(first|exact jD h20|exact jE h20|((obtain⟨A_,c_,h23⟩:=(show false=false->∃A c,a.eval (.tmp 23)= .slice A 13 c from h23) rfl;refine gu ((eO rfl rfl rfl h20).trans rfl) rfl ?_;have h23:=xq h23;simp only[execOp,bT];go_simp))))
     refine aJ.cons (λ a w' hS hr=>?_) ?_
     .cases b0<;>cases d0<;>(have h20:=gQ hr 20 3;have h22:=gQ hr 22 5;have h24:=gQ hr 24 7;exact sx h20)
     refine aJ.cons (λ a w' hS hr=>?_) ?_
     .cases b0<;>cases d0<;>(have h20:=gQ hr 20 3;have h25:=gQ hr 25 8;exact dN)
     refine aJ.cons (λ a w' hS hr=>?_) ?_
     .cases b0<;>cases d0<;>(have h26:=gQ hr 26 9;exact dN)
     refine aJ.cons (λ a w' hS hr=>?_) ?_
     .cases b0<;>cases d0<;>(have h27:=gQ hr 27 10;have h6:=gw hr D;exact sx h27)
     refine aJ.cons (λ a w' hS hr=>?_) ?_
     .cases b0<;>cases d0<;>(have h27:=gQ hr 27 10;have h28:=gQ hr 28 11;(first|exact jD h27|exact jE h27|(have hc:=au hS hx2;exact nO h27)))
     refine aJ.cons (λ a w' hS hr=>?_) ?_
     .cases b0<;>cases d0<;>cases e2<;>(have h27:_=_:=hr.got 27 10 (by kernel_rfl) rfl rfl (by decide);have F:_=_:=hr.got 29 12 (by kernel_rfl) rfl rfl (by decide);(first|exact qF ((eO rfl rfl rfl h27).trans rfl) (by first|rfl|nofun)|exact qF (pF rfl rfl rfl h27) (by first|rfl|nofun)|((refine gu ((eO rfl rfl rfl h27).trans rfl) rfl ?_;simp only[execOp,bT,h27,F,cond_true,cond_false,Bool.not_true,Bool.not_false,Bool.or_false];go_simp;simpa using h2))))
     refine aJ.cons (λ a w' hS hr=>?_) ?_
     .cases b0<;>cases d0<;>cases e2<;>(have h27:=gQ hr 27 10;have h30:=gQ hr 30 13;exact sx h27)
     refine aJ.cons (λ a w' hS hr=>?_) ?_
     .cases b0<;>cases d0<;>cases e2<;>(have h31:=gQ hr 31 14;have h6:=gw hr D;exact sx h31)
     refine aJ.cons (λ a w' hS hr=>?_) ?_
     .cases b0<;>cases d0<;>cases e2<;>(have h31:=gQ hr 31 14;have h32:=gQ hr 32 15;(first|exact jD h31|exact jE h31|(have hc:=au hS hx2;exact nO h31)))
     refine aJ.cons (λ a w' hS hr=>?_) ?_
     .cases b0<;>cases d0<;>cases e2<;>cases n2<;>(have h31:=gQ hr 31 14;have I:=gQ hr 33 16;(first|exact jD h31|exact jE h31|(refine gU #[.string f.f2] ((eO rfl rfl rfl h31).trans rfl) Tryz.func22 (by kernel_rfl) rfl rfl (by simp only[List.map_toArray,List.map_cons,List.map_nil,bT,h31,I,cond_true,cond_false,Bool.not_true,Bool.not_false,Bool.and_true,Bool.and_false,Bool.true_and,Bool.false_and,Bool.or_true,Bool.or_false,Bool.true_or,Bool.false_or]) ?_;exact(Nv _ _).mono λ e w2 h=>⟨_,h.1,congrArg Value.bool H3.out,h.2⟩)))
     refine aJ.cons (λ a w' hS hr=>?_) ?_
     .cases b0<;>cases d0<;>cases e2<;>cases n2<;>(have h31:=gQ hr 31 14;have h34:=gQ hr 34 17;exact sx h31)
     refine aJ.cons (λ a w' hS hr=>?_) ?_
     .cases b0<;>cases d0<;>cases e2<;>cases n2<;>(have h27:=gQ hr 27 10;have h31:=gQ hr 31 14;have h35:=gQ hr 35 18;exact sx h27)
     refine aJ.cons (λ a w' hS hr=>?_) ?_
     .cases b0<;>cases d0<;>cases e2<;>cases n2<;>(have h27:=gQ hr 27 10;have h36:=gQ hr 36 19;exact dN)
     refine aJ.cons (λ a w' hS hr=>?_) ?_
     .cases b0<;>cases d0<;>cases e2<;>cases n2<;>(have h37:=gQ hr 37 20;exact dN)
     refine aJ.cons (λ a w' hS hr=>?_) ?_
     .cases b0<;>cases d0<;>cases e2<;>cases n2<;>(have s:=gQ hr 38 21;have h6:=gw hr D;exact sx s)
     refine aJ.cons (λ a w' hS hr=>?_) ?_
     .cases b0<;>cases d0<;>cases e2<;>cases n2<;>(have s:=gQ hr 38 21;have h39:=gQ hr 39 22;(first|exact jD s|exact jE s|(have hc:=au hS hx3;exact nO s)))
     refine aJ.cons (λ a w' hS hr=>?_) ?_
     .cases b0<;>cases d0<;>cases e2<;>cases n2<;>cases e3<;>(have s:_=_:=hr.got 38 21 (by kernel_rfl) rfl rfl (by decide);have J:_=_:=hr.got 40 23 (by kernel_rfl) rfl rfl (by decide);(first|exact qF ((eO rfl rfl rfl s).trans rfl) (by first|rfl|nofun)|exact qF (pF rfl rfl rfl s) (by first|rfl|nofun)|((refine gu ((eO rfl rfl rfl s).trans rfl) rfl ?_;simp only[execOp,bT,s,J,cond_true,cond_false,Bool.not_true,Bool.not_false,Bool.or_false,Bool.false_and,Bool.true_and];go_simp;simpa using h4))))
     refine aJ.cons (λ a w' hS hr=>?_) ?_
     .cases b0<;>cases d0<;>cases e2<;>cases n2<;>cases e3<;>(have s:=gQ hr 38 21;have h41:=gQ hr 41 24;exact sx s)
     refine aJ.cons (λ a w' hS hr=>?_) ?_
     .cases b0<;>cases d0<;>cases e2<;>cases n2<;>cases e3<;>(have z:=gQ hr 42 25;have h6:=gw hr D;exact sx z)
     refine aJ.cons (λ a w' hS hr=>?_) ?_
     .cases b0<;>cases d0<;>cases e2<;>cases n2<;>cases e3<;>(have z:=gQ hr 42 25;have h43:=gQ hr 43 26;(first|exact jD z|exact jE z|(have hc:=au hS hx3;exact nO z)))
     refine aJ.cons (λ a w' hS hr=>?_) ?_
     .cases b0<;>cases d0<;>cases e2<;>cases n2<;>cases e3<;>cases v0<;>(have z:=gQ hr 42 25;have L:=gQ hr 44 27;(first|exact jD z|exact jE z|(refine gU #[.string f.f3,.int .i64 0] ((eO rfl rfl rfl z).trans rfl) Tryz.func23 (by kernel_rfl) rfl rfl (by simp only[List.map_toArray,List.map_cons,List.map_nil,bT,z,L,cond_true,cond_false,Bool.not_true,Bool.not_false,Bool.and_true,Bool.and_false,Bool.true_and,Bool.false_and,Bool.or_true,Bool.or_false,Bool.true_or,Bool.false_or]) ?_;exact(BJ _ E.out _).mono λ e w2 h=>⟨_,h.1,congrArg Value.bool H5.out,h.2⟩)))
     refine aJ.cons (λ a w' hS hr=>?_) ?_
     .cases b0<;>cases d0<;>cases e2<;>cases n2<;>cases e3<;>cases v0<;>(have z:=gQ hr 42 25;have h45:=gQ hr 45 28;exact sx z)
     refine aJ.cons (λ a w' hS hr=>?_) ?_
     .cases b0<;>cases d0<;>cases e2<;>cases n2<;>cases e3<;>cases v0<;>(have s:=gQ hr 38 21;have z:=gQ hr 42 25;have h46:=gQ hr 46 29;exact sx s)
     refine aJ.cons (λ a w' hS hr=>?_) ?_
     .cases b0<;>cases d0<;>cases e2<;>cases n2<;>cases e3<;>cases v0<;>(have s:=gQ hr 38 21;have h47:=gQ hr 47 30;exact sx s)
     refine aJ.cons (λ a w' hS hr=>?_) ?_
     .cases b0<;>cases d0<;>cases e2<;>cases n2<;>cases e3<;>cases v0<;>(have h48:=gQ hr 48 31;have h6:=gw hr D;exact sx h48)
     refine aJ.cons (λ a w' hS hr=>?_) ?_
     .cases b0<;>cases d0<;>cases e2<;>cases n2<;>cases e3<;>cases v0<;>(have h48:=gQ hr 48 31;have h49:=gQ hr 49 32;(first|exact jD h48|exact jE h48|(have hc:=au hS hx3;exact nO h48)))
     refine aJ.cons (λ a w' hS hr=>?_) ?_
     .cases b0<;>cases d0<;>cases e2<;>cases n2<;>cases e3<;>cases v0<;>cases v1<;>(have h48:=gQ hr 48 31;have h50:=gQ hr 50 33;(first|exact jD h48|exact jE h48|(refine gU #[.string f.f3,.int .i64 1] ((eO rfl rfl rfl h48).trans rfl) Tryz.func23 (by kernel_rfl) rfl rfl (by simp only[List.map_toArray,List.map_cons,List.map_nil,bT,h48,h50,cond_true,cond_false,Bool.not_true,Bool.not_false,Bool.and_true,Bool.and_false,Bool.true_and,Bool.false_and,Bool.or_true,Bool.or_false,Bool.true_or,Bool.false_or]) ?_;exact(BL _ _).mono λ e w2 h=>⟨_,h.1,congrArg Value.bool O.out,h.2⟩)))
     refine aJ.cons (λ a w' hS hr=>?_) ?_
     .cases b0<;>cases d0<;>cases e2<;>cases n2<;>cases e3<;>cases v0<;>cases v1<;>(have h48:=gQ hr 48 31;have h51:=gQ hr 51 34;exact sx h48)
     refine aJ.cons (λ a w' hS hr=>?_) ?_
     .cases b0<;>cases d0<;>cases e2<;>cases n2<;>cases e3<;>cases v0<;>cases v1<;>(have s:=gQ hr 38 21;have h48:=gQ hr 48 31;have h52:=gQ hr 52 35;exact sx s)
     refine aJ.cons (λ a w' hS hr=>?_) ?_
     .cases b0<;>cases d0<;>cases e2<;>cases n2<;>cases e3<;>cases v0<;>cases v1<;>(have s:=gQ hr 38 21;have h53:=gQ hr 53 36;exact dN)
     exact aJ.nil
def F7(x:ByteArray)(g:Nat)(f:iY):Nat->Value->World->Prop:=λ i=>([
λ u _=>u= .string x,
 λ u _=>u= .pointer (some ⟨g,0,none⟩),
 λ u _=>u= .int .i64 f.f0,
 λ u _=>u= .string (⟨(Lib.itoa f.f0).toArray⟩:ByteArray),
 λ u _=>u= .string (x++(⟨(Lib.itoa f.f0).toArray⟩:ByteArray)),
 λ u _=>u= .string ((x++(⟨(Lib.itoa f.f0).toArray⟩:ByteArray))++(⟨#[32]⟩:ByteArray)),
 λ u w=>∃ad c,u= .slice (some ad) 13 c∧w.cell? (ad.add f.f1.toNat)=some (.string (iG f.f1)),
 λ u _=>u= .pointer (some ⟨g,1,none⟩),
 λ u _=>u= .int .i64 f.f1,
 λ u w=>∃ad,u= .pointer (some ad)∧w.cell? ad=some (.string (iG f.f1)),
 λ u _=>u= .string (iG f.f1),
 λ u _=>u= .string (((x++(⟨(Lib.itoa f.f0).toArray⟩:ByteArray))++(⟨#[32]⟩:ByteArray))++iG f.f1),
 λ u _=>u= .string ((((x++(⟨(Lib.itoa f.f0).toArray⟩:ByteArray))++(⟨#[32]⟩:ByteArray))++iG f.f1)++(⟨#[32]⟩:ByteArray)),
 λ u _=>u= .pointer (some ⟨g,2,none⟩),
 λ u _=>u= .string f.f2,
 λ u _=>u= .string (gW f.f2),
 λ u _=>u= .string (((((x++(⟨(Lib.itoa f.f0).toArray⟩:ByteArray))++(⟨#[32]⟩:ByteArray))++iG f.f1)++(⟨#[32]⟩:ByteArray))++gW f.f2),
 λ u _=>u= .string ((((((x++(⟨(Lib.itoa f.f0).toArray⟩:ByteArray))++(⟨#[32]⟩:ByteArray))++iG f.f1)++(⟨#[32]⟩:ByteArray))++gW f.f2)++(⟨#[32]⟩:ByteArray)),
 λ u _=>u= .pointer (some ⟨g,3,none⟩),
 λ u _=>u= .string f.f3,
 λ u _=>u= .string (gW f.f3),
 λ u _=>u= .string (((((((x++(⟨(Lib.itoa f.f0).toArray⟩:ByteArray))++(⟨#[32]⟩:ByteArray))++iG f.f1)++(⟨#[32]⟩:ByteArray))++gW f.f2)++(⟨#[32]⟩:ByteArray))++gW f.f3),
 λ u _=>u= .string ((((((((x++(⟨(Lib.itoa f.f0).toArray⟩:ByteArray))++(⟨#[32]⟩:ByteArray))++iG f.f1)++(⟨#[32]⟩:ByteArray))++gW f.f2)++(⟨#[32]⟩:ByteArray))++gW f.f3)++(⟨#[10]⟩:ByteArray)),
 λ u _=>u= .string ((((((((x++(⟨(Lib.itoa f.f0).toArray⟩:ByteArray))++(⟨#[32]⟩:ByteArray))++iG f.f1)++(⟨#[32]⟩:ByteArray))++gW f.f2)++(⟨#[32]⟩:ByteArray))++gW f.f3)++(⟨#[10]⟩:ByteArray))]:List (Value->World->Prop)).getD i (λ _ _=>True)
theorem Ma(x:ByteArray)(g:Nat)(f:iY):∀w w' j u,Below w.heap.size w w'->F7 x g f j u w->F7 x g f j u w':=by
 refine ig.get ?_;repeat(first|exact ig.nil|refine ig.cons (λ _ _ _ _ h=>h) ?_|refine ig.cons (λ u w w' hb h=>by obtain⟨ad,c,h1,h2⟩:=h;exact⟨ad,c,h1,au hb h2⟩) ?_|refine ig.cons (λ u w w' hb h=>by obtain⟨ad,h1,h2⟩:=h;exact⟨ad,h1,au hb h2⟩) ?_)
set_option maxHeartbeats 20000000 in
set_option maxRecDepth 100000 in
theorem Xv(x:ByteArray)(g:Nat)(f:iY)(hn0: -9223372036854775808≤f.f0)(hn1:f.f0≤9223372036854775807)(hk0:0≤f.f1)(hk1:f.f1<13)(hxs:x.size≤4000000000000)(hN:(Lib.itoa f.f0).length≤1000)(hK:(iG f.f1).size≤1000)(hD2:(gW f.f2).size≤4000001)(hD3:(gW f.f3).size≤4000001)
  (W0:World)(hx0:W0.cell? ⟨g,0,none⟩=some (.int .i64 f.f0))(hx1:W0.cell? ⟨g,1,none⟩=some (.int .i64 f.f1))(hx2:W0.cell? ⟨g,2,none⟩=some (.string f.f2))(hx3:W0.cell? ⟨g,3,none⟩=some (.string f.f3))
  (a0:Act)(s:a0.eval (.tmp 6)= .pointer (some ⟨g,0,none⟩))(D:a0.eval (.tmp 4)= .string x):aJ Tryz.prog (opsOf Tryz.f6 8) (F7 x g f) W0 a0 0 (opsOf Tryz.f6 8).toList:=by
 refine aJ.cons (λ a w' hS hr=>?_) ?_
 .have h4:=gw hr D
  exact dN
 refine aJ.cons (λ a w' hS hr=>?_) ?_
 .have h6:=gw hr s
  exact dN
 refine aJ.cons (λ a w' hS hr=>?_) ?_
 .have h56:=gQ hr 56 1
  have hc:=au hS hx0;exact dN
 refine aJ.cons (λ a w' hS hr=>?_) ?_
 .have h57:=gQ hr 57 2
  refine gU #[.int .i64 f.f0] (dL rfl) Tryz.func24 (by kernel_rfl) rfl rfl (by simp only[List.map_toArray,List.map_cons,List.map_nil,bT,h57]) ?_;exact(Nu _ hn0 hn1 _).mono λ e w2 h=>⟨_,h.1,rfl,h.2⟩
 refine aJ.cons (λ a w' hS hr=>?_) ?_
 .have E:=gQ hr 55 0
  have F:=gQ hr 58 3
  (refine gu (dL rfl) rfl ?_;simp only[execOp,bT,E,F];go_simp;omega)
 refine aJ.cons (λ a w' hS hr=>?_) ?_
 .have I:=gQ hr 59 4
  (refine gu (dL rfl) rfl ?_;simp only[execOp,bT,I];go_simp;omega)
 refine aJ.cons (λ a w' hS hr=>?_) ?_
 .refine gU #[] (dL rfl) Tryz.func21 (by kernel_rfl) rfl rfl (by simp only[List.map_toArray,List.map_cons,List.map_nil,bT]) ?_;exact(Dx _).mono λ e w2 h=>by obtain⟨v,he,hv,hb⟩:=h;obtain⟨A,c,e1⟩:=Kd.dR hv;subst e1;obtain⟨ad,e2,hc⟩:=Kd.rF (Kd.d9 hv).2.2 f.f1 hk0 (by rw[EX];exact hk1);subst e2;exact⟨_,he,⟨ad,c,rfl,hc⟩,hb⟩
 refine aJ.cons (λ a w' hS hr=>?_) ?_
 .have h6:=gw hr s
  exact dN
 refine aJ.cons (λ a w' hS hr=>?_) ?_
 .have h62:=gQ hr 62 7
  have hc:=au hS hx1;exact dN
 refine aJ.cons (λ a w' hS hr=>?_) ?_
 .have z:=gq hr 61 6
  have h63:=gQ hr 63 8
  (obtain⟨ad,c,z,hc⟩:=(show∃ad c,a.eval (.tmp 61)= .slice (some ad) 13 c∧w'.cell? (ad.add f.f1.toNat)=some (.string (iG f.f1))from z);refine gu (v:= .pointer (some (ad.add f.f1.toNat))) (dL rfl) ⟨_,rfl,hc⟩ ?_;have p1:(0≤f.f1)=True:=eq_true hk0;have q1:(f.f1<13)=True:=eq_true hk1;simp only[execOp,bT,z,h63];go_simp)
 refine aJ.cons (λ a w' hS hr=>?_) ?_
 .have h64:=gq hr 64 9
  (obtain⟨ad,h64,hc⟩:=(show∃ad,a.eval (.tmp 64)= .pointer (some ad)∧w'.cell? ad=some (.string (iG f.f1))from h64);exact dN)
 refine aJ.cons (λ a w' hS hr=>?_) ?_
 .have J:=gQ hr 60 5
  have L:=gQ hr 65 10
  (refine gu (dL rfl) rfl ?_;simp only[execOp,bT,J,L];go_simp;omega)
 refine aJ.cons (λ a w' hS hr=>?_) ?_
 .have O:=gQ hr 66 11
  (refine gu (dL rfl) rfl ?_;simp only[execOp,bT,O];go_simp;omega)
 refine aJ.cons (λ a w' hS hr=>?_) ?_
 .have h6:=gw hr s
  exact dN
 refine aJ.cons (λ a w' hS hr=>?_) ?_
 .have h68:=gQ hr 68 13
  have hc:=au hS hx2;exact dN
 refine aJ.cons (λ a w' hS hr=>?_) ?_
 .have T:=gQ hr 69 14
  refine gU #[.string f.f2] (dL rfl) Tryz.func25 (by kernel_rfl) rfl rfl (by simp only[List.map_toArray,List.map_cons,List.map_nil,bT,T]) ?_;exact(J8 _ _).mono λ e w2 h=>⟨_,h.1,rfl,h.2⟩
 refine aJ.cons (λ a w' hS hr=>?_) ?_
 .have U:=gQ hr 67 12
  have X:=gQ hr 70 15
  (refine gu (dL rfl) rfl ?_;simp only[execOp,bT,U,X];go_simp;omega)
 refine aJ.cons (λ a w' hS hr=>?_) ?_
 .have Y:=gQ hr 71 16
  (refine gu (dL rfl) rfl ?_;simp only[execOp,bT,Y];go_simp;omega)
 refine aJ.cons (λ a w' hS hr=>?_) ?_
 .have h6:=gw hr s
  exact dN
 refine aJ.cons (λ a w' hS hr=>?_) ?_
 .have h73:=gQ hr 73 18
  have hc:=au hS hx3;exact dN
 refine aJ.cons (λ a w' hS hr=>?_) ?_
 .have Z:=gQ hr 74 19
  refine gU #[.string f.f3] (dL rfl) Tryz.func25 (by kernel_rfl) rfl rfl (by simp only[List.map_toArray,List.map_cons,List.map_nil,bT,Z]) ?_;exact(J8 _ _).mono λ e w2 h=>⟨_,h.1,rfl,h.2⟩
 refine aJ.cons (λ a w' hS hr=>?_) ?_
 .have h72:=gQ hr 72 17
  have aa:=gQ hr 75 20
  (refine gu (dL rfl) rfl ?_;simp only[execOp,bT,h72,aa];go_simp;omega)
 refine aJ.cons (λ a w' hS hr=>?_) ?_
 .have ab:=gQ hr 76 21
  (refine gu (dL rfl) rfl ?_;simp only[execOp,bT,ab];go_simp;omega)
 refine aJ.cons (λ a w' hS hr=>?_) ?_
 .have h77:=gQ hr 77 22
  exact dN
 exact aJ.nil
def TU(r:ByteArray×Int)(w:World)(e:Ending)(w':World):Prop:=e= .returned (.tuple #[.string r.1,.int .i64 r.2])∧Below w.heap.size w w'
theorem IQ(f:iY){b0 d0 e2 n2 e3 v0 v1:Bool}(h0:decide (f.f1<0)=b0)(h1:decide (13≤f.f1)=d0)(h2:(f.f2.toList !=([]:List UInt8))=e2)(h3:iP f.f2=n2)(h4:(f.f3.toList !=([]:List UInt8))=e3)
 (h5:dW f.f3=v0)(h6:ou f.f3=v1):(!mO f)=(b0||d0||(e2&& !n2)||(e3&&(!v0&& !v1))):=by
 unfold mO ku;rw[h3,h5,h6,<-h0,<-h1,<-h2,<-h4];have e1:decide (0≤f.f1)= !decide (f.f1<0):=by rw[<-decide_not];apply decide_eq_decide.2;omega
 have e2:decide (f.f1<13)= !decide (13≤f.f1):=by rw[<-decide_not];apply decide_eq_decide.2;omega
 have e3:∀l:List UInt8,decide (l=[])= !(l !=[]):=λ l=>by cases l<;>rfl
 rw[e1,e2,e3,e3];cases decide (f.f1<0)<;>cases decide (13≤f.f1)<;>cases(f.f2.toList !=[])<;>cases(f.f3.toList !=[])<;>cases n2<;>cases v0<;>cases v1<;>rfl
set_option maxHeartbeats 20000000 in
set_option maxRecDepth 100000 in
theorem LU(l:List iY)(A:Option Addr)(c:Nat)(w:World)(hC:Kd.C k28 w A l.length l)(hc:l.length≤c)(hz:Dc l)(ba:l.length≤60):
 Calls Tryz.prog 6 #[.slice A l.length c] w λ e w'=>TU (Av l) w e w':=by
 have hu28:=Tryz.underlying28;have HC:=ah.mk hC;have a9:=Lib.hid hz;clear hC hz;go_enter Tryz.func6,Tryz.ntmps6;go_wp2;go_loopw [4,5] (λ t i wr=>∃(j:Nat)(x:ByteArray),j≤l.length∧i= .int .i64 j∧t= .string x∧ah (Lines l j x)∧ah (Below w.heap.size w wr)) (λ _ i _=>l.length-(RowKit.intOf i).toNat)
 case atStart=>exact⟨0,⟨#[]⟩,Nat.zero_le _,rfl,rfl,⟨rfl,rfl⟩,⟨Below.refl _ _⟩⟩
 case round=>
  obtain⟨j,x,hj,rfl,rfl,HL,HB⟩:=hrel;by_cases hlt:j<l.length
  .obtain⟨ad,hA,hx0,hx1,hx2,hx3⟩:=KC HC.out j (Int.natCast_nonneg j) (by omega)
   rw[Int.toNat_natCast]at hx0 hx1 hx2 hx3;subst hA;replace hx0:=au HB.out hx0;replace hx1:=au HB.out hx1;replace hx2:=au HB.out hx2;replace hx3:=au HB.out hx3;obtain⟨f,hf⟩:∃f,lZ l (j:Int)=f:=⟨_,rfl⟩;rw[hf]at hx0 hx1 hx2 hx3;have HF:=Lib.hid hf;clear hf;have b1:decide (j<l.length)=true:=decide_eq_true hlt;have p1:((0:Int)≤(j:Int))=True:=eq_true (by omega);have q1:((j:Int)<(l.length:Int))=True:=eq_true (by omega)
   go_wp2_with (first|((with_reducible refine gd 6 rfl ?_);refine bx #[.int .i64 0,.int .i64 0,.string (⟨#[]⟩:ByteArray),.string (⟨#[]⟩:ByteArray)] 28 ?_;intro g hg w1 s hb;have z:=kh hb;have GE:=ah.mk (show w.heap.size≤g by rw[hg];exact HB.out.size);replace hx0:=au hb hx0;replace hx1:=au hb hx1;replace hx2:=au hb hx2;replace hx3:=au hb hx3;clear HB hb hg;have HB:=z;clear z;have hc0:=(aj s.out 0).trans rfl;have hc1:=(aj s.out 1).trans rfl;have hc2:=(aj s.out 2).trans rfl;have hc3:=(aj s.out 3).trans rfl;have hf0:=aI s.out 0;have hf1:=aI s.out 1;have hf2:=aI s.out 2;have hf3:=aI s.out 3))
   have z:=ah.mk (wW (.int .i64 f.f0) (.int .i64 f.f1) (.string f.f2) (.string f.f3) s.out);have E:=ah.mk (jg (.int .i64 f.f0) (.int .i64 f.f1) (.string f.f2) (.string f.f3) HB.out GE.out);clear s HB hx0 hx1 hx2 hx3 hc0 hc1 hc2 hc3 hf0 hf1 hf2 hf3;generalize ((((w1.setCell _ _).setCell _ _).setCell _ _).setCell _ _)=w2 at z E|-
   have s:=z;have HB:=E;clear z E
   go_upto_if 54 with fail
   go_cut [54] (λ v w'=>v= .bool (!mO f)∧ah (w'.heap[g]? =some (.cells #[.int .i64 f.f0,.int .i64 f.f1,.string f.f2,.string f.f3] 28 (0,0)))∧ah (Below w.heap.size w w'))
   case first=>
    have s:ah (w2.drew.heap[g]? =some (.cells #[.int .i64 f.f0,.int .i64 f.f1,.string f.f2,.string f.f3] 28 (0,0))):=⟨s.out⟩;have HB:ah (Below w.heap.size w w2.drew):=⟨b_ HB.out⟩;obtain⟨b0,h0⟩:∃b,decide (f.f1<0)=b:=⟨_,rfl⟩;obtain⟨d0,h1⟩:∃b,decide (13≤f.f1)=b:=⟨_,rfl⟩;obtain⟨e2,h2⟩:∃b,(f.f2.toList !=([]:List UInt8))=b:=⟨_,rfl⟩;obtain⟨n2,h3⟩:∃b,iP f.f2=b:=⟨_,rfl⟩;obtain⟨e3,h4⟩:∃b,(f.f3.toList !=([]:List UInt8))=b:=⟨_,rfl⟩;obtain⟨v0,h5⟩:∃b,dW f.f3=b:=⟨_,rfl⟩;obtain⟨v1,h6⟩:∃b,ou f.f3=b:=⟨_,rfl⟩;have bb:=Lib.hid (IQ f h0 h1 h2 h3 h4 h5 h6);have bc:=Lib.hid (show f.f3.size≤9223372036854775807 by have:=vZ a9.out hlt;rw[HF.out]at this;omega);have H3:=Lib.hid h3;have H5:=Lib.hid h5;have be:=Lib.hid h6;clear h3 h5 h6;have hx1:w2.drew.cell? ⟨g,1,none⟩=some (.int .i64 f.f1):=(aj s.out 1).trans rfl;have hx2:w2.drew.cell? ⟨g,2,none⟩=some (.string f.f2):=(aj s.out 2).trans rfl;have hx3:w2.drew.cell? ⟨g,3,none⟩=some (.string f.f3):=(aj s.out 3).trans rfl;refine iW (F:=QG g f b0 d0 e2 n2 e3 v0 v1) (by kernel_rfl) (by kernel_rfl) (λ w w' j u _ h=>h) (Xu g f b0 d0 e2 n2 e3 v0 v1 h0 h1 h2 H3 h4 H5 be bc _ hx1 hx2 hx3 _ rfl) ?_;intro a w' hF ha hb;have k17:_=_:=hF 0 _ 17 rfl rfl;have k18:_=_:=hF 1 _ 18 rfl rfl;have k19:_=_:=hF 2 _ 19 rfl rfl;have k20:_=_:=hF 3 _ 20 rfl rfl;have k21:_=_:=hF 4 _ 21 rfl rfl;have k22:_=_:=hF 5 _ 22 rfl rfl;have k24:_=_:=hF 7 _ 24 rfl rfl;have k25:_=_:=hF 8 _ 25 rfl rfl;have k26:_=_:=hF 9 _ 26 rfl rfl;have k27:_=_:=hF 10 _ 27 rfl rfl;have k28:_=_:=hF 11 _ 28 rfl rfl;have I:_=_:=hF 12 _ 29 rfl rfl;have J:_=_:=hF 13 _ 30 rfl rfl;have Ba:_=_:=hF 14 _ 31 rfl rfl;have L:_=_:=hF 15 _ 32 rfl rfl;have sU:_=_:=hF 16 _ 33 rfl rfl;have O:_=_:=hF 17 _ 34 rfl rfl;have T:_=_:=hF 18 _ 35 rfl rfl;have U:_=_:=hF 19 _ 36 rfl rfl;have X:_=_:=hF 20 _ 37 rfl rfl;have Y:_=_:=hF 21 _ 38 rfl rfl;have Z:_=_:=hF 22 _ 39 rfl rfl;have aa:_=_:=hF 23 _ 40 rfl rfl;have ab:_=_:=hF 24 _ 41 rfl rfl;have ac:_=_:=hF 25 _ 42 rfl rfl;have ae:_=_:=hF 26 _ 43 rfl rfl;have af:_=_:=hF 27 _ 44 rfl rfl;have ag:_=_:=hF 28 _ 45 rfl rfl;have al:_=_:=hF 29 _ 46 rfl rfl;have am:_=_:=hF 30 _ 47 rfl rfl;have an:_=_:=hF 31 _ 48 rfl rfl;have ao:_=_:=hF 32 _ 49 rfl rfl;have ap:_=_:=hF 33 _ 50 rfl rfl;have aq:_=_:=hF 34 _ 51 rfl rfl;have ar:_=_:=hF 35 _ 52 rfl rfl;have av:_=_:=hF 36 _ 53 rfl rfl;have aw:_=_:=hF 37 _ 54 rfl rfl;simp only[eU,List.foldl_cons,List.foldl_nil,k17,k18,k19,k20,k21,k22,k24,k25,k26,k27,k28,I,J,Ba,L,sU,O,T,U,X,Y,Z,aa,ab,ac,ae,af,ag,al,am,an,ao,ap,aq,ar,av,aw]at ha;generalize a.tmps.getD 23 undef=u23 at ha;clear hF k17 k18 k19 k20 k21 k22 k24 k25 k26 k27 k28 I J Ba L sU O T U X Y Z aa ab ac ae af ag al am an ao ap aq ar av aw;subst ha;simp only[Act.put,List.setIfInBounds_toArray,List.set_cons_zero,List.set_cons_succ];go_wp2;go_meet
    case rel=>exact⟨by rw[bb.out,Bool.and_assoc],⟨bY s.out hb⟩,⟨aU HB.out hb⟩⟩
   case rest=>
    obtain⟨rfl,s,HB⟩:=hcut;cases D:mO f with
    |false=>
     have HT:=Lib.hid (Lines.bad hlt HF.out D);go_wp2;go_ret2;exact⟨by rw[HT.out];rfl,HB.out⟩
    |true=>
     have bd:=Lib.hid (HL.out.next hlt HF.out D);have hn:=vZ a9.out hlt;have hxs:=HL.out.size a9.out ba;have hk:=Ef D;rw[HF.out]at hn;have HR:=Lib.hid (λ W0 a0 h0 h1 h2 h3=>Xv x g f hn.2.2.1 hn.2.2.2 hk.1 hk.2 hxs (Ca hn.2.2.1 hn.2.2.2) (Aw hk.1 hk.2) (Nat.le_trans (qc _) (by omega)) (Nat.le_trans (qc _) (by omega)) W0 h0 h1 h2 h3 a0);clear hn hxs hk D;go_wp2;refine iW (F:=F7 x g f) (by kernel_rfl) (by kernel_rfl) (Ma x g f) (HR.out _ _ ((aj s.out 0).trans rfl) ((aj s.out 1).trans rfl) ((aj s.out 2).trans rfl) ((aj s.out 3).trans rfl) rfl rfl) ?_;intro a w' hF ha hb;have ax:_=_:=hF 0 _ 55 rfl rfl;have nG:_=_:=hF 1 _ 56 rfl rfl;have ay:_=_:=hF 2 _ 57 rfl rfl;have az:_=_:=hF 3 _ 58 rfl rfl;have aB:_=_:=hF 4 _ 59 rfl rfl;have aD:_=_:=hF 5 _ 60 rfl rfl;have aE:_=_:=hF 7 _ 62 rfl rfl;have aF:_=_:=hF 8 _ 63 rfl rfl;have aL:_=_:=hF 10 _ 65 rfl rfl;have aO:_=_:=hF 11 _ 66 rfl rfl;have aP:_=_:=hF 12 _ 67 rfl rfl;have aR:_=_:=hF 13 _ 68 rfl rfl;have aS:_=_:=hF 14 _ 69 rfl rfl;have a1:_=_:=hF 15 _ 70 rfl rfl;have a2:_=_:=hF 16 _ 71 rfl rfl;have a3:_=_:=hF 17 _ 72 rfl rfl;have a4:_=_:=hF 18 _ 73 rfl rfl;have a5:_=_:=hF 19 _ 74 rfl rfl;have a6:_=_:=hF 20 _ 75 rfl rfl;have a7:_=_:=hF 21 _ 76 rfl rfl;have a8:_=_:=hF 22 _ 77 rfl rfl;have k4:_=_:=hF 23 _ 4 rfl rfl;simp only[eU,List.foldl_cons,List.foldl_nil,ax,nG,ay,az,aB,aD,aE,aF,aL,aO,aP,aR,aS,a1,a2,a3,a4,a5,a6,a7,a8,k4]at ha;generalize a.tmps.getD 61 undef=u61 at ha;generalize a.tmps.getD 64 undef=u64 at ha;clear hF ax nG ay az aB aD aE aF aL aO aP aR aS a1 a2 a3 a4 a5 a6 a7 a8 k4;subst ha;simp only[Act.put,List.setIfInBounds_toArray,List.set_cons_zero,List.set_cons_succ];rw[LX];go_wp2;go_roundw
     case rel=>exact⟨j+1,_,by omega,by go_num,rfl,⟨bd.out⟩,⟨aU (b_ HB.out) hb⟩⟩
     case measure=>simp[RowKit.intOf];omega
  .obtain rfl:j=l.length:=by omega
   have HT:=Lib.hid (HL.out.all);have b1:decide (l.length<l.length)=false:=decide_eq_false (by omega);go_wp2;go_ret2;exact⟨by rw[HT.out];rfl,HB.out⟩
def QY(ad:Addr)(L c j:Nat)(x:nP)(A2:Option Addr)(c2:Nat)(n:ByteArray)(o:Int)(p:Bool)(s:ByteArray)(ok:Bool):Nat->Value->World->Prop:=λ i z _=>([
λ u=>u= .slice (some ad) L c,
 λ u=>u= .int .i64 (j:Int),
 λ u=>u= .pointer (some (ad.add (j*4))),
 λ u=>u= .pointer (some ⟨(ad.add (j*4)).block,(ad.add (j*4)).off+1,none⟩),
 λ u=>u= .agg #[.string x.f1.f0,.bool x.f1.f1,.slice A2 x.f1.f2.length c2],
 λ u=>u= .agg #[.string n,.int .i64 o,.bool p],
 λ u=>u= .tuple #[.string s,.bool ok],
 λ u=>u= .tuple #[.string s,.bool ok],
 λ u=>u= .string s,
 λ u=>u= .bool ok,
 λ u=>u= .string s,
 λ u=>u= .bool ok]:List (Value->Prop)).getD i (λ _=>True) z
set_option maxHeartbeats 20000000 in
set_option maxRecDepth 100000 in
theorem XF(ad:Addr)(L c j g:Nat)(x:nP)(A2:Option Addr)(c2:Nat)(n:ByteArray)(o:Int)(p:Bool)(s:ByteArray)(ok:Bool)(K:Nat)(z:Hid (dF.f K x.f1.f0 x.f1.f1 x.f1.f2 n o p=some (s,ok)))(p1:((0:Int)≤(j:Int))=True)(q1:((j:Int)<(L:Int))=True)
  (W0:World)(D:ah (Kd.C nG W0 A2 x.f1.f2.length x.f1.f2))(HL2:Hid (x.f1.f2.length≤c2))(hx1:W0.cell? ⟨(ad.add (j*4)).block,(ad.add (j*4)).off+1,none⟩=some (.string x.f1.f0))(hx2:W0.cell? ⟨(ad.add (j*4)).block,(ad.add (j*4)).off+2,none⟩=some (.bool x.f1.f1))(hx3:W0.cell? ⟨(ad.add (j*4)).block,(ad.add (j*4)).off+3,none⟩=some (.slice A2 x.f1.f2.length c2))
  (hu0:W0.cell? ⟨g,0,none⟩=some (.string n))(hu1:W0.cell? ⟨g,1,none⟩=some (.int .i64 o))(hu2:W0.cell? ⟨g,2,none⟩=some (.bool p))
  (a0:Act)(ha0:a0.eval (.tmp 0)= .slice (some ad) L c)(E:a0.eval (.tmp 9)= .int .i64 (j:Int))(F:a0.eval (.tmp 3)= .pointer (some ⟨g,0,none⟩)):
  aJ Tryz.prog (opsOf Tryz.f8 13) (QY ad L c j x A2 c2 n o p s ok) W0 a0 0 (opsOf Tryz.f8 13).toList:=by
 have hu25:=Tryz.underlying25;have hu31:=Tryz.underlying31;have hu33:=Tryz.underlying33;refine aJ.cons (λ a w' hS hr=>?_) ?_
 .have h0:=gw hr ha0
  exact dN
 refine aJ.cons (λ a w' hS hr=>?_) ?_
 .have h9:=gw hr E
  exact dN
 refine aJ.cons (λ a w' hS hr=>?_) ?_
 .have h37:=gQ hr 37 0
  have h38:=gQ hr 38 1
  (exact dN)
 refine aJ.cons (λ a w' hS hr=>?_) ?_
 .have h39:=gQ hr 39 2
  exact dN
 refine aJ.cons (λ a w' hS hr=>?_) ?_
 .have h40:=gQ hr 40 3
  (have hc0:=au hS hx1;have hc1:=au hS hx2;have hc2:=au hS hx3;exact dN)
 refine aJ.cons (λ a w' hS hr=>?_) ?_
 .have h3:=gw hr F
  (have hc0:=au hS hu0;have hc1:=au hS hu1;have hc2:=au hS hu2;exact dN)
 refine aJ.cons (λ a w' hS hr=>?_) ?_
 .have I:=gQ hr 41 4
  have J:=gQ hr 42 5;refine gU #[.agg #[.string x.f1.f0,.bool x.f1.f1,.slice A2 x.f1.f2.length c2],.agg #[.string n,.int .i64 o,.bool p]] (dL rfl) Tryz.func31 (by kernel_rfl) rfl rfl (by simp only[List.map_toArray,List.map_cons,List.map_nil,bT,I,J]) ?_;exact(dF.calls K x.f1.f0 x.f1.f1 A2 c2 x.f1.f2 n o p s ok _ (Kd.eH D.out hS) HL2.out z.out).mono λ e w2 h=>⟨_,h.1,rfl,h.2⟩
 refine aJ.cons (λ a w' hS hr=>?_) ?_
 .have h43:=gQ hr 43 6
  exact dN
 refine aJ.cons (λ a w' hS hr=>?_) ?_
 .have O:=gQ hr 36 7
  exact dN
 refine aJ.cons (λ a w' hS hr=>?_) ?_
 .have O:=gQ hr 36 7
  exact dN
 refine aJ.cons (λ a w' hS hr=>?_) ?_
 .have h44:=gQ hr 44 8
  exact dN
 refine aJ.cons (λ a w' hS hr=>?_) ?_
 .have h45:=gQ hr 45 9
  exact dN
 exact aJ.nil
theorem U_(t:ByteArray)(b:Bool)(l:List f_)(n:ByteArray)(o:Int)(p:Bool)(hl:l.length<4611686018427387904)(d:Nat):∀(k i:Nat),l.length-i=d->i≤l.length->d<k->
 dF.l0 k (i:Int) t b l n o p=some (match nD (l.drop i) n o p with|none=>(⟨#[]⟩,false)|some v=>(v,true)):=by
 induction d with
 |zero=>
  intro k i hd hi hk;obtain⟨k,rfl⟩:∃m,k=m+1:=⟨k-1,by omega⟩;simp only[dF.l0];rw[if_neg (by omega),List.drop_eq_nil_of_le (by omega)];rfl
 |succ d ih=>
  intro k i hd hi hk;obtain⟨k,rfl⟩:∃m,k=m+1:=⟨k-1,by omega⟩;have hih:=ih k (i+1) (by omega) (by omega) (by omega);simp only[dF.l0];rw[if_pos (by omega),if_pos (by omega),xw (by omega:i<l.length),List.drop_eq_getElem_cons (by omega:i<l.length),nD,eG (by omega) (by omega)];have e:(i:Int)+1=((i+1:Nat):Int):=by omega
  rw[e,hih];split<;>rfl
theorem S_(t:ByteArray)(b:Bool)(l:List f_)(n:ByteArray)(o:Int)(p:Bool)(hl:l.length<4611686018427387904):
 dF.f (l.length+1) t b l n o p=some (match nD l n o p with|none=>(⟨#[]⟩,false)|some v=>(v,true)):=by
 have:=U_ t b l n o p hl l.length (l.length+1) 0 (by omega) (by omega) (by omega);rw[List.drop_zero]at this;unfold dF.f;exact this
theorem Oi{l:List nP}{j:Nat}(hlt:j<l.length)(h:kK (l.drop j)=kK l):(jP l[j].f1.f0 l[j].f1.f2=0->kK (l.drop (j+1))=kK l)∧(jP l[j].f1.f0 l[j].f1.f2≠0->kK l=jP l[j].f1.f0 l[j].f1.f2):=by
 rw[List.drop_eq_getElem_cons hlt,kK]at h;exact⟨λ e=>by rwa[if_pos e]at h,λ e=>by rw[if_neg e]at h;exact h.symm⟩
def YD(r:List ByteArray×Int)(w:World)(e:Ending)(w':World):Prop:=∃v:Value,e= .returned (.tuple #[v,.int .i64 r.2])∧Kd.V Kd.string 9 w' w.heap.size (λ k=>w.heap.size≤k) v r.1∧Below w.heap.size w w'
set_option maxHeartbeats 40000000 in
set_option maxRecDepth 100000 in
theorem LW(l:List nP)(A:Option Addr)(c:Nat)(n:ByteArray)(o:Int)(p:Bool)(w:World)(hC:Kd.C sU w A l.length l)(hc:l.length≤c)(hz:∀x∈l,BP x.f1.f0 x.f1.f2)(hbl:∀x∈l,x.f1.f2.length<1100000)(h60:l.length≤60):
 Calls Tryz.prog 8 #[.slice A l.length c,.agg #[.string n,.int .i64 o,.bool p]] w λ e w'=>YD (iB l n o p) w e w':=by
 have hu25:=Tryz.underlying25;have hu33:=Tryz.underlying33;have hu31:=Tryz.underlying31;have HC:=ah.mk hC;have ax:=Lib.hid hz;have aq:=Lib.hid hbl;clear hC hz hbl;go_enter Tryz.func8,Tryz.ntmps8
 go_wp2_with (first|((with_reducible refine gd 3 rfl ?_);refine bx #[.string n,.int .i64 o,.bool p] 25 ?_;intro g hg w1 z hb;have HB:=ah.mk hb;clear hb hg))
 go_loopw [6] (λ i wr=>∃j:Nat,j≤l.length∧i= .int .i64 j∧ah (kK (l.drop j)=kK l)∧ah (Below w.heap.size w wr)∧ah (wr.heap[g]? =some (.cells #[.string n,.int .i64 o,.bool p] 25 (0,0)))) (λ i _=>l.length-(RowKit.intOf i).toNat)
 case atStart=>exact⟨0,Nat.zero_le _,rfl,⟨rfl⟩,HB,z⟩
 case round=>
  clear HB z;obtain⟨j,hj,rfl,HE,HB,z⟩:=hrel;by_cases hlt:j<l.length
  .obtain⟨ad,A2,c2,hA,hx0,hx1,hx2,hx3,hl2,hC2⟩:=Fv HC.out j (Int.natCast_nonneg j) (by omega)
   rw[Int.toNat_natCast]at hx0 hx1 hx2 hx3;subst hA;replace hx1:=au HB.out hx1;replace hx2:=au HB.out hx2;replace hx3:=au HB.out hx3;replace hC2:=Kd.eH hC2 HB.out;obtain⟨x,hx⟩:∃x,nE l (j:Int)=x:=⟨_,rfl⟩;rw[hx]at hx1 hx2 hx3 hl2 hC2;have hxl:l[j]=x:=by rw[<-tV hlt,hx]
   have hs:=Oi hlt HE.out;rw[hxl]at hs;have HS:=Lib.hid hs;have U:=Lib.hid (show BP x.f1.f0 x.f1.f2 by have:=ax.out l[j] (List.getElem_mem _);rw[hxl]at this;exact this);have E:=ah.mk hC2;have HL2:=Lib.hid hl2;clear hC2 hl2 hx hxl hs hx0;obtain⟨r,hr⟩:∃r,jP x.f1.f0 x.f1.f2=r:=⟨_,rfl⟩;have HR:=Lib.hid hr;clear hr;have c1:decide (j<l.length)=true:=decide_eq_true hlt;by_cases hr0:r=0
   .subst hr0
    go_wp2_with (go_at_call 29;refine(zD _ _ _ _ _ _ E.out HL2.out U.out).mono ?_;rintro e w5 ⟨rfl,hb⟩;rw[HR.out];replace HB:=kh hb;replace z:=kb z hb;clear hb hx1 hx2 hx3)
    go_roundw
    case rel=>exact⟨j+1,by omega,by go_num,⟨HS.out.1 HR.out⟩,HB,z⟩
    case measure=>simp[RowKit.intOf];omega
   .have hne:(r !=0)=true:=by simpa using hr0
    have D:=Lib.hid (show iB l n o p=([],r) by unfold iB;have e:=HS.out.2 (by rw[HR.out];exact hr0);rw[HR.out]at e;rw[if_neg (by rw[e];exact hr0),e])
    go_wp2_with (go_at_call 29;refine(zD _ _ _ _ _ _ E.out HL2.out U.out).mono ?_;rintro e w5 ⟨rfl,hb⟩;rw[HR.out];replace HB:=kh hb;clear hb hx1 hx2 hx3)
    go_ret2;exact⟨.slice none 0 0,by rw[D.out];rfl,by rw[D.out];exact Kd.lu _ _ _ _ _,HB.out⟩
  .obtain rfl:j=l.length:=by omega
   have c1:decide (l.length<l.length)=false:=decide_eq_false (by omega);have L:=Lib.hid (show kK l=0 by rw[<-HE.out,List.drop_eq_nil_of_le (Nat.le_refl _)];rfl);have hu0:=(aj z.out 0).trans rfl;have hu1:=(aj z.out 1).trans rfl;have hu2:=(aj z.out 2).trans rfl;obtain⟨q,hq⟩:∃q,ny n o p=q:=⟨_,rfl⟩;have HQ:=Lib.hid hq;clear hq;cases q with
   |false=>
    have D:=Lib.hid (show iB l n o p=([],1) by unfold iB;rw[if_pos L.out,if_neg (by rw[HQ.out];simp)])
    go_wp2_with (go_at_call 30;refine(BI _ _ _ _).mono ?_;rintro e w5 ⟨rfl,hb⟩;rw[HQ.out];have HB2:=kh hb;clear hb hu0 hu1 hu2)
    go_ret2;exact⟨.slice none 0 0,by rw[D.out];rfl,by rw[D.out];exact Kd.lu _ _ _ _ _,HB2.out⟩
   |true=>
    go_wp2_with (go_at_call 30;refine(BI _ _ _ _).mono ?_;rintro e O ⟨rfl,hb⟩;rw[HQ.out];have HB2:=kh hb;have T:=kb z hb;clear hb hu0 hu1 hu2 HB z)
    clear c1;go_loopw [8,9] (λ v i wr=>∃(j:Nat)(out:List ByteArray),j≤l.length∧i= .int .i64 j∧ah (out.length=j∧l8 l n o p=(l8 (l.drop j) n o p).map (out++·))∧ah (Below O.heap.size O wr)∧ah (Kd.string.R 9 wr O.heap.size (λ _=>True) v out)) (λ _ i _=>l.length-(RowKit.intOf i).toNat)
    case atStart=>exact⟨0,[],Nat.zero_le _,rfl,⟨rfl,by simp⟩,⟨Below.refl _ _⟩,⟨Kd.mZ _ _ _ _ _⟩⟩
    case round=>
     clear hj;obtain⟨j,out,hj,rfl,HA,HB,ap⟩:=hrel;by_cases hlt:j<l.length
     .obtain⟨ad,A2,c2,hA,hx0,hx1,hx2,hx3,hl2,hC2⟩:=Fv HC.out j (Int.natCast_nonneg j) (by omega)
      rw[Int.toNat_natCast]at hx0 hx1 hx2 hx3;subst hA;have I:=ah.mk (aU HB2.out HB.out);replace hx1:=au (b_ I.out) hx1;replace hx2:=au (b_ I.out) hx2;replace hx3:=au (b_ I.out) hx3;replace hC2:=Kd.eH hC2 (b_ I.out);obtain⟨x,hx⟩:∃x,nE l (j:Int)=x:=⟨_,rfl⟩;rw[hx]at hx1 hx2 hx3 hl2 hC2;have hxl:l[j]=x:=by rw[<-tV hlt,hx]
      have X:=Lib.hid hxl;have hlen:x.f1.f2.length<4611686018427387904:=by have:=aq.out l[j] (List.getElem_mem _);rw[hxl]at this;omega
      have hbd:=S_ x.f1.f0 x.f1.f1 x.f1.f2 n o p hlen;obtain⟨s,ok,hso⟩:∃s ok,(match nD x.f1.f2 n o p with|none=>((⟨#[]⟩:ByteArray),false)|some v=>(v,true))=(s,ok):=⟨_,_,rfl⟩;rw[hso]at hbd;have Y:=Lib.hid hso;have ar:=Lib.hid hbd;have E:=ah.mk hC2;have HL2:=Lib.hid hl2;clear hC2 hl2 hx hxl hx0 hlen hbd hso;have c1:decide (j<l.length)=true:=decide_eq_true hlt;have hu0:wr.drew.cell? ⟨g,0,none⟩=some (.string n):=(aj (bY T.out (b_ HB.out)) 0).trans rfl;have hu1:wr.drew.cell? ⟨g,1,none⟩=some (.int .i64 o):=(aj (bY T.out (b_ HB.out)) 1).trans rfl;have hu2:wr.drew.cell? ⟨g,2,none⟩=some (.bool p):=(aj (bY T.out (b_ HB.out)) 2).trans rfl;go_wp2;refine iW (F:=QY ad l.length c j x A2 c2 n o p s ok) (by kernel_rfl) (by kernel_rfl) (λ w w' j u _ h=>h) (XF ad l.length c j g x A2 c2 n o p s ok (x.f1.f2.length+1) ar (eq_true (by omega)) (eq_true (by omega)) _ E HL2 hx1 hx2 hx3 hu0 hu1 hu2 _ rfl rfl rfl) ?_;clear hx1 hx2 hx3 hu0 hu1 hu2 c1;intro a w' hF ha hb;have Z:_=_:=hF 0 _ 37 rfl rfl;have aa:_=_:=hF 1 _ 38 rfl rfl;have ab:_=_:=hF 2 _ 39 rfl rfl;have ac:_=_:=hF 3 _ 40 rfl rfl;have ae:_=_:=hF 4 _ 41 rfl rfl;have af:_=_:=hF 5 _ 42 rfl rfl;have ag:_=_:=hF 6 _ 43 rfl rfl;have al:_=_:=hF 7 _ 36 rfl rfl;have am:_=_:=hF 8 _ 44 rfl rfl;have an:_=_:=hF 9 _ 45 rfl rfl;have k10:_=_:=hF 10 _ 10 rfl rfl;have k11:_=_:=hF 11 _ 11 rfl rfl;simp only[eU,List.foldl_cons,List.foldl_nil,Z,aa,ab,ac,ae,af,ag,al,am,an,k10,k11]at ha;clear hF Z aa ab ac ae af ag al am an k10 k11;subst ha;simp only[Act.put,List.setIfInBounds_toArray,List.set_cons_zero,List.set_cons_succ];have J:=ah.mk (aU (b_ HB.out) hb);have ao:=ah.mk (Kd.pX ap.out (uJ (b_ (Below.refl _ _)) hb));clear hb HB ap I E;cases ok with
      |false=>
       have D:=Lib.hid (show iB l n o p=([],5) by
        have hb0:nD x.f1.f2 n o p=none:=by
         have:=Y.out;split at this
         .assumption
         .cases this
        have e:l8 l n o p=none:=by rw[HA.out.2,List.drop_eq_getElem_cons hlt,l8,X.out,hb0];rfl
        unfold iB;rw[if_pos L.out,if_pos HQ.out,e])
       go_wp2;go_ret2;exact⟨.slice none 0 0,by rw[D.out];rfl,by rw[D.out];exact Kd.lu _ _ _ _ _,aU HB2.out J.out⟩
      |true=>
       obtain⟨t,ht⟩:∃t,s=t:=⟨_,rfl⟩;subst ht;have HB0:=Lib.hid (show nD x.f1.f2 n o p=some s by
        have:=Y.out;split at this
        .cases this
        .rename_i v hv;rw[hv];injection this with this;rw[this])
       go_wp2_with (first|((with_reducible refine eX (b:= .append) (xs:= #[.tmp 48,.tmp 50]) rfl ?_);at_builtin;refine Kd.jl Kd.string (w0:=O) O.heap.size rfl (.tmp 48) (.tmp 50) 37 9 (.string ⟨#[]⟩) 16 rfl Tryz.underlying37 TQ rfl (by decide) (by omega) u8 out s [.string s] (λ _=>True) (λ _=>False) rfl rfl ?ay (λ _ hk=>hk.elim) ?az ?aB ?aD ?aE ?aF ?_;(case ay=>exact rfl);(case aD=>exact J.out);(case az=>exact(λ _ _=>trivial));(case aB=>exact ao.out);(case aE=>exact J.out.size);(case aF=>have:=HA.out.1;omega);intro v1 w6 ho hb hg hat;have av:=ah.mk ho;have aw:=ah.mk hb;clear ho hb hg hat ao J))
       go_roundw
       case rel=>exact⟨j+1,out++[s],by omega,by go_num,⟨by have:=HA.out.1;simp[this],by rw[HA.out.2,List.drop_eq_getElem_cons hlt,l8,X.out,HB0.out];cases l8 (l.drop (j+1)) n o p<;>simp⟩,aw,av⟩
       case measure=>simp[RowKit.intOf];omega
     .obtain rfl:j=l.length:=by omega
      have D:=Lib.hid (show iB l n o p=(out,0) by unfold iB;rw[if_pos L.out,if_pos HQ.out,HA.out.2,List.drop_eq_nil_of_le (Nat.le_refl _)];simp[l8]);have c1:decide (l.length<l.length)=false:=decide_eq_false (by omega);go_wp2;go_ret2;exact⟨u8,by rw[D.out];rfl,by rw[D.out];exact Kd.kC (Kd.gY (Kd.jV ap.out) (λ k hk=>by have:=hk.2.1;have:=HB2.out.size;omega)),aU HB2.out HB.out⟩
theorem GV(n:ByteArray)(o:Int)(p:Bool)(W:World):Calls Tryz.prog 27 #[.agg #[.string n,.int .i64 o,.bool p]] W (pE (.bool (ny n o p)) W):=uj.calls n o p _ W (WW n o p)
def MP(g8 gb:Nat)(x y:f_)(ad:Addr)(n c j:Nat)(r:Int)(v fb z d:Bool):Nat->Value->World->Prop:=λ i s _=>([
λ u=>u= .bool v,
 λ u=>u= .bool (!v),
 λ u=>u= .bool (!v),
 λ u=>u=cond (v) (.pointer (some ⟨g8,0,none⟩)) undef,
 λ u=>u=cond (v) (.agg #[.string x.f0.f0,.int .i64 x.f0.f1,.bool x.f0.f2]) undef,
 λ u=>u=cond (v) (.bool fb) undef,
 λ u=>u=cond (v) (.bool (!fb)) undef,
 λ u=>u= .bool (!v|| !fb),
 λ u=>u= .bool (!v|| !fb),
 λ u=>u=cond (!(!v|| !fb)) (.int .i64 j) undef,
 λ u=>u=cond (!(!v|| !fb)) (.bool z) undef,
 λ u=>u=cond (!(!v|| !fb)) (.bool z) undef,
 λ u=>u=cond (!(!v|| !fb)&&z) (.pointer (some ⟨gb,2,none⟩)) undef,
 λ u=>u=cond (!(!v|| !fb)&&z) (.slice (some ad) n c) undef,
 λ u=>u=cond (!(!v|| !fb)&&z) (.int .i64 j) undef,
 λ u=>u=cond (!(!v|| !fb)&&z) (.int .i64 ((j-1:Nat):Int)) undef,
 λ u=>u=cond (!(!v|| !fb)&&z) (.pointer (some (ad.add ((j-1)*4)))) undef,
 λ u=>u=cond (!(!v|| !fb)&&z) (.pointer (some (ad.add ((j-1)*4)))) undef,
 λ u=>u=cond (!(!v|| !fb)&&z) (.agg #[.string y.f0.f0,.int .i64 y.f0.f1,.bool y.f0.f2]) undef,
 λ u=>u=cond (!(!v|| !fb)&&z) (.pointer (some ⟨g8,0,none⟩)) undef,
 λ u=>u=cond (!(!v|| !fb)&&z) (.agg #[.string x.f0.f0,.int .i64 x.f0.f1,.bool x.f0.f2]) undef,
 λ u=>u=cond (!(!v|| !fb)&&z) (.int .i64 r) undef,
 λ u=>u=cond (!(!v|| !fb)&&z) (.bool d) undef,
 λ u=>u=cond (!(!v|| !fb)) (.bool (z&&d)) undef,
 λ u=>u= .bool ((!v|| !fb)||(z&&d))]:List (Value->Prop)).getD i (λ _=>True) s
set_option maxHeartbeats 20000000 in
set_option maxRecDepth 100000 in
theorem UK(g8 gb:Nat)(x y:f_)(ad:Addr)(n c j:Nat)(r:Int)(v fb z d:Bool)(HU:Hid (ny x.f0.f0 x.f0.f1 x.f0.f2=fb))(hz:decide (0<j)=z)(hd:decide (0≤r)=d)(hsub:z=true->IntKind.i64.wrap ((j:Int)-1)=((j-1:Nat):Int))(hin:z=true->j-1<n)
  (HL:Hid (v=true->fb=true->z=true->gZ.f 10 y.f0.f0 y.f0.f1 y.f0.f2 x.f0.f0 x.f0.f1 x.f0.f2=some r))
  (W0:World)(hx0:W0.cell? ⟨g8,0,none⟩=some (.string x.f0.f0))(hx1:W0.cell? ⟨g8,1,none⟩=some (.int .i64 x.f0.f1))(hx2:W0.cell? ⟨g8,2,none⟩=some (.bool x.f0.f2))(hsl:W0.cell? ⟨gb,2,none⟩=some (.slice (some ad) n c))
  (hpr:z=true->W0.cell? (ad.add ((j-1)*4))=some (.string y.f0.f0)∧W0.cell? ⟨(ad.add ((j-1)*4)).block,(ad.add ((j-1)*4)).off+1,none⟩=some (.int .i64 y.f0.f1)∧W0.cell? ⟨(ad.add ((j-1)*4)).block,(ad.add ((j-1)*4)).off+2,none⟩=some (.bool y.f0.f2))
  (a0:Act)(ha1:a0.eval (.tmp 1)= .pointer (some ⟨gb,0,none⟩))(E:a0.eval (.tmp 7)= .int .i64 j)(F:a0.eval (.tmp 8)= .pointer (some ⟨g8,0,none⟩))(I:a0.eval (.tmp 10)= .bool v):
  aJ Tryz.prog (opsOf Tryz.f67 10) (MP g8 gb x y ad n c j r v fb z d) W0 a0 0 (opsOf Tryz.f67 10).toList:=by
 have hu25:=Tryz.underlying25;have hu56:=Tryz.underlying56;have hu31:=Tryz.underlying31;refine aJ.cons (λ a w' hS hr=>?_) ?_
 .cases v<;>(have h10:=gw hr I;exact dN)
 refine aJ.cons (λ a w' hS hr=>?_) ?_
 .cases v<;>(have h42:=gQ hr 42 0;exact dN)
 refine aJ.cons (λ a w' hS hr=>?_) ?_
 .cases v<;>(have h43:=gQ hr 43 1;exact dN)
 refine aJ.cons (λ a w' hS hr=>?_) ?_
 .cases v<;>(have D:=gQ hr 44 2;have h8:=gw hr F;exact sx D)
 refine aJ.cons (λ a w' hS hr=>?_) ?_
 .cases v<;>(have D:=gQ hr 44 2;have h45:=gQ hr 45 3;(first|exact jD D|exact jE D|((have hc0:=au hS hx0;have hc1:=au hS hx1;have hc2:=au hS hx2;exact nO D))))
 refine aJ.cons (λ a w' hS hr=>?_) ?_
 .cases v<;>cases fb<;>(have D:=gQ hr 44 2;have h46:=gQ hr 46 4;(first|exact jD D|exact jE D|(refine gU #[.agg #[.string x.f0.f0,.int .i64 x.f0.f1,.bool x.f0.f2]] ((eO rfl rfl rfl D).trans rfl) Tryz.func27 (by kernel_rfl) rfl rfl (by simp only[List.map_toArray,List.map_cons,List.map_nil,bT,D,h46,cond_true,cond_false,Bool.not_true,Bool.not_false,Bool.and_true,Bool.and_false,Bool.true_and,Bool.false_and,Bool.or_true,Bool.or_false,Bool.true_or,Bool.false_or]) ?_;exact(GV _ _ _ _).mono λ e w2 h=>⟨_,h.1,congrArg Value.bool HU.out,h.2⟩)))
 refine aJ.cons (λ a w' hS hr=>?_) ?_
 .cases v<;>cases fb<;>(have D:=gQ hr 44 2;have h47:=gQ hr 47 5;exact sx D)
 refine aJ.cons (λ a w' hS hr=>?_) ?_
 .cases v<;>cases fb<;>(have D:=gQ hr 44 2;have h48:=gQ hr 48 6;exact dN)
 refine aJ.cons (λ a w' hS hr=>?_) ?_
 .cases v<;>cases fb<;>(have h49:=gQ hr 49 7;exact dN)
 refine aJ.cons (λ a w' hS hr=>?_) ?_
 .cases v<;>cases fb<;>(have h50:=gQ hr 50 8;have h7:=gw hr E;exact sx h50)
 refine aJ.cons (λ a w' hS hr=>?_) ?_
 .cases v<;>cases fb<;>cases z<;>(have h50:=gQ hr 50 8;have h51:=gQ hr 51 9;(first|exact jD h50|exact jE h50|((exact nO h50))))
 refine aJ.cons (λ a w' hS hr=>?_) ?_
 .cases v<;>cases fb<;>cases z<;>(have h50:=gQ hr 50 8;have h52:=gQ hr 52 10;exact sx h50)
 refine aJ.cons (λ a w' hS hr=>?_) ?_
 .cases v<;>cases fb<;>cases z<;>(have s:=gQ hr 53 11;have h1:=gw hr ha1;exact sx s)
 refine aJ.cons (λ a w' hS hr=>?_) ?_
 .cases v<;>cases fb<;>cases z<;>(have s:=gQ hr 53 11;have h54:=gQ hr 54 12;(first|exact jD s|exact jE s|(have hc:=au hS hsl;exact nO s)))
 refine aJ.cons (λ a w' hS hr=>?_) ?_
 .cases v<;>cases fb<;>cases z<;>(have s:=gQ hr 53 11;have h7:=gw hr E;exact sx s)
 refine aJ.cons (λ a w' hS hr=>?_) ?_
 .cases v<;>cases fb<;>cases z<;>(have s:=gQ hr 53 11;have h56:=gQ hr 56 14;(first|exact jD s|exact jE s|((have hs:=hsub rfl;exact nO s<;>simpa using hs))))
 refine aJ.cons (λ a w' hS hr=>?_) ?_
 .cases v<;>cases fb<;>cases z<;>(have s:=gQ hr 53 11;have h55:=gQ hr 55 13;have h57:=gQ hr 57 15;(first|exact jD s|exact jE s|((have hi:=hin rfl;have p1:((0:Int)≤((j-1:Nat):Int))=True:=eq_true (by omega);have q1:(((j-1:Nat):Int)<(n:Int))=True:=eq_true (by omega);exact nO s))))
 refine aJ.cons (λ a w' hS hr=>?_) ?_
 .cases v<;>cases fb<;>cases z<;>(have s:=gQ hr 53 11;have h58:=gQ hr 58 16;exact sx s)
 refine aJ.cons (λ a w' hS hr=>?_) ?_
 .cases v<;>cases fb<;>cases z<;>(have s:=gQ hr 53 11;have h59:=gQ hr 59 17;(first|exact jD s|exact jE s|((have hp:=hpr rfl;have hc0:=au hS hp.1;have hc1:=au hS hp.2.1;have hc2:=au hS hp.2.2;clear hp;exact nO s))))
 refine aJ.cons (λ a w' hS hr=>?_) ?_
 .cases v<;>cases fb<;>cases z<;>(have s:=gQ hr 53 11;have h8:=gw hr F;exact sx s)
 refine aJ.cons (λ a w' hS hr=>?_) ?_
 .cases v<;>cases fb<;>cases z<;>(have s:=gQ hr 53 11;have h61:=gQ hr 61 19;(first|exact jD s|exact jE s|((have hc0:=au hS hx0;have hc1:=au hS hx1;have hc2:=au hS hx2;exact nO s))))
 refine aJ.cons (λ a w' hS hr=>?_) ?_
 .cases v<;>cases fb<;>cases z<;>(have s:=gQ hr 53 11;have J:=gQ hr 60 18;have L:=gQ hr 62 20;(first|exact jD s|exact jE s|(refine gU #[.agg #[.string y.f0.f0,.int .i64 y.f0.f1,.bool y.f0.f2],.agg #[.string x.f0.f0,.int .i64 x.f0.f1,.bool x.f0.f2]] ((eO rfl rfl rfl s).trans rfl) Tryz.func140 (by kernel_rfl) rfl rfl (by simp only[List.map_toArray,List.map_cons,List.map_nil,bT,s,J,L,cond_true,cond_false,Bool.not_true,Bool.not_false,Bool.and_true,Bool.and_false,Bool.true_and,Bool.false_and,Bool.or_true,Bool.or_false,Bool.true_or,Bool.false_or]) ?_;exact(gZ.calls 10 _ _ _ _ _ _ r _ (HL.out rfl rfl rfl)).mono λ e w2 h=>⟨_,h.1,rfl,h.2⟩)))
 refine aJ.cons (λ a w' hS hr=>?_) ?_
 .cases v<;>cases fb<;>cases z<;>cases d<;>(have s:=gQ hr 53 11;have h63:=gQ hr 63 21;exact sx s)
 refine aJ.cons (λ a w' hS hr=>?_) ?_
 .cases v<;>cases fb<;>cases z<;>cases d<;>(have h50:=gQ hr 50 8;have s:=gQ hr 53 11;have h64:=gQ hr 64 22;exact sx h50)
 refine aJ.cons (λ a w' hS hr=>?_) ?_
 .cases v<;>cases fb<;>cases z<;>cases d<;>(have h50:=gQ hr 50 8;have h65:=gQ hr 65 23;exact dN)
 exact aJ.nil
end Go.Proofs.Ct.Q
