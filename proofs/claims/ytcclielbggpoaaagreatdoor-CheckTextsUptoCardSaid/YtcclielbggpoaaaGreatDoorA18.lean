/- Part of the proof of CheckTexts (see the last text). -/
import Derived.Test.YtcclielbggpoaaaGreatDoorA17
set_option linter.all false
namespace Go.Proofs.Ct.Q
open Go.Proofs.g_ Go.RowKit Go.Proofs.aA.ak Go.Proofs.aA.aC Go.Proofs.aA.aG Go.Proofs.bO
attribute [local go_sem] aW aX bA bB
def MQ(g8 g9 gE M:Nat)(x:f_)(v0 v1 v2 v3 v4 v5:Value):Nat->Value->World->Prop:=λ i s _=>([
λ u=>u= .pointer (some ⟨gE,0,none⟩),
 λ u=>u= .pointer (some ⟨gE,0,none⟩),
 λ u=>u= .pointer (some ⟨gE,5,none⟩),
 λ u=>u= .map (some M),
 λ u=>u= .pointer (some ⟨g8,0,none⟩),
 λ u=>u= .agg #[.string x.f0.f0,.int .i64 x.f0.f1,.bool x.f0.f2],
 λ u=>u= .agg #[v0,v1,v2,v3,v4,v5],
 λ _=>True]:List (Value->Prop)).getD i (λ _=>True) s
set_option maxHeartbeats 20000000 in
set_option maxRecDepth 100000 in
theorem UL(g8 g9 gE M:Nat)(x:f_)(v0 v1 v2 v3 v4 v5:Value)(W0:World)(hx0:W0.cell? ⟨g8,0,none⟩=some (.string x.f0.f0))(hx1:W0.cell? ⟨g8,1,none⟩=some (.int .i64 x.f0.f1))(hx2:W0.cell? ⟨g8,2,none⟩=some (.bool x.f0.f2))
  (hv0:W0.cell? ⟨g9,0,none⟩=some v0)(hv1:W0.cell? ⟨g9,1,none⟩=some v1)(hv2:W0.cell? ⟨g9,2,none⟩=some v2)(hv3:W0.cell? ⟨g9,3,none⟩=some v3)(hv4:W0.cell? ⟨g9,4,none⟩=some v4)(hv5:W0.cell? ⟨g9,5,none⟩=some v5)(hm:W0.cell? ⟨gE,5,none⟩=some (.map (some M)))
  (a0:Act)(s:a0.eval (.tmp 4)= .pointer (some ⟨gE,0,none⟩))(z:a0.eval (.tmp 8)= .pointer (some ⟨g8,0,none⟩))(D:a0.eval (.tmp 9)= .pointer (some ⟨g9,0,none⟩)):
  aJ Tryz.prog (opsOf Tryz.f67 12) (MQ g8 g9 gE M x v0 v1 v2 v3 v4 v5) W0 a0 0 ((opsOf Tryz.f67 12).toList.take 7):=by
 have hu25:=Tryz.underlying25;have hu56:=Tryz.underlying56;have hu68:=Tryz.underlying68;have hu87:=Tryz.underlying87;refine aJ.cons (λ a w' hS hr=>?_) ?_
 .have h4:=gw hr s
  exact dN
 refine aJ.cons (λ a w' hS hr=>?_) ?_
 .have h67:=gQ hr 67 0
  exact dN
 refine aJ.cons (λ a w' hS hr=>?_) ?_
 .have h68:=gQ hr 68 1
  exact dN
 refine aJ.cons (λ a w' hS hr=>?_) ?_
 .have h69:=gQ hr 69 2
  have hc:=au hS hm;exact dN
 refine aJ.cons (λ a w' hS hr=>?_) ?_
 .have h8:=gw hr z
  exact dN
 refine aJ.cons (λ a w' hS hr=>?_) ?_
 .have h71:=gQ hr 71 4
  (have hc0:=au hS hx0;have hc1:=au hS hx1;have hc2:=au hS hx2;exact dN)
 refine aJ.cons (λ a w' hS hr=>?_) ?_
 .have h9:=gw hr D
  (have hc0:=au hS hv0;have hc1:=au hS hv1;have hc2:=au hS hv2;have hc3:=au hS hv3;have hc4:=au hS hv4;have hc5:=au hS hv5;exact dN)
 exact aJ.nil
end Go.Proofs.Ct.Q
namespace Go.Proofs.Ct.Q
open Go.Shelf Go.RowKit Go.Proofs.aA.ak Go.Proofs.aA.aC Go.Proofs.aA.aG Go.Proofs.bO
theorem MG:(Tryz.prog.info? 60).map (·.size)=some 2:=by kernel_rfl
set_option maxHeartbeats 1000000 in
set_option maxRecDepth 100000 in
theorem PD(b:Nat)(w:World)(h0:w.cell? ⟨b,0,none⟩=some (.pointer none))(hsh:w.shape? b=some (60,2))(hfz:w.frozen? ⟨b,0,none⟩=false):
  Calls Tryz.prog 60 #[.pointer (some ⟨b,0,none⟩)] w λ e w'=>e= .returned (.tuple #[])∧w'=w.setCell ⟨b,0,none⟩ (.pointer (some ⟨b,0,none⟩)):=by
 obtain⟨j,hj,hjs⟩:=Option.map_eq_some_iff.1 MG;go_enter Tryz.func60,Tryz.ntmps60;go_wp2;rw[Lib.run_to_unsafe w ⟨b,0,none⟩ Tryz.underlying57 Tryz.underlying244 hj (by rw[hjs];decide) hsh (Nat.zero_lt_succ 1)];simp only[Result.andThen];rw[Oper.upon_value];go_wp2;rw[run_callFunc_extern Tryz.func134 (by kernel_rfl) (by kernel_rfl) (by kernel_rfl) (e:=Extern.AbiNoEscape.same) (by kernel_rfl)];rw[Lib.run_noEscape];simp only[Result.andThen];rw[Oper.upon_value];go_wp2;rw[Lib.run_from_unsafe w ⟨b,0,none⟩ Tryz.underlying244 Tryz.underlying57 hj hsh (by kernel_rfl)];simp only[Result.andThen];rw[Oper.upon_value];go_wp2;go_end0;exact⟨rfl,rfl⟩
set_option maxHeartbeats 1000000 in
set_option maxRecDepth 100000 in
theorem RF(b:Nat)(w:World)(h0:w.cell? ⟨b,0,none⟩=some (.pointer (some ⟨b,0,none⟩))):
  Calls Tryz.prog 60 #[.pointer (some ⟨b,0,none⟩)] w λ e w'=>e= .returned (.tuple #[])∧w'=w:=by
 obtain⟨j,hj,_⟩:=Option.map_eq_some_iff.1 MG;go_enter Tryz.func60,Tryz.ntmps60;go_wp2;rw[Lib.run_neq_ptr_same w _ Tryz.underlying57 hj];go_wp2;go_end0;exact⟨rfl,rfl⟩
theorem PE(B b:Nat)(bs:List Value)(w:World)(h:Lib.IsBuilderF 60 5 B b bs w):
  Calls Tryz.prog 60 #[.pointer (some ⟨b,0,none⟩)] w λ e w'=>e= .returned (.tuple #[])∧(Lib.BuilderAtF 60 5 B b (.pointer (some ⟨b,0,none⟩)) bs w'∧Below B w w'):=by
 rcases h with h|h
 .refine(PD b w h.cell0 h.shape h.frozen0).mono ?_
  rintro e w' ⟨rfl,rfl⟩;exact⟨rfl,h.used _,(Below.refl B w).setCell (p:=⟨b,0,none⟩) h.1 _⟩
 .refine(RF b w h.cell0).mono ?_
  rintro e w' ⟨rfl,rfl⟩;exact⟨rfl,h,Below.refl B _⟩
set_option maxHeartbeats 2000000 in
set_option maxRecDepth 100000 in
theorem PG(B b:Nat)(bs:List Value)(s:ByteArray)(w:World)(h:Lib.IsBuilderF 60 5 B b bs w)(hlen:bs.length+s.size≤140737488355328)(hBw:B≤w.heap.size):
  Calls Tryz.prog 18 #[.pointer (some ⟨b,0,none⟩),.string s] w λ e w'=>e= .returned (.tuple #[.int .i64 s.size,.nilIface])∧(Lib.BuilderAtF 60 5 B b (.pointer (some ⟨b,0,none⟩)) (bs++Lib.strCells s) w'∧Below B w w'):=by
 obtain⟨i0,hi,hz0,hz1,hz2⟩:=info_parts info5;go_enter Tryz.func18,Tryz.ntmps18
 go_wp2_with (go_at_call 60;refine(PE B b bs _ h).mono ?_)
 rintro e w1 ⟨rfl,h1,hb1⟩;obtain⟨hB,v,hbk,hown,hne⟩:=h1;have c0:w1.cell? ⟨b,0,none⟩=some (.pointer (some ⟨b,0,none⟩)):=by rw[Lib.cell_of_heap hbk];rfl
 have c1:w1.cell? ⟨b,1,none⟩=some v:=by rw[Lib.cell_of_heap hbk];rfl
 go_wp2_with (at_builtin;refine Lib.wpList_append_own_stringF _ rfl _ _ 58 9 rfl B 5 i0 Tryz.underlying58 Tryz.underlying9 hi hz0 hz1 hz2 _ _ _ rfl hown s rfl ?c3 ?c4 ?c5 ?_)
 case c3=>unfold maxLen;omega
 case c4=>omega
 case c5=>have:=hb1.size;omega
 intro v' w2 hown' hgrow _;have hlt:b<w1.heap.size:=by
  rcases Nat.lt_or_ge b w1.heap.size with h'|h'
  .exact h'
  .simp[Array.getElem?_eq_none h']at hbk
 have hb2:w2.heap[b]? =some (.cells #[.pointer (some ⟨b,0,none⟩),v] 60 (0,0)):=by
  rw[hgrow.block b hlt (λ e=>hne e.symm)];exact hbk
 have d0:w2.cell? ⟨b,0,none⟩=some (.pointer (some ⟨b,0,none⟩)):=by rw[Lib.cell_of_heap hb2];rfl
 have d1:w2.cell? ⟨b,1,none⟩=some v:=by rw[Lib.cell_of_heap hb2];rfl
 have f1:w2.frozen? ⟨b,1,none⟩=false:=Lib.frozen_of_heap hb2 1;obtain⟨ao,n',cap,rfl⟩:∃ao n' cap,v'= .slice ao n' cap:=by
  rcases hown'.2 with⟨hv,_⟩|⟨g,cap,cur,fz,hv,_⟩
  .exact⟨_,_,_,hv⟩
  .exact⟨_,_,_,hv⟩
 go_wp2;go_ret2;refine⟨rfl,?_,?_⟩
 .exact Lib.BuilderAtF.put (T:=60) (e:=5) hB hb2 (bs':=bs++Lib.strCells s) (by simpa[Lib.strCells_length]using hown') (by decide)
 .exact(hb1.grown hgrow (by have:=hb1.size;omega) (λ k hk=>(hown.lt k hk).1)).setCell (p:=⟨b,1,none⟩) hB _
def sK(w:World):Prop:=Lib.TabIs Tryz.prog w "internal/strconv.uint64pow10" .u64 Lib.pow10Tab
theorem sK.below{w w':World}(h:sK w)(hb:Below w.heap.size w w'):sK w':=by
 unfold sK Lib.TabIs World.var? at h|-
 cases hg:Tryz.prog.globalNamed "internal/strconv.uint64pow10" with
 |none=>rw[hg]at h;cases h
 |some g=>
  rw[hg]at h;simp only[Option.bind_some]at h|-
  have hlt:g<w.heap.size:=by
   rcases Nat.lt_or_ge g w.heap.size with h'|h'
   .exact h'
   .rw[Array.getElem?_eq_none h']at h;cases h
  rw[hb.block g hlt];exact h
theorem below_grow(w:World)(k:Nat)(os:Array Obj):Below w.heap.size w (Go.Sort.grow (w.drewN k) os):=
 ⟨rfl,rfl,rfl,by simp,λ i hi=>by
  show(w.heap++os)[i]? =_;rw[Array.getElem?_append_left hi]⟩
theorem S9(a:Int)(h0: -9223372036854775808≤a)(h1:a≤9223372036854775807)(W:World)(ht:sK W):Calls Tryz.prog 19 #[.int .i64 a] W (pE (.string ⟨(Lib.itoa a).toArray⟩) W):=
 (Tryz.strconv_Itoa a h0 h1 W ht).mono λ e w' h=>by
  obtain⟨he,k,os,hw⟩:=h;subst hw;exact⟨he,below_grow W k os⟩
theorem QV(n:ByteArray)(W:World):Calls Tryz.prog 17 #[.string n] W (pE (.bool (iP n)) W):=lG.calls n _ W rfl
theorem IW(s:ByteArray)(W:World):Calls Tryz.prog 14 #[.string s] W (pE (.string (gW s)) W):=by
 unfold gW;by_cases h:s.toList=([]:List UInt8)
 .have h1:(s.toList==([]:List UInt8))=true:=by simpa using h
  rw[if_pos h];go_enter Tryz.func14,Tryz.ntmps14;go_wp2;go_ret;exact⟨rfl,Below.refl _ _⟩
 .have h1:(s.toList==([]:List UInt8))=false:=by simpa using h
  rw[if_neg h];go_enter Tryz.func14,Tryz.ntmps14;go_wp2;go_ret;exact⟨rfl,Below.refl _ _⟩
end Go.Proofs.Ct.Q
namespace Go.Proofs.Ct.Q
open Go.Proofs.g_ Go.RowKit Go.Proofs.aA.ak Go.Proofs.aA.aC Go.Proofs.aA.aG Go.Proofs.bO
attribute [local go_sem] aW aX bA bB
def QW(g:Nat)(f:iY)(b0 d0 e2 n2 e3 v0:Bool):Nat->Value->World->Prop:=λ i s _=>([
λ u=>u= .pointer (some ⟨g,1,none⟩),
 λ u=>u= .int .i64 f.f1,
 λ u=>u= .bool b0,
 λ u=>u= .bool b0,
 λ u=>u=cond (!b0) (.pointer (some ⟨g,1,none⟩)) undef,
 λ u=>u=cond (!b0) (.int .i64 f.f1) undef,
 λ u=>b0=false->∃A c,u= .slice A 13 c,
 λ u=>u=cond (!b0) (.int .i64 13) undef,
 λ u=>u=cond (!b0) (.bool d0) undef,
 λ u=>u= .bool (b0||d0),
 λ u=>u= .bool (b0||d0),
 λ u=>u=cond (!(b0||d0)) (.pointer (some ⟨g,2,none⟩)) undef,
 λ u=>u=cond (!(b0||d0)) (.string f.f2) undef,
 λ u=>u=cond (!(b0||d0)) (.bool e2) undef,
 λ u=>u=cond (!(b0||d0)) (.bool e2) undef,
 λ u=>u=cond (!(b0||d0)&&e2) (.pointer (some ⟨g,2,none⟩)) undef,
 λ u=>u=cond (!(b0||d0)&&e2) (.string f.f2) undef,
 λ u=>u=cond (!(b0||d0)&&e2) (.bool n2) undef,
 λ u=>u=cond (!(b0||d0)&&e2) (.bool (!n2)) undef,
 λ u=>u=cond (!(b0||d0)) (.bool (e2&& !n2)) undef,
 λ u=>u= .bool ((b0||d0)||(e2&& !n2)),
 λ u=>u= .bool ((b0||d0)||(e2&& !n2)),
 λ u=>u=cond (!((b0||d0)||(e2&& !n2))) (.pointer (some ⟨g,3,none⟩)) undef,
 λ u=>u=cond (!((b0||d0)||(e2&& !n2))) (.string f.f3) undef,
 λ u=>u=cond (!((b0||d0)||(e2&& !n2))) (.bool e3) undef,
 λ u=>u=cond (!((b0||d0)||(e2&& !n2))) (.bool e3) undef,
 λ u=>u=cond (!((b0||d0)||(e2&& !n2))&&e3) (.bool v0) undef,
 λ u=>u=cond (!((b0||d0)||(e2&& !n2))&&e3) (.bool (!v0)) undef,
 λ u=>u=cond (!((b0||d0)||(e2&& !n2))) (.bool (e3&& !v0)) undef,
 λ u=>u= .bool (((b0||d0)||(e2&& !n2))||(e3&& !v0))]:List (Value->Prop)).getD i (λ _=>True) s
set_option maxHeartbeats 20000000 in
set_option maxRecDepth 100000 in
theorem XD(g:Nat)(f:iY)(b0 d0 e2 n2 e3 v0:Bool)(h0:decide (f.f1<0)=b0)(h1:decide (13≤f.f1)=d0)(h2:(f.f2.toList !=([]:List UInt8))=e2)(H3:Hid (iP f.f2=n2))(h4:(f.f3.toList !=([]:List UInt8))=e3)
  (W0:World)(hx1:W0.cell? ⟨g,1,none⟩=some (.int .i64 f.f1))(hx2:W0.cell? ⟨g,2,none⟩=some (.string f.f2))(hx3:W0.cell? ⟨g,3,none⟩=some (.string f.f3))
  (a0:Act)(D:a0.eval (.tmp 7)= .pointer (some ⟨g,0,none⟩))(F:a0.eval (.tmp 9)= .bool v0):aJ Tryz.prog (opsOf Tryz.f5 7) (QW g f b0 d0 e2 n2 e3 v0) W0 a0 0 (opsOf Tryz.f5 7).toList:=by
 refine aJ.cons (λ a w' hS hr=>?_) ?_
 .have h7:=gw hr D
  exact dN
 refine aJ.cons (λ a w' hS hr=>?_) ?_
 .have h22:=gQ hr 22 0
  have hc:=au hS hx1;exact dN
 refine aJ.cons (λ a w' hS hr=>?_) ?_
 .cases b0<;>(have h23:=gQ hr 23 1;exact dN)
 refine aJ.cons (λ a w' hS hr=>?_) ?_
 .cases b0<;>(have h24:=gQ hr 24 2;exact dN)
 refine aJ.cons (λ a w' hS hr=>?_) ?_
 .cases b0<;>(have s:=gQ hr 25 3;have h7:=gw hr D;exact sx s)
 refine aJ.cons (λ a w' hS hr=>?_) ?_
 .cases b0<;>(have s:=gQ hr 25 3;have h26:=gQ hr 26 4;(first|exact jD s|exact jE s|(have hc:=au hS hx1;exact nO s)))
 refine aJ.cons (λ a w' hS hr=>?_) ?_
 .cases b0<;>(have s:=gQ hr 25 3;(first|exact jD s|exact jE s|(refine gU #[] ((eO rfl rfl rfl s).trans rfl) Tryz.func16 (by kernel_rfl) rfl rfl (by simp only[List.map_toArray,List.map_cons,List.map_nil,bT,s,cond_true,cond_false,Bool.not_true,Bool.not_false,Bool.and_true,Bool.and_false,Bool.true_and,Bool.false_and,Bool.or_true,Bool.or_false,Bool.true_or,Bool.false_or]) ?_;exact(Ih _).mono λ e w2 h=>by obtain⟨v,he,hv,hb⟩:=h;obtain⟨A,c,e1⟩:=Kd.dR hv;exact⟨v,he,λ _=>⟨A,c,e1⟩,hb⟩)))
 refine aJ.cons (λ a w' hS hr=>?_) ?_
 .cases b0<;>(have s:=gQ hr 25 3;have E:=gq hr 28 6;(first|exact jD s|exact jE s|((obtain⟨A_,c_,E⟩:=(show false=false->∃A c,a.eval (.tmp 28)= .slice A 13 c from E) rfl;refine gu ((eO rfl rfl rfl s).trans rfl) rfl ?_;have E:=xq E;simp only[execOp,bT];go_simp))))
 refine aJ.cons (λ a w' hS hr=>?_) ?_
 .cases b0<;>cases d0<;>(have s:=gQ hr 25 3;have h27:=gQ hr 27 5;have h29:=gQ hr 29 7;exact sx s)
 refine aJ.cons (λ a w' hS hr=>?_) ?_
 .cases b0<;>cases d0<;>(have s:=gQ hr 25 3;have h30:=gQ hr 30 8;exact dN)
 refine aJ.cons (λ a w' hS hr=>?_) ?_
 .cases b0<;>cases d0<;>(have h31:=gQ hr 31 9;exact dN)
 refine aJ.cons (λ a w' hS hr=>?_) ?_
 .cases b0<;>cases d0<;>(have h32:=gQ hr 32 10;have h7:=gw hr D;exact sx h32)
 refine aJ.cons (λ a w' hS hr=>?_) ?_
 .cases b0<;>cases d0<;>(have h32:=gQ hr 32 10;have h33:=gQ hr 33 11;(first|exact jD h32|exact jE h32|(have hc:=au hS hx2;exact nO h32)))
 refine aJ.cons (λ a w' hS hr=>?_) ?_
 .cases b0<;>cases d0<;>cases e2<;>(have h32:_=_:=hr.got 32 10 (by kernel_rfl) rfl rfl (by decide);have I:_=_:=hr.got 34 12 (by kernel_rfl) rfl rfl (by decide);(first|exact qF ((eO rfl rfl rfl h32).trans rfl) (by first|rfl|nofun)|exact qF (pF rfl rfl rfl h32) (by first|rfl|nofun)|((refine gu ((eO rfl rfl rfl h32).trans rfl) rfl ?_;simp only[execOp,bT,h32,I,cond_true,cond_false,Bool.not_true,Bool.not_false,Bool.or_false];go_simp;simpa using h2))))
 refine aJ.cons (λ a w' hS hr=>?_) ?_
 .cases b0<;>cases d0<;>cases e2<;>(have h32:=gQ hr 32 10;have h35:=gQ hr 35 13;exact sx h32)
 refine aJ.cons (λ a w' hS hr=>?_) ?_
 .cases b0<;>cases d0<;>cases e2<;>(have z:=gQ hr 36 14;have h7:=gw hr D;exact sx z)
 refine aJ.cons (λ a w' hS hr=>?_) ?_
 .cases b0<;>cases d0<;>cases e2<;>(have z:=gQ hr 36 14;have h37:=gQ hr 37 15;(first|exact jD z|exact jE z|(have hc:=au hS hx2;exact nO z)))
 refine aJ.cons (λ a w' hS hr=>?_) ?_
 .cases b0<;>cases d0<;>cases e2<;>cases n2<;>(have z:=gQ hr 36 14;have J:=gQ hr 38 16;(first|exact jD z|exact jE z|(refine gU #[.string f.f2] ((eO rfl rfl rfl z).trans rfl) Tryz.func17 (by kernel_rfl) rfl rfl (by simp only[List.map_toArray,List.map_cons,List.map_nil,bT,z,J,cond_true,cond_false,Bool.not_true,Bool.not_false,Bool.and_true,Bool.and_false,Bool.true_and,Bool.false_and,Bool.or_true,Bool.or_false,Bool.true_or,Bool.false_or]) ?_;exact(QV _ _).mono λ e w2 h=>⟨_,h.1,congrArg Value.bool H3.out,h.2⟩)))
 refine aJ.cons (λ a w' hS hr=>?_) ?_
 .cases b0<;>cases d0<;>cases e2<;>cases n2<;>(have z:=gQ hr 36 14;have h39:=gQ hr 39 17;exact sx z)
 refine aJ.cons (λ a w' hS hr=>?_) ?_
 .cases b0<;>cases d0<;>cases e2<;>cases n2<;>(have h32:=gQ hr 32 10;have z:=gQ hr 36 14;have h40:=gQ hr 40 18;exact sx h32)
 refine aJ.cons (λ a w' hS hr=>?_) ?_
 .cases b0<;>cases d0<;>cases e2<;>cases n2<;>(have h32:=gQ hr 32 10;have h41:=gQ hr 41 19;exact dN)
 refine aJ.cons (λ a w' hS hr=>?_) ?_
 .cases b0<;>cases d0<;>cases e2<;>cases n2<;>(have h42:=gQ hr 42 20;exact dN)
 refine aJ.cons (λ a w' hS hr=>?_) ?_
 .cases b0<;>cases d0<;>cases e2<;>cases n2<;>(have h43:=gQ hr 43 21;have h7:=gw hr D;exact sx h43)
 refine aJ.cons (λ a w' hS hr=>?_) ?_
 .cases b0<;>cases d0<;>cases e2<;>cases n2<;>(have h43:=gQ hr 43 21;have h44:=gQ hr 44 22;(first|exact jD h43|exact jE h43|(have hc:=au hS hx3;exact nO h43)))
 refine aJ.cons (λ a w' hS hr=>?_) ?_
 .cases b0<;>cases d0<;>cases e2<;>cases n2<;>cases e3<;>(have h43:_=_:=hr.got 43 21 (by kernel_rfl) rfl rfl (by decide);have h45:_=_:=hr.got 45 23 (by kernel_rfl) rfl rfl (by decide);(first|exact qF ((eO rfl rfl rfl h43).trans rfl) (by first|rfl|nofun)|exact qF (pF rfl rfl rfl h43) (by first|rfl|nofun)|((refine gu ((eO rfl rfl rfl h43).trans rfl) rfl ?_;simp only[execOp,bT,h43,h45,cond_true,cond_false,Bool.not_true,Bool.not_false,Bool.or_false,Bool.false_and,Bool.true_and];go_simp;simpa using h4))))
 refine aJ.cons (λ a w' hS hr=>?_) ?_
 .cases b0<;>cases d0<;>cases e2<;>cases n2<;>cases e3<;>(have h43:=gQ hr 43 21;have h46:=gQ hr 46 24;exact sx h43)
 refine aJ.cons (λ a w' hS hr=>?_) ?_
 .cases b0<;>cases d0<;>cases e2<;>cases n2<;>cases e3<;>cases v0<;>(have h47:=gQ hr 47 25;have h9:=gw hr F;exact sx h47)
 refine aJ.cons (λ a w' hS hr=>?_) ?_
 .cases b0<;>cases d0<;>cases e2<;>cases n2<;>cases e3<;>cases v0<;>(have h47:=gQ hr 47 25;have h48:=gQ hr 48 26;exact sx h47)
 refine aJ.cons (λ a w' hS hr=>?_) ?_
 .cases b0<;>cases d0<;>cases e2<;>cases n2<;>cases e3<;>cases v0<;>(have h43:=gQ hr 43 21;have h47:=gQ hr 47 25;have h49:=gQ hr 49 27;exact sx h43)
 refine aJ.cons (λ a w' hS hr=>?_) ?_
 .cases b0<;>cases d0<;>cases e2<;>cases n2<;>cases e3<;>cases v0<;>(have h43:=gQ hr 43 21;have h50:=gQ hr 50 28;exact dN)
 exact aJ.nil
def Gd(g:Nat)(f:iY):Nat->Value->World->Prop:=λ i=>([
λ u _=>u= .pointer (some ⟨g,0,none⟩),
 λ u _=>u= .int .i64 f.f0,
 λ u _=>u= .string (⟨(Lib.itoa f.f0).toArray⟩:ByteArray),
 λ u _=>u= .string ((⟨(Lib.itoa f.f0).toArray⟩:ByteArray)++(⟨#[32]⟩:ByteArray)),
 λ u w=>∃ad c,u= .slice (some ad) 13 c∧w.cell? (ad.add f.f1.toNat)=some (.string (iG f.f1)),
 λ u _=>u= .pointer (some ⟨g,1,none⟩),
 λ u _=>u= .int .i64 f.f1,
 λ u w=>∃ad,u= .pointer (some ad)∧w.cell? ad=some (.string (iG f.f1)),
 λ u _=>u= .string (iG f.f1),
 λ u _=>u= .string (((⟨(Lib.itoa f.f0).toArray⟩:ByteArray)++(⟨#[32]⟩:ByteArray))++iG f.f1),
 λ u _=>u= .string ((((⟨(Lib.itoa f.f0).toArray⟩:ByteArray)++(⟨#[32]⟩:ByteArray))++iG f.f1)++(⟨#[32]⟩:ByteArray)),
 λ u _=>u= .func (.func 14) #[] #[],
 λ u _=>u= .pointer (some ⟨g,2,none⟩),
 λ u _=>u= .string f.f2,
 λ u _=>u= .string (gW f.f2),
 λ u _=>u= .string (((((⟨(Lib.itoa f.f0).toArray⟩:ByteArray)++(⟨#[32]⟩:ByteArray))++iG f.f1)++(⟨#[32]⟩:ByteArray))++gW f.f2),
 λ u _=>u= .string ((((((⟨(Lib.itoa f.f0).toArray⟩:ByteArray)++(⟨#[32]⟩:ByteArray))++iG f.f1)++(⟨#[32]⟩:ByteArray))++gW f.f2)++(⟨#[32]⟩:ByteArray)),
 λ u _=>u= .func (.func 14) #[] #[],
 λ u _=>u= .pointer (some ⟨g,3,none⟩),
 λ u _=>u= .string f.f3,
 λ u _=>u= .string (gW f.f3),
 λ u _=>u= .string (((((((⟨(Lib.itoa f.f0).toArray⟩:ByteArray)++(⟨#[32]⟩:ByteArray))++iG f.f1)++(⟨#[32]⟩:ByteArray))++gW f.f2)++(⟨#[32]⟩:ByteArray))++gW f.f3),
 λ u _=>u= .string ((((((((⟨(Lib.itoa f.f0).toArray⟩:ByteArray)++(⟨#[32]⟩:ByteArray))++iG f.f1)++(⟨#[32]⟩:ByteArray))++gW f.f2)++(⟨#[32]⟩:ByteArray))++gW f.f3)++(⟨#[10]⟩:ByteArray)),
 λ _ _=>True]:List (Value->World->Prop)).getD i (λ _ _=>True)
theorem Mf(g:Nat)(f:iY):∀w w' j u,Below w.heap.size w w'->Gd g f j u w->Gd g f j u w':=by
 refine ig.get ?_;repeat(first|exact ig.nil|refine ig.cons (λ _ _ _ _ h=>h) ?_|refine ig.cons (λ u w w' hb h=>by obtain⟨ad,c,h1,h2⟩:=h;exact⟨ad,c,h1,au hb h2⟩) ?_|refine ig.cons (λ u w w' hb h=>by obtain⟨ad,h1,h2⟩:=h;exact⟨ad,h1,au hb h2⟩) ?_)
set_option maxHeartbeats 20000000 in
set_option maxRecDepth 100000 in
theorem XE(g:Nat)(f:iY)(hn0: -9223372036854775808≤f.f0)(hn1:f.f0≤9223372036854775807)(hk0:0≤f.f1)(hk1:f.f1<13)(hN:(Lib.itoa f.f0).length≤1000)(hK:(iG f.f1).size≤1000)(hD2:(gW f.f2).size≤4000001)(hD3:(gW f.f3).size≤4000001)
  (W0:World)(htab:sK W0)(hx0:W0.cell? ⟨g,0,none⟩=some (.int .i64 f.f0))(hx1:W0.cell? ⟨g,1,none⟩=some (.int .i64 f.f1))(hx2:W0.cell? ⟨g,2,none⟩=some (.string f.f2))(hx3:W0.cell? ⟨g,3,none⟩=some (.string f.f3))
  (a0:Act)(s:a0.eval (.tmp 7)= .pointer (some ⟨g,0,none⟩))(D:a0.eval (.tmp 5)= .func (.func 14) #[] #[]):aJ Tryz.prog (opsOf Tryz.f5 9) (Gd g f) W0 a0 0 ((opsOf Tryz.f5 9).toList.take 23):=by
 refine aJ.cons (λ a w' hS hr=>?_) ?_
 .have h7:=gw hr s
  exact dN
 refine aJ.cons (λ a w' hS hr=>?_) ?_
 .have h52:=gQ hr 52 0
  have hc:=au hS hx0;exact dN
 refine aJ.cons (λ a w' hS hr=>?_) ?_
 .have I:=gQ hr 53 1
  refine gU #[.int .i64 f.f0] (dL rfl) Tryz.func19 (by kernel_rfl) rfl rfl (by simp only[List.map_toArray,List.map_cons,List.map_nil,bT,I]) ?_;exact(S9 _ hn0 hn1 _ (htab.below hS)).mono λ e w2 h=>⟨_,h.1,rfl,h.2⟩
 refine aJ.cons (λ a w' hS hr=>?_) ?_
 .have J:=gQ hr 54 2
  (refine gu (dL rfl) rfl ?_;simp only[execOp,bT,J];go_simp;omega)
 refine aJ.cons (λ a w' hS hr=>?_) ?_
 .refine gU #[] (dL rfl) Tryz.func16 (by kernel_rfl) rfl rfl (by simp only[List.map_toArray,List.map_cons,List.map_nil,bT]) ?_;exact(Ih _).mono λ e w2 h=>by obtain⟨v,he,hv,hb⟩:=h;obtain⟨A,c,e1⟩:=Kd.dR hv;subst e1;obtain⟨ad,e2,hc⟩:=Kd.rF (Kd.d9 hv).2.2 f.f1 hk0 (by rw[EX];exact hk1);subst e2;exact⟨_,he,⟨ad,c,rfl,hc⟩,hb⟩
 refine aJ.cons (λ a w' hS hr=>?_) ?_
 .have h7:=gw hr s
  exact dN
 refine aJ.cons (λ a w' hS hr=>?_) ?_
 .have h57:=gQ hr 57 5
  have hc:=au hS hx1;exact dN
 refine aJ.cons (λ a w' hS hr=>?_) ?_
 .have z:=gq hr 56 4
  have L:=gQ hr 58 6
  (obtain⟨ad,c,z,hc⟩:=(show∃ad c,a.eval (.tmp 56)= .slice (some ad) 13 c∧w'.cell? (ad.add f.f1.toNat)=some (.string (iG f.f1))from z);refine gu (v:= .pointer (some (ad.add f.f1.toNat))) (dL rfl) ⟨_,rfl,hc⟩ ?_;have p1:(0≤f.f1)=True:=eq_true hk0;have q1:(f.f1<13)=True:=eq_true hk1;simp only[execOp,bT,z,L];go_simp)
 refine aJ.cons (λ a w' hS hr=>?_) ?_
 .have E:=gq hr 59 7
  (obtain⟨ad,E,hc⟩:=(show∃ad,a.eval (.tmp 59)= .pointer (some ad)∧w'.cell? ad=some (.string (iG f.f1))from E);exact dN)
 refine aJ.cons (λ a w' hS hr=>?_) ?_
 .have O:=gQ hr 55 3
  have T:=gQ hr 60 8
  (refine gu (dL rfl) rfl ?_;simp only[execOp,bT,O,T];go_simp;omega)
 refine aJ.cons (λ a w' hS hr=>?_) ?_
 .have U:=gQ hr 61 9
  (refine gu (dL rfl) rfl ?_;simp only[execOp,bT,U];go_simp;omega)
 refine aJ.cons (λ a w' hS hr=>?_) ?_
 .have h5:=gw hr D
  exact dN
 refine aJ.cons (λ a w' hS hr=>?_) ?_
 .have h7:=gw hr s
  exact dN
 refine aJ.cons (λ a w' hS hr=>?_) ?_
 .have h64:=gQ hr 64 12
  have hc:=au hS hx2;exact dN
 refine aJ.cons (λ a w' hS hr=>?_) ?_
 .have h63:=gQ hr 63 11
  have X:=gQ hr 65 13
  (refine Kg #[.string f.f2] (dL rfl) h63 Tryz.func14 (by kernel_rfl) rfl rfl (by simp only[List.map_toArray,List.map_cons,List.map_nil,bT,h63,X]) ?_;exact(IW _ _).mono λ e w2 h=>⟨_,h.1,rfl,h.2⟩)
 refine aJ.cons (λ a w' hS hr=>?_) ?_
 .have Y:=gQ hr 62 10
  have Z:=gQ hr 66 14
  (refine gu (dL rfl) rfl ?_;simp only[execOp,bT,Y,Z];go_simp;omega)
 refine aJ.cons (λ a w' hS hr=>?_) ?_
 .have aa:=gQ hr 67 15
  (refine gu (dL rfl) rfl ?_;simp only[execOp,bT,aa];go_simp;omega)
 refine aJ.cons (λ a w' hS hr=>?_) ?_
 .have h5:=gw hr D
  exact dN
 refine aJ.cons (λ a w' hS hr=>?_) ?_
 .have h7:=gw hr s
  exact dN
 refine aJ.cons (λ a w' hS hr=>?_) ?_
 .have h70:=gQ hr 70 18
  have hc:=au hS hx3;exact dN
 refine aJ.cons (λ a w' hS hr=>?_) ?_
 .have F:=gQ hr 69 17
  have ab:=gQ hr 71 19
  (refine Kg #[.string f.f3] (dL rfl) F Tryz.func14 (by kernel_rfl) rfl rfl (by simp only[List.map_toArray,List.map_cons,List.map_nil,bT,F,ab]) ?_;exact(IW _ _).mono λ e w2 h=>⟨_,h.1,rfl,h.2⟩)
 refine aJ.cons (λ a w' hS hr=>?_) ?_
 .have h68:=gQ hr 68 16
  have h72:=gQ hr 72 20
  (refine gu (dL rfl) rfl ?_;simp only[execOp,bT,h68,h72];go_simp;omega)
 refine aJ.cons (λ a w' hS hr=>?_) ?_
 .have ac:=gQ hr 73 21
  (refine gu (dL rfl) rfl ?_;simp only[execOp,bT,ac];go_simp;omega)
 exact aJ.nil
theorem Og{T e:TypeId}{B b:Nat}{bs:List Value}{W W':World}(h:Lib.IsBuilderF T e B b bs W)(hb:Below W.heap.size W W'):Lib.IsBuilderF T e B b bs W':=by
 have key:∀p,Lib.BuilderAtF T e B b p bs W->Lib.BuilderAtF T e B b p bs W':=λ p h=>by
  have hlt:=h.lt;obtain⟨hB,v,hv,hown,hne⟩:=h;exact⟨hB,v,(hb.block b hlt).trans hv,hown.kept (row:=none) ⟨hb.os,hb.tape,hb.output,hb.size,λ k hk _=>hb.block k hk⟩ (Classical.em _),hne⟩
 exact h.elim (λ x=> .inl (key _ x)) (λ x=> .inr (key _ x))
theorem Az{w W:World}{g:Nat}(b0 b1 b2 b3 b4 b5:Value)(h:Below w.heap.size w W)(hg:w.heap.size≤g):
 Below w.heap.size w ((((((W.setCell ⟨g,0,none⟩ b0).setCell ⟨g,1,none⟩ b1).setCell ⟨g,2,none⟩ b2).setCell ⟨g,3,none⟩ b3).setCell ⟨g,4,none⟩ b4).setCell ⟨g,5,none⟩ b5):=bH (bH (jg b0 b1 b2 b3 h hg) hg) hg
theorem KL{W:World}{g k t:Nat}{cs:Array Value}(b0 b1 b2 b3 b4 b5:Value)(h:W.heap[k]? =some (.cells cs t (0,0)))(hne:k≠g):
 ((((((W.setCell ⟨g,0,none⟩ b0).setCell ⟨g,1,none⟩ b1).setCell ⟨g,2,none⟩ b2).setCell ⟨g,3,none⟩ b3).setCell ⟨g,4,none⟩ b4).setCell ⟨g,5,none⟩ b5).heap[k]? =some (.cells cs t (0,0)):=
 jK (jK (jK (jK (jK (jK h hne _) hne _) hne _) hne _) hne _) hne _
theorem Gf(a b:ByteArray):Lib.strCells (a++b)=Lib.strCells a++Lib.strCells b:=by
 unfold Lib.strCells;rw[show(a++b).data.toList=a.data.toList++b.data.toList by simp,List.map_append]
theorem Oh(f:iY){b0 d0 e2 n2 e3 v0:Bool}(h0:decide (f.f1<0)=b0)(h1:decide (13≤f.f1)=d0)(h2:(f.f2.toList !=([]:List UInt8))=e2)(h3:iP f.f2=n2)(h4:(f.f3.toList !=([]:List UInt8))=e3)
 (h5:ku f.f3=v0):(!mO f)=(b0||d0||(e2&& !n2)||(e3&& !v0)):=by
 obtain⟨m0,hm⟩:∃b,dW f.f3=b:=⟨_,rfl⟩;obtain⟨m1,hm1⟩:∃b,ou f.f3=b:=⟨_,rfl⟩;rw[IQ f h0 h1 h2 h3 h4 hm hm1];unfold ku at h5;rw[hm,hm1]at h5;subst h5;cases m0<;>cases m1<;>rfl
set_option maxHeartbeats 40000000 in
set_option maxRecDepth 100000 in
theorem Ja(l:List iY)(A:Option Addr)(c:Nat)(w:World)(hC:Kd.C k28 w A l.length l)(hc:l.length≤c)(hz:Dc l)(bh:l.length≤60)(htab:sK w):
 Calls Tryz.prog 5 #[.slice A l.length c] w λ e w'=>TU (Av l) w e w':=by
 have hu28:=Tryz.underlying28;have hu68:=Tryz.underlying68;have HC:=ah.mk hC;have be:=Lib.hid hz;have HT:=Lib.hid htab;clear hC hz htab;go_enter Tryz.func5,Tryz.ntmps5
 go_wp2_with (first|((with_reducible refine gV (N:=4) rfl ?_);refine rA ?hg (N:=4) ?hd (cs:= #[.pointer none,.slice none 0 0]) (t:=60) ?hr ?_;(case hd=>rfl);(case hg=>rfl);(case hr=>first|(go_simp;done)|(go_simp;rfl));intro b hg w1 L hb;have HB:=ah.mk hb;have HD:=ah.mk (Lib.IsBuilderF.of (show Lib.IsBuilder 60 5 w.heap.size b [] w1 from .inl ⟨Nat.le_of_eq hg.symm,.slice none 0 0,L,World.ownsRow_nil _ _ _ _,by simp[Value.ownBlock]⟩));clear hb L hg))
 go_loopw [12] (λ i wr=>∃(j:Nat)(x:ByteArray),j≤l.length∧i= .int .i64 j∧ah (Lines l j x)∧ah (Below w.heap.size w wr)∧ah (Lib.IsBuilderF 60 5 w.heap.size b (Lib.strCells x) wr)) (λ i _=>l.length-(RowKit.intOf i).toNat)
 case atStart=>exact⟨0,⟨#[]⟩,Nat.zero_le _,rfl,⟨rfl,rfl⟩,HB,⟨HD.out⟩⟩
 case round=>
  clear HB HD;obtain⟨j,x,hj,rfl,HL,HB,HD⟩:=hrel;by_cases hlt:j<l.length
  .obtain⟨ad,hA,hx0,hx1,hx2,hx3⟩:=KC HC.out j (Int.natCast_nonneg j) (by omega)
   rw[Int.toNat_natCast]at hx0 hx1 hx2 hx3;subst hA;replace hx0:=au HB.out hx0;replace hx1:=au HB.out hx1;replace hx2:=au HB.out hx2;replace hx3:=au HB.out hx3;obtain⟨f,hf⟩:∃f,lZ l (j:Int)=f:=⟨_,rfl⟩;rw[hf]at hx0 hx1 hx2 hx3;have HF:=Lib.hid hf;clear hf;have bj:=Lib.hid (show f.f3.size≤4000000 by have:=vZ be.out hlt;rw[HF.out]at this;omega);have b1:decide (j<l.length)=true:=decide_eq_true hlt;have p1:((0:Int)≤(j:Int))=True:=eq_true (by omega);have q1:((j:Int)<(l.length:Int))=True:=eq_true (by omega)
   go_wp2_with (first|((with_reducible refine gd 7 rfl ?_);refine bx #[.int .i64 0,.int .i64 0,.string (⟨#[]⟩:ByteArray),.string (⟨#[]⟩:ByteArray)] 28 ?_;intro g hg w1 s hb;have HR:=ah.mk hb;have GE:=ah.mk (show wr.heap.size≤g from Nat.le_of_eq hg.symm);replace hx0:=au hb hx0;replace hx1:=au hb hx1;replace hx2:=au hb hx2;replace hx3:=au hb hx3;clear hb hg;have hc0:=(aj s.out 0).trans rfl;have hc1:=(aj s.out 1).trans rfl;have hc2:=(aj s.out 2).trans rfl;have hc3:=(aj s.out 3).trans rfl;have hf0:=aI s.out 0;have hf1:=aI s.out 1;have hf2:=aI s.out 2;have hf3:=aI s.out 3)|(go_at_call 15;refine(IK _ bj.out _).mono ?_;rintro e w5 ⟨z1,z2,z3,z4,z5,z6,z7,bk,z9,U,rfl,bl,hb⟩;clear bl;replace s:=ah.mk (bY (wW (.int .i64 f.f0) (.int .i64 f.f1) (.string f.f2) (.string f.f3) s.out) hb);replace HR:=ah.mk (aU (jg (.int .i64 f.f0) (.int .i64 f.f1) (.string f.f2) (.string f.f3) HR.out GE.out) hb);clear hb hx0 hx1 hx2 hx3 hc0 hc1 hc2 hc3 hf0 hf1 hf2 hf3)|((with_reducible refine gd 8 rfl ?_);refine bx #[.bool false,.slice none 0 0,.bool false,.slice none 0 0,.bool false,.bool false] 68 ?_;intro g2 hg w6 z hb;have D:=ah.mk (aU HR.out hb);have X:=ah.mk (show wr.heap.size≤g2 by rw[hg];exact HR.out.size);have NE:=ah.mk (show g≠g2 by rw[hg];exact Nat.ne_of_lt (gT s.out));have E:=kb s hb;clear s HR hb hg;have HR:=D;have s:=E;clear D E;have hc0:=(aj z.out 0).trans rfl;have hc1:=(aj z.out 1).trans rfl;have hc2:=(aj z.out 2).trans rfl;have hc3:=(aj z.out 3).trans rfl;have hc4:=(aj z.out 4).trans rfl;have bm:=(aj z.out 5).trans rfl;have hf0:=aI z.out 0;have hf1:=aI z.out 1;have hf2:=aI z.out 2;have hf3:=aI z.out 3;have bo:=aI z.out 4;have bp:=aI z.out 5))
   have D:=ah.mk (KL (.bool z1) (.slice z2 z3 z4) (.bool z5) (.slice z6 z7 bk) (.bool z9) (.bool U) s.out NE.out);have E:=ah.mk (Az (.bool z1) (.slice z2 z3 z4) (.bool z5) (.slice z6 z7 bk) (.bool z9) (.bool U) HR.out X.out);clear s HR z X NE GE hc0 hc1 hc2 hc3 hc4 bm hf0 hf1 hf2 hf3 bo bp;generalize ((((((w6.setCell _ _).setCell _ _).setCell _ _).setCell _ _).setCell _ _).setCell _ _)=w7 at D E|-
   have s:=D;have HR:=E;clear D E
   go_upto_if 51 with fail
   go_cut [51] (λ v w'=>v= .bool (!mO f)∧ah (w'.heap[g]? =some (.cells #[.int .i64 f.f0,.int .i64 f.f1,.string f.f2,.string f.f3] 28 (0,0)))∧ah (Below wr.heap.size wr w'))
   case first=>
    have s:ah (w7.drew.heap[g]? =some (.cells #[.int .i64 f.f0,.int .i64 f.f1,.string f.f2,.string f.f3] 28 (0,0))):=⟨s.out⟩;have HR:ah (Below wr.heap.size wr w7.drew):=⟨b_ HR.out⟩;obtain⟨b0,h0⟩:∃b,decide (f.f1<0)=b:=⟨_,rfl⟩;obtain⟨d0,h1⟩:∃b,decide (13≤f.f1)=b:=⟨_,rfl⟩;obtain⟨e2,h2⟩:∃b,(f.f2.toList !=([]:List UInt8))=b:=⟨_,rfl⟩;obtain⟨n2,h3⟩:∃b,iP f.f2=b:=⟨_,rfl⟩;obtain⟨e3,h4⟩:∃b,(f.f3.toList !=([]:List UInt8))=b:=⟨_,rfl⟩;have br:=Lib.hid (Oh f h0 h1 h2 h3 h4 rfl);have H3:=Lib.hid h3;have hx1:w7.drew.cell? ⟨g,1,none⟩=some (.int .i64 f.f1):=(aj s.out 1).trans rfl;have hx2:w7.drew.cell? ⟨g,2,none⟩=some (.string f.f2):=(aj s.out 2).trans rfl;have hx3:w7.drew.cell? ⟨g,3,none⟩=some (.string f.f3):=(aj s.out 3).trans rfl;refine iW (F:=QW g f b0 d0 e2 n2 e3 (ku f.f3)) (by kernel_rfl) (by kernel_rfl) (λ w w' j u _ h=>h) (XD g f b0 d0 e2 n2 e3 (ku f.f3) h0 h1 h2 H3 h4 _ hx1 hx2 hx3 _ rfl rfl) ?_;intro a w' hF ha hb;have k22:_=_:=hF 0 _ 22 rfl rfl;have k23:_=_:=hF 1 _ 23 rfl rfl;have k24:_=_:=hF 2 _ 24 rfl rfl;have k25:_=_:=hF 3 _ 25 rfl rfl;have k26:_=_:=hF 4 _ 26 rfl rfl;have k27:_=_:=hF 5 _ 27 rfl rfl;have Y:_=_:=hF 7 _ 29 rfl rfl;have Z:_=_:=hF 8 _ 30 rfl rfl;have Ba:_=_:=hF 9 _ 31 rfl rfl;have aa:_=_:=hF 10 _ 32 rfl rfl;have sU:_=_:=hF 11 _ 33 rfl rfl;have ab:_=_:=hF 12 _ 34 rfl rfl;have ac:_=_:=hF 13 _ 35 rfl rfl;have ae:_=_:=hF 14 _ 36 rfl rfl;have af:_=_:=hF 15 _ 37 rfl rfl;have ag:_=_:=hF 16 _ 38 rfl rfl;have al:_=_:=hF 17 _ 39 rfl rfl;have am:_=_:=hF 18 _ 40 rfl rfl;have an:_=_:=hF 19 _ 41 rfl rfl;have ao:_=_:=hF 20 _ 42 rfl rfl;have ap:_=_:=hF 21 _ 43 rfl rfl;have aq:_=_:=hF 22 _ 44 rfl rfl;have ar:_=_:=hF 23 _ 45 rfl rfl;have av:_=_:=hF 24 _ 46 rfl rfl;have aw:_=_:=hF 25 _ 47 rfl rfl;have ax:_=_:=hF 26 _ 48 rfl rfl;have ay:_=_:=hF 27 _ 49 rfl rfl;have az:_=_:=hF 28 _ 50 rfl rfl;have aB:_=_:=hF 29 _ 51 rfl rfl;simp only[eU,List.foldl_cons,List.foldl_nil,k22,k23,k24,k25,k26,k27,Y,Z,Ba,aa,sU,ab,ac,ae,af,ag,al,am,an,ao,ap,aq,ar,av,aw,ax,ay,az,aB]at ha;generalize a.tmps.getD 28 undef=u28 at ha;clear hF k22 k23 k24 k25 k26 k27 Y Z Ba aa sU ab ac ae af ag al am an ao ap aq ar av aw ax ay az aB;subst ha;simp only[Act.put,List.setIfInBounds_toArray,List.set_cons_zero,List.set_cons_succ];go_wp2;go_meet
    case rel=>exact⟨by rw[br.out],⟨bY s.out hb⟩,⟨aU HR.out hb⟩⟩
   case rest=>
    obtain⟨rfl,s,HR⟩:=hcut;have HB2:=ah.mk (aU HB.out HR.out);cases J:mO f with
    |false=>
     have O:=Lib.hid (Lines.bad hlt HF.out J);go_wp2;go_ret2;exact⟨by rw[O.out];rfl,HB2.out⟩
    |true=>
     have bs:=Lib.hid (HL.out.next hlt HF.out J);have hn:=vZ be.out hlt;have hxs:=HL.out.size be.out bh;have hk:=Ef J;rw[HF.out]at hn;have bt:=Lib.hid (Fw hk hn.2.2.1 hn.2.2.2 hn.1 hn.2.1);have bu:=Lib.hid (λ W0 a0 ht h0 h1 h2 h3=>XE g f hn.2.2.1 hn.2.2.2 hk.1 hk.2 (Ca hn.2.2.1 hn.2.2.2) (Aw hk.1 hk.2) (Nat.le_trans (qc _) (by omega)) (Nat.le_trans (qc _) (by omega)) W0 ht h0 h1 h2 h3 a0);have bv:=Lib.hid hxs;clear hn hxs hk J;go_wp2;refine xk (F:=Gd g f) 23 _ (by kernel_rfl) (by kernel_rfl) rfl (by kernel_rfl) rfl (Mf g f) (bu.out _ _ (HT.out.below (b_ HB2.out)) ((aj s.out 0).trans rfl) ((aj s.out 1).trans rfl) ((aj s.out 2).trans rfl) ((aj s.out 3).trans rfl) rfl rfl) ?_;intro a w' hF ha hb;have aD:_=_:=hF 0 _ 52 (by decide) rfl rfl;have aE:_=_:=hF 1 _ 53 (by decide) rfl rfl;have aF:_=_:=hF 2 _ 54 (by decide) rfl rfl;have aL:_=_:=hF 3 _ 55 (by decide) rfl rfl;have aO:_=_:=hF 5 _ 57 (by decide) rfl rfl;have aP:_=_:=hF 6 _ 58 (by decide) rfl rfl;have aR:_=_:=hF 8 _ 60 (by decide) rfl rfl;have aS:_=_:=hF 9 _ 61 (by decide) rfl rfl;have a1:_=_:=hF 10 _ 62 (by decide) rfl rfl;have a2:_=_:=hF 11 _ 63 (by decide) rfl rfl;have a3:_=_:=hF 12 _ 64 (by decide) rfl rfl;have a4:_=_:=hF 13 _ 65 (by decide) rfl rfl;have a5:_=_:=hF 14 _ 66 (by decide) rfl rfl;have a6:_=_:=hF 15 _ 67 (by decide) rfl rfl;have a7:_=_:=hF 16 _ 68 (by decide) rfl rfl;have a8:_=_:=hF 17 _ 69 (by decide) rfl rfl;have a9:_=_:=hF 18 _ 70 (by decide) rfl rfl;have ba:_=_:=hF 19 _ 71 (by decide) rfl rfl;have bb:_=_:=hF 20 _ 72 (by decide) rfl rfl;have bc:_=_:=hF 21 _ 73 (by decide) rfl rfl;have bd:_=_:=hF 22 _ 74 (by decide) rfl rfl;simp only[eU,List.take_succ_cons,List.take_zero,List.foldl_cons,List.foldl_nil,aD,aE,aF,aL,aO,aP,aR,aS,a1,a2,a3,a4,a5,a6,a7,a8,a9,ba,bb,bc,bd]at ha;generalize a.tmps.getD 56 undef=u56 at ha;generalize a.tmps.getD 59 undef=u59 at ha;clear hF aD aE aF aL aO aP aR aS a1 a2 a3 a4 a5 a6 a7 a8 a9 ba bb bc bd;subst ha;simp only[Act.put,List.setIfInBounds_toArray,List.set_cons_zero,List.set_cons_succ];have HB3:=ah.mk (aU (b_ HB2.out) hb);have HR3:=ah.mk (aU (b_ HR.out) hb)
     go_wp2_with (go_at_call 18;(refine(PG w.heap.size b (Lib.strCells x) (sM f) _ (Og HD.out HR3.out) (by rw[Lib.strCells_length];have:=bv.out;have:=bt.out;omega) HB3.out.size).mono ?_;rintro e bw ⟨rfl,hbd,I⟩;have T:=ah.mk (HB3.out.trans I);have HD4:=ah.mk (show Lib.IsBuilderF 60 5 w.heap.size b (Lib.strCells (x++sM f)) bw by rw[Gf];exact .inr hbd);clear hbd I))
     go_roundw
     case rel=>exact⟨j+1,_,by omega,by go_num,⟨bs.out⟩,T,HD4⟩
     case measure=>simp[RowKit.intOf];omega
  .obtain rfl:j=l.length:=by omega
   have O:=Lib.hid (HL.out.all);have b1:decide (l.length<l.length)=false:=decide_eq_false (by omega)
   go_wp2_with (go_at_call 20;refine(Tryz.Builder_String_any_f w.heap.size b x.data.toList _ HD.out HB.out.size).mono ?_;rintro e bw ⟨rfl,hbd,I⟩;have T:=ah.mk (HB.out.trans I);clear hbd I)
   go_ret2;exact⟨by rw[O.out];rfl,T.out⟩
end Go.Proofs.Ct.Q
section
namespace Go.Proofs.Ct.Q
open Go.Proofs.g_ Go.RowKit Go.Proofs.aA.ak Go.Proofs.aA.aC Go.Proofs.aA.aG Go.Proofs.bO
attribute [local go_sem] aW aX bA bB
theorem MapAt.fine{w:World}{lo E M:Nat}{c0 c1 c2 c3 c4:Value}{l:List f_}(hE:w.heap[E]? =some (.cells #[c0,c1,c2,c3,c4,.map (some M)] 87 (0,0)))(h1:lo≤E)(h2:lo≤M)(h:MapAt w M l):qR w lo w.heap.size E l:=by
 have hlt:=h.lt;obtain⟨es,clock,h3,h4,h5⟩:=h;refine⟨c0,c1,c2,c3,c4,M,hE,h1,gT hE,h2,hlt,es,clock,h3,h4,λ i hi=>?_⟩;obtain⟨e,he,hv⟩:=h5 i hi;exact⟨e,he,hv.fine (by omega)⟩
def Yo(t:ByteArray)(l:List f_)(w:World)(e:Ending)(w':World):Prop:=
 Below w.heap.size w w'∧if(dW t&&qI l)=true then∃E:Nat,e= .returned (.tuple #[.pointer (some ⟨E,0,none⟩),.bool true])∧qR w' w.heap.size w'.heap.size E l else e= .returned (.tuple #[.pointer none,.bool false])
def Yp(t:ByteArray)(w:World)(e:Ending)(w':World):Prop:=
 ∃(x1:Bool)(A2:Option Addr)(n2 c2:Nat)(x3:Bool)(A4:Option Addr)(n4 c4:Nat),e= .returned (.tuple #[.agg #[.bool x1,.slice A2 n2 c2,.bool x3,.slice A4 n4 c4],.bool (dW t)])∧Below w.heap.size w w'
theorem Sw(t:ByteArray)(hs:t.size≤4000000)(W:World):Calls Tryz.prog 56 #[.string t] W λ e W'=>Yp t W e W':=by
 obtain⟨x1,x2,x3,x4,h1,_⟩:=Ce t hs 100000002 (by omega);refine(bM.calls _ t _ _ _ _ _ W h1).mono λ e W' h=>?_;obtain⟨v2,v4,he,hv2,hv4,hb⟩:=h;obtain⟨A2,c2,e2⟩:=Kd.aY hv2;obtain⟨A4,c4,e4⟩:=Kd.aY hv4;subst e2 e4;exact⟨x1,A2,_,c2,x3,A4,_,c4,he,hb⟩
section
variable {P:Program} {ops:Array Oper} {Q:Exit->Act->World->Prop} {rest:List Oper} {o:Oper} {a:Act}
theorem Qs{W:World}(hgd:o.guard=none){N:Tmp}(_hd:o.dst=some N)(hrun:(execOp a.eval o).run P W= .ok (.value (.map (some W.heap.size))) (W.alloc (.map #[] 0)))
 (h:∀M,M=W.heap.size->∀w1,MapAt w1 M []->Below W.heap.size W w1->wpList P ops Q rest (a.put o.dst (.map (some M))) w1):wpList P ops Q (o::rest) a W:=
 Kd.Ch hgd hrun (h _ rfl _ (MapAt.new W) (fA (Below.refl _ _) _))
end
theorem Qt{l:List f_}{j:Nat}(hj:j<l.length)(hb:(List.range (j+1)).all (jy l)=true):∀y∈l.take j,((bQ l (j:Int)).f0.f0.toList==y.f0.f0.toList&&((bQ l (j:Int)).f0.f1==y.f0.f1&&((bQ l (j:Int)).f0.f2==y.f0.f2)))=false:=by
 have hlt:∀d i,i+d+1≤j->jc (bQ l (i:Int)).f0.f0 (bQ l (i:Int)).f0.f1 (bQ l (i:Int)).f0.f2 (bQ l ((i+d+1:Nat):Int)).f0.f0 (bQ l ((i+d+1:Nat):Int)).f0.f1 (bQ l ((i+d+1:Nat):Int)).f0.f2=true:=by
  intro d;induction d with
  |zero=>
   intro i hi;have h:=List.all_eq_true.1 hb (i+1) (List.mem_range.2 (by omega));rw[EY,Bool.and_eq_true]at h;exact h.2
  |succ d ih=>
   intro i hi;have h:=List.all_eq_true.1 hb (i+d+1+1) (List.mem_range.2 (by omega));rw[EY,Bool.and_eq_true]at h;exact Jb (ih i (by omega)) h.2
 intro y hy;obtain⟨i,hi,rfl⟩:=List.mem_iff_getElem.1 hy;have hij:i<j:=by rw[List.length_take]at hi;omega
 have h:=hlt (j-i-1) i (by omega);rw[show i+(j-i-1)+1=j by omega]at h;have e:bQ l (i:Int)=(l.take j)[i]:=by rw[xw (by omega:i<l.length),List.getElem_take]
 rw[e]at h;rw[Bool.eq_false_iff];intro hc;simp only[Bool.and_eq_true,beq_iff_eq]at hc;obtain⟨h1,h2,h3⟩:=hc;unfold jc at h;rw[if_pos h1.symm,h2,h3]at h;simp at h
theorem MapAt.MR{w w':World}{M:Nat}(h:MapAt w M [])(hh:w'.heap[M]? =w.heap[M]?):MapAt w' M []:=by
 obtain⟨es,clock,h1,h2,_⟩:=h;exact⟨es,clock,hh.trans h1,h2,λ i hi=>by simp at hi⟩
theorem MS{W:World}{g k:Nat}(b0 b1 b2 b3:Value)(hne:k≠g):
 ((((W.setCell ⟨g,0,none⟩ b0).setCell ⟨g,1,none⟩ b1).setCell ⟨g,2,none⟩ b2).setCell ⟨g,3,none⟩ b3).heap[k]? =W.heap[k]? :=
 (Below.heap_setCell _ _ _ _ hne).trans ((Below.heap_setCell _ _ _ _ hne).trans ((Below.heap_setCell _ _ _ _ hne).trans (Below.heap_setCell _ _ _ _ hne)))
theorem Qu{l:List f_}{j:Nat}{x y:f_}{fb z:Bool}(hj:j<l.length)(hJ:(List.range j).all (jy l)=true)(hx:bQ l (j:Int)=x)(hy:bQ l ((j-1:Nat):Int)=y)(hu:ny x.f0.f0 x.f0.f1 x.f0.f2=fb)(hz:decide (0<j)=z):
 ∃r:Int,fb=true->z=true->gZ.f 10 y.f0.f0 y.f0.f1 y.f0.f2 x.f0.f0 x.f0.f1 x.f0.f2=some r∧decide (0≤r)= !jc y.f0.f0 y.f0.f1 y.f0.f2 x.f0.f0 x.f0.f1 x.f0.f2:=by
 have rng:∀q:zI,ny q.f0 q.f1 q.f2=true->0≤q.f1∧q.f1≤6:=λ q h=>by
  unfold ny at h;simp only[Bool.and_eq_true,decide_eq_true_eq]at h;exact⟨h.1.1.2,h.1.2⟩
 by_cases h:fb=true∧z=true
 .obtain⟨rfl,rfl⟩:=h
  have h0:0<j:=of_decide_eq_true hz;have hb:=List.all_eq_true.1 hJ (j-1) (List.mem_range.2 (by omega));unfold jy at hb;rw[hy]at hb;simp only[Bool.and_eq_true]at hb;obtain⟨r,h1,h2⟩:=Sq y.f0.f0 y.f0.f1 y.f0.f2 x.f0.f0 x.f0.f1 x.f0.f2 (rng y.f0 hb.1.1) (rng x.f0 hu) 10 (by omega);exact⟨r,λ _ _=>⟨h1,h2⟩⟩
 .exact⟨0,λ h1 h2=>absurd ⟨h1,h2⟩ h⟩
theorem Qv{l:List f_}{j:Nat}{x y:f_}{v fb z d:Bool}(hx:bQ l (j:Int)=x)(hy:bQ l ((j-1:Nat):Int)=y)(hv:ku x.f1=v)(hu:ny x.f0.f0 x.f0.f1 x.f0.f2=fb)(hz:decide (0<j)=z)
 (hd:v=true->fb=true->z=true->d= !jc y.f0.f0 y.f0.f1 y.f0.f2 x.f0.f0 x.f0.f1 x.f0.f2):(!jy l j)=((!v|| !fb)||(z&&d)):=by
 unfold jy;rw[hx,hy,hv,hu,show decide (j=0)= !z by rw[<-hz,<-decide_not];apply decide_eq_decide.2;omega];cases v<;>cases fb<;>cases z<;>simp at hd|-
 rw[hd];simp
theorem Qw{l:List f_}{j:Nat}(hj:j<l.length)(h:jy l j=false){t:Bool}:(t&&qI l)=false:=by
 have:qI l=false:=by
  unfold qI;rw[Bool.eq_false_iff];intro h2;have:=List.all_eq_true.1 h2 j (List.mem_range.2 hj);rw[h]at this;cases this
 rw[this,Bool.and_false]
theorem Sy{W:World}{g t:Nat}{a0 a1 a2 a3 a4 a5:Value}(b0 b1 b2 b3 b4 b5:Value)(h:W.heap[g]? =some (.cells #[a0,a1,a2,a3,a4,a5] t (0,0))):
 ((((((W.setCell ⟨g,0,none⟩ b0).setCell ⟨g,1,none⟩ b1).setCell ⟨g,2,none⟩ b2).setCell ⟨g,3,none⟩ b3).setCell ⟨g,4,none⟩ b4).setCell ⟨g,5,none⟩ b5).heap[g]? =some (.cells #[b0,b1,b2,b3,b4,b5] t (0,0)):=
 eB (cs:= #[b0,b1,b2,b3,b4,a5]) (eB (cs:= #[b0,b1,b2,b3,a4,a5]) (eB (cs:= #[b0,b1,b2,a3,a4,a5]) (eB (cs:= #[b0,b1,a2,a3,a4,a5]) (eB (cs:= #[b0,a1,a2,a3,a4,a5]) (eB (cs:= #[a0,a1,a2,a3,a4,a5]) h 0 _ rfl) 1 _ rfl) 2 _ rfl) 3 _ rfl) 4 _ rfl) 5 _ rfl
theorem Qx{l:List f_}{j:Nat}{x:f_}(h:jy l j=true)(hx:bQ l (j:Int)=x):ku x.f1=true:=by
 unfold jy at h;rw[hx]at h;simp only[Bool.and_eq_true]at h;exact h.1.2
theorem MapAt.ne{w:World}{M g t:Nat}{cs:Array Value}{l:List f_}(h:MapAt w M l)(hg:w.heap[g]? =some (.cells cs t (0,0))):g≠M:=by
 rintro rfl;obtain⟨es,clock,h1,_⟩:=h;rw[hg]at h1;cases h1
theorem Ej{W:World}{g k t:Nat}{cs:Array Value}(b0 b1 b2 b3:Value)(h:W.heap[k]? =some (.cells cs t (0,0)))(hne:k≠g):
 ((((W.setCell ⟨g,0,none⟩ b0).setCell ⟨g,1,none⟩ b1).setCell ⟨g,2,none⟩ b2).setCell ⟨g,3,none⟩ b3).heap[k]? =some (.cells cs t (0,0)):=
 jK (jK (jK (jK h hne _) hne _) hne _) hne _
set_option maxHeartbeats 40000000 in
set_option maxRecDepth 100000 in
theorem FI(t:ByteArray)(b:Bool)(A:Option Addr)(c:Nat)(l:List f_)(w:World)(hC:Kd.C nG w A l.length l)(hc:l.length≤c)(hz:BP t l)(hl:l.length≤1000):
 Calls Tryz.prog 67 #[.agg #[.string t,.bool b,.slice A l.length c]] w λ e w'=>Yo t l w e w':=by
 have hu31:=Tryz.underlying31;have hu87:=Tryz.underlying87;have hu66:=Tryz.underlying66;have hu68:=Tryz.underlying68;have hu56:=Tryz.underlying56;have HC:=ah.mk hC;have b2:=Lib.hid hz;clear hC hz;go_enter Tryz.func67,Tryz.ntmps67;obtain⟨nb,hnb⟩:∃nb,dW t=nb:=⟨_,rfl⟩;have al:=Lib.hid hnb;have b3:=Lib.hid b2.out.1;clear hnb
 go_upto_region 3 with(first|((with_reducible refine gd 1 rfl ?_);refine bx #[.string t,.bool b,.slice A l.length c] 31 ?_;intro gb hg w1 s hb;have HB:=ah.mk hb;have GEb:=ah.mk (show w.heap.size≤gb from Nat.le_of_eq hg.symm);have hc0:=(aj s.out 0).trans rfl;have hc1:=(aj s.out 1).trans rfl;have hc2:=(aj s.out 2).trans rfl;clear hb hg)|((with_reducible refine gV (N:=13) rfl ?_);refine Qs ?hg (N:=13) ?hd ?hr ?_;(case hd=>rfl);(case hg=>rfl);(case hr=>first|(go_simp;done)|(go_simp;rfl)|rfl);intro M hg w2 hma hb;have J:=kh hb;have L:=kb s hb;have MA:=ah.mk hma;have ay:=ah.mk (show w.heap.size≤M by rw[hg];exact HB.out.size);clear HB s hb hma hg hc0 hc1 hc2;have HB:=J;have s:=L;clear J L)|((with_reducible refine gd 15 rfl ?_);refine bx #[.bool false,.slice none 0 0,.bool false,.slice none 0 0,.bool b,.map (some M)] 87 ?_;intro gE hg w3 I hb;have J:=kh hb;have L:=kb s hb;have O:=ah.mk (MA.out.below hb);have az:=ah.mk (show w.heap.size≤gE by rw[hg];exact HB.out.size);have aB:=ah.mk (show gb≠gE by rw[hg];exact Nat.ne_of_lt (gT s.out));have b4:=ah.mk (show M≠gE by rw[hg];exact Nat.ne_of_lt MA.out.lt);clear HB s MA hb hg;have HB:=J;have s:=L;have MA:=O;clear J L O;have hc0:=(aj s.out 0).trans rfl;have hc1:=(aj s.out 1).trans rfl;have hc2:=(aj s.out 2).trans rfl)|(go_at_call 56;refine(Sw _ b3.out _).mono ?_;rintro e w4 ⟨y1,y2,y3,y4,Z,y6,aa,ab,rfl,hb⟩;rw[al.out];replace HB:=kh hb;replace s:=kb s hb;replace MA:=ah.mk (MA.out.below hb);replace I:=kb I hb;clear hb hc0 hc1 hc2)|((with_reducible refine gd 5 rfl ?_);refine bx #[.bool false,.slice none 0 0,.bool false,.slice none 0 0] 66 ?_;intro g5 hg w5 T hb;have J:=kh hb;have L:=kb s hb;have O:=ah.mk (MA.out.below hb);have U:=kb I hb;have aD:=ah.mk (show w.heap.size≤g5 by rw[hg];exact HB.out.size);have am:=ah.mk (show gb≠g5 by rw[hg];exact Nat.ne_of_lt (gT s.out));have an:=ah.mk (show gE≠g5 by rw[hg];exact Nat.ne_of_lt (gT I.out));have ao:=ah.mk (show M<g5 by rw[hg];exact MA.out.lt);clear HB s MA I hb hg;have HB:=J;have s:=L;have MA:=O;have I:=U;clear J L O U;have hc0:=(aj T.out 0).trans rfl;have hc1:=(aj T.out 1).trans rfl;have hc2:=(aj T.out 2).trans rfl;have hc3:=(aj T.out 3).trans rfl;have hf0:=aI T.out 0;have hf1:=aI T.out 1;have hf2:=aI T.out 2;have hf3:=aI T.out 3))
 have J:=ah.mk (Ej (.bool y1) (.slice y2 y3 y4) (.bool Z) (.slice y6 aa ab) s.out am.out);have L:=ah.mk (Ej (.bool y1) (.slice y2 y3 y4) (.bool Z) (.slice y6 aa ab) I.out an.out);have O:=ah.mk (wW (.bool y1) (.slice y2 y3 y4) (.bool Z) (.slice y6 aa ab) T.out);have U:=ah.mk (jg (.bool y1) (.slice y2 y3 y4) (.bool Z) (.slice y6 aa ab) HB.out aD.out);have ac:=ah.mk (MA.out.MR (w':=((((w5.setCell ⟨g5,0,none⟩ (.bool y1)).setCell ⟨g5,1,none⟩ (.slice y2 y3 y4)).setCell ⟨g5,2,none⟩ (.bool Z)).setCell ⟨g5,3,none⟩ (.slice y6 aa ab))) (MS _ _ _ _ (Nat.ne_of_lt ao.out)));clear s I T HB MA hc0 hc1 hc2 hc3 hf0 hf1 hf2 hf3;generalize ((((w5.setCell _ _).setCell _ _).setCell _ _).setCell _ _)=w6 at J L O U ac|-
 have s:=J;have I:=L;have T:=O;have HB:=U;have MA:=ac;clear J L O U ac;cases nb with
 |false=>
  go_wp2;go_ret2;exact⟨HB.out,by rw[if_neg (by rw[al.out];simp)];rfl⟩
 |true=>
  have hc0:=(aj T.out 0).trans rfl;have hc1:=(aj T.out 1).trans rfl;have hc2:=(aj T.out 2).trans rfl;have hc3:=(aj T.out 3).trans rfl;have he0:=(aj I.out 0).trans rfl;have he1:=(aj I.out 1).trans rfl;have he2:=(aj I.out 2).trans rfl;have b5:=(aj I.out 3).trans rfl;have hf0:=aI I.out 0;have hf1:=aI I.out 1;have hf2:=aI I.out 2;have hf3:=aI I.out 3;have hb2:=(aj s.out 2).trans rfl;have b6:=aB.out;go_wp2;have J:=ah.mk (Ej (.bool y1) (.slice y2 y3 y4) (.bool Z) (.slice y6 aa ab) s.out aB.out);have L:=ah.mk (show((((w6.setCell ⟨gE,0,none⟩ (.bool y1)).setCell ⟨gE,1,none⟩ (.slice y2 y3 y4)).setCell ⟨gE,2,none⟩ (.bool Z)).setCell ⟨gE,3,none⟩ (.slice y6 aa ab)).heap[gE]? =some (.cells #[.bool y1,.slice y2 y3 y4,.bool Z,.slice y6 aa ab,.bool b,.map (some M)] 87 (0,0))from
   eB (cs:= #[.bool y1,.slice y2 y3 y4,.bool Z,.slice none 0 0,.bool b,.map (some M)]) (eB (cs:= #[.bool y1,.slice y2 y3 y4,.bool false,.slice none 0 0,.bool b,.map (some M)]) (eB (cs:= #[.bool y1,.slice none 0 0,.bool false,.slice none 0 0,.bool b,.map (some M)]) (eB I.out 0 _ rfl) 1 _ rfl) 2 _ rfl) 3 _ rfl)
  have U:=ah.mk (jg (.bool y1) (.slice y2 y3 y4) (.bool Z) (.slice y6 aa ab) HB.out az.out);have ac:=ah.mk (MA.out.MR (w':=((((w6.setCell ⟨gE,0,none⟩ (.bool y1)).setCell ⟨gE,1,none⟩ (.slice y2 y3 y4)).setCell ⟨gE,2,none⟩ (.bool Z)).setCell ⟨gE,3,none⟩ (.slice y6 aa ab))) (MS _ _ _ _ b4.out));clear s I T HB MA hc0 hc1 hc2 hc3 hf0 hf1 hf2 hf3 he0 he1 he2 b5 hb2 b6 aD am an ao;generalize ((((w6.setCell _ _).setCell _ _).setCell _ _).setCell _ _)=w8 at J L U ac|-
  go_loopw [31] (λ i wr=>∃j:Nat,j≤l.length∧i= .int .i64 j∧ah ((List.range j).all (jy l)=true)∧ah (Below w.heap.size w wr)∧ah (wr.heap[gb]? =some (.cells #[.string t,.bool b,.slice A l.length c] 31 (0,0)))∧ah (wr.heap[gE]? =some (.cells #[.bool y1,.slice y2 y3 y4,.bool Z,.slice y6 aa ab,.bool b,.map (some M)] 87 (0,0)))∧ah (MapAt wr M (l.take j))) (λ i _=>l.length-(RowKit.intOf i).toNat)
  case atStart=>exact⟨0,Nat.zero_le _,rfl,⟨rfl⟩,U,J,L,ac⟩
  case round=>
   clear J L U ac;obtain⟨j,hj,rfl,HJ,HB,s,I,MA⟩:=hrel;by_cases hlt:j<l.length
   .obtain⟨ad,hA,hx0,hx1,hx2,hx3⟩:=xA HC.out j (Int.natCast_nonneg j) (by omega)
    rw[Int.toNat_natCast]at hx0 hx1 hx2 hx3;subst hA;replace hx0:=au HB.out hx0;replace hx1:=au HB.out hx1;replace hx2:=au HB.out hx2;replace hx3:=au HB.out hx3;obtain⟨x,hx⟩:∃x,bQ l (j:Int)=x:=⟨_,rfl⟩;rw[hx]at hx0 hx1 hx2 hx3;have HX:=Lib.hid hx;clear hx;have b7:=Lib.hid (show x.f1.size≤4000000 by have:=(b2.out.2 l[j] (List.getElem_mem _)).1;rw[<-xw hlt,HX.out]at this;exact this);obtain⟨v,hv⟩:∃v,ku x.f1=v:=⟨_,rfl⟩;have bS:=Lib.hid hv;clear hv;have b1:decide (j<l.length)=true:=decide_eq_true hlt;have p1:((0:Int)≤(j:Int))=True:=eq_true (by omega);have q1:((j:Int)<(l.length:Int))=True:=eq_true (by omega);have HR:=ah.mk (Below.refl wr.heap.size wr)
    go_upto_region 10 with(first|((with_reducible refine gd 8 rfl ?_);refine bx #[.string (⟨#[]⟩:ByteArray),.int .i64 0,.bool false,.string (⟨#[]⟩:ByteArray)] 56 ?_;intro g8 hg w1 D hb;have ap:=ah.mk (show wr.heap.size≤g8 from Nat.le_of_eq hg.symm);replace hx0:=au hb hx0;replace hx1:=au hb hx1;replace hx2:=au hb hx2;replace hx3:=au hb hx3;clear HR hg;have HR:=ah.mk hb;clear hb;have hc0:=(aj D.out 0).trans rfl;have hc1:=(aj D.out 1).trans rfl;have hc2:=(aj D.out 2).trans rfl;have hc3:=(aj D.out 3).trans rfl;have hf0:=aI D.out 0;have hf1:=aI D.out 1;have hf2:=aI D.out 2;have hf3:=aI D.out 3)|(go_at_call 15;refine(IK _ b7.out _).mono ?_;rintro e ae ⟨z1,z2,z3,z4,z5,z6,z7,af,z9,Y,rfl,aq,hb⟩;rw[bS.out]at aq|-;have ch:=ah.mk aq;have VS:=ah.mk (show wr.heap.size≤(((((w1.setCell ⟨g8,0,none⟩ (.string x.f0.f0)).setCell ⟨g8,1,none⟩ (.int .i64 x.f0.f1)).setCell ⟨g8,2,none⟩ (.bool x.f0.f2)).setCell ⟨g8,3,none⟩ (.string x.f1))).heap.size from(jg _ _ _ _ HR.out ap.out).size);have X:=ah.mk (Below.refl ae.heap.size ae);replace D:=ah.mk (bY (wW (.string x.f0.f0) (.int .i64 x.f0.f1) (.bool x.f0.f2) (.string x.f1) D.out) hb);replace HR:=ah.mk (aU (jg (.string x.f0.f0) (.int .i64 x.f0.f1) (.bool x.f0.f2) (.string x.f1) HR.out ap.out) hb);clear hb aq hx0 hx1 hx2 hx3 hc0 hc1 hc2 hc3 hf0 hf1 hf2 hf3)|((with_reducible refine gV (N:=9) rfl ?_);refine rA ?hg (N:=9) ?hd (cs:= #[.bool false,.slice none 0 0,.bool false,.slice none 0 0,.bool false,.bool false]) (t:=68) ?hr ?_;(case hd=>rfl);(case hg=>rfl);(case hr=>first|(go_simp;done)|(go_simp;rfl));intro g9 hg b8 ar hb;have J:=ah.mk (aU HR.out hb);have L:=kb D hb;have O:=ah.mk (aU X.out hb);have E:=ah.mk ar;have aE:=ah.mk (show wr.heap.size≤g9 by rw[hg];exact HR.out.size);have aF:=ah.mk (show ae.heap.size≤g9 by rw[hg];exact X.out.size);have aL:=ah.mk (show g8≠g9 by rw[hg];exact Nat.ne_of_lt (gT D.out));clear D HR X hb ar hg;have HR:=J;have D:=L;have X:=O;clear J L O;have hc0:=(aj E.out 0).trans rfl;have hc1:=(aj E.out 1).trans rfl;have hc2:=(aj E.out 2).trans rfl;have hc3:=(aj E.out 3).trans rfl;have hc4:=(aj E.out 4).trans rfl;have b9:=(aj E.out 5).trans rfl;have hf0:=aI E.out 0;have hf1:=aI E.out 1;have hf2:=aI E.out 2;have hf3:=aI E.out 3;have ca:=aI E.out 4;have cb:=aI E.out 5))
    have J:=ah.mk (KL (.bool z1) (.slice z2 z3 z4) (.bool z5) (.slice z6 z7 af) (.bool z9) (.bool Y) D.out aL.out);have L:=ah.mk (Sy (.bool z1) (.slice z2 z3 z4) (.bool z5) (.slice z6 z7 af) (.bool z9) (.bool Y) E.out);have O:=ah.mk (Az (.bool z1) (.slice z2 z3 z4) (.bool z5) (.slice z6 z7 af) (.bool z9) (.bool Y) HR.out aE.out);have U:=ah.mk (Az (.bool z1) (.slice z2 z3 z4) (.bool z5) (.slice z6 z7 af) (.bool z9) (.bool Y) X.out aF.out);clear D E HR X ap aE aF aL hc0 hc1 hc2 hc3 hc4 b9 hf0 hf1 hf2 hf3 ca cb;generalize ((((((b8.setCell _ _).setCell _ _).setCell _ _).setCell _ _).setCell _ _).setCell _ _)=w7 at J L O U|-
    have D:=J;have E:=L;have HR:=O;have X:=U;clear J L O U
    go_upto_if 66 with fail
    go_cut [66] (λ q w'=>q= .bool (!jy l j)∧ah (w'.heap[g8]? =some (.cells #[.string x.f0.f0,.int .i64 x.f0.f1,.bool x.f0.f2,.string x.f1] 56 (0,0)))∧ah (w'.heap[g9]? =some (.cells #[.bool z1,.slice z2 z3 z4,.bool z5,.slice z6 z7 af,.bool z9,.bool Y] 68 (0,0)))∧ah (Below wr.heap.size wr w')∧ah (Below ae.heap.size ae w'))
    case first=>
     have D:ah (w7.drew.heap[g8]? =some (.cells #[.string x.f0.f0,.int .i64 x.f0.f1,.bool x.f0.f2,.string x.f1] 56 (0,0))):=⟨D.out⟩;have E:ah (w7.drew.heap[g9]? =some (.cells #[.bool z1,.slice z2 z3 z4,.bool z5,.slice z6 z7 af,.bool z9,.bool Y] 68 (0,0))):=⟨E.out⟩;have HR:ah (Below wr.heap.size wr w7.drew):=⟨b_ HR.out⟩;have X:ah (Below ae.heap.size ae w7.drew):=⟨b_ X.out⟩;obtain⟨fb,hu⟩:∃fb,ny x.f0.f0 x.f0.f1 x.f0.f2=fb:=⟨_,rfl⟩;obtain⟨z,hz⟩:∃z,decide (0<j)=z:=⟨_,rfl⟩;obtain⟨y,hy⟩:∃y,bQ l ((j-1:Nat):Int)=y:=⟨_,rfl⟩;have hx':=HX.out;obtain⟨r,hr⟩:=Qu hlt HJ.out hx' hy hu hz;have cc:=Lib.hid (Qv (l:=l) (j:=j) hx' hy bS.out hu hz (λ _ h1 h2=>(hr h1 h2).2));have HL:=Lib.hid (show v=true->fb=true->z=true->gZ.f 10 y.f0.f0 y.f0.f1 y.f0.f2 x.f0.f0 x.f0.f1 x.f0.f2=some r from λ _ h1 h2=>(hr h1 h2).1);have hpr:z=true->w7.drew.cell? (ad.add ((j-1)*4))=some (.string y.f0.f0)∧w7.drew.cell? ⟨(ad.add ((j-1)*4)).block,(ad.add ((j-1)*4)).off+1,none⟩=some (.int .i64 y.f0.f1)∧w7.drew.cell? ⟨(ad.add ((j-1)*4)).block,(ad.add ((j-1)*4)).off+2,none⟩=some (.bool y.f0.f2):=λ _=>by
      obtain⟨ad2,hA2,k0,k1,k2,_⟩:=xA HC.out ((j-1:Nat):Int) (Int.natCast_nonneg _) (by omega);rw[Int.toNat_natCast]at k0 k1 k2;injection hA2 with hA2;subst hA2;rw[hy]at k0 k1 k2;exact⟨au HR.out (au HB.out k0),au HR.out (au HB.out k1),au HR.out (au HB.out k2)⟩
     have hx0:w7.drew.cell? ⟨g8,0,none⟩=some (.string x.f0.f0):=(aj D.out 0).trans rfl;have hx1:w7.drew.cell? ⟨g8,1,none⟩=some (.int .i64 x.f0.f1):=(aj D.out 1).trans rfl;have hx2:w7.drew.cell? ⟨g8,2,none⟩=some (.bool x.f0.f2):=(aj D.out 2).trans rfl;have hsl:w7.drew.cell? ⟨gb,2,none⟩=some (.slice (some ad) l.length c):=(aj (bY s.out HR.out) 2).trans rfl;refine iW (F:=MP g8 gb x y ad l.length c j r v fb z (decide (0≤r))) (by kernel_rfl) (by kernel_rfl) (λ w w' j u _ h=>h) (UK g8 gb x y ad l.length c j r v fb z _ (Lib.hid hu) hz rfl (λ h=>by subst h;have:=of_decide_eq_true hz;rw[IntKind.wrap_i64];omega) (λ h=>by omega) HL _ hx0 hx1 hx2 hsl hpr _ rfl rfl rfl rfl) ?_;clear hx' hy hu hr hpr hx0 hx1 hx2 hsl;intro a w' hF ha hb;have aO:_=_:=hF 0 _ 42 rfl rfl;have aP:_=_:=hF 1 _ 43 rfl rfl;have aR:_=_:=hF 2 _ 44 rfl rfl;have aS:_=_:=hF 3 _ 45 rfl rfl;have a0:_=_:=hF 4 _ 46 rfl rfl;have a1:_=_:=hF 5 _ 47 rfl rfl;have a2:_=_:=hF 6 _ 48 rfl rfl;have a3:_=_:=hF 7 _ 49 rfl rfl;have a4:_=_:=hF 8 _ 50 rfl rfl;have a5:_=_:=hF 9 _ 51 rfl rfl;have a6:_=_:=hF 10 _ 52 rfl rfl;have a7:_=_:=hF 11 _ 53 rfl rfl;have a8:_=_:=hF 12 _ 54 rfl rfl;have a9:_=_:=hF 13 _ 55 rfl rfl;have nG:_=_:=hF 14 _ 56 rfl rfl;have ba:_=_:=hF 15 _ 57 rfl rfl;have bb:_=_:=hF 16 _ 58 rfl rfl;have bc:_=_:=hF 17 _ 59 rfl rfl;have bd:_=_:=hF 18 _ 60 rfl rfl;have be:_=_:=hF 19 _ 61 rfl rfl;have bh:_=_:=hF 20 _ 62 rfl rfl;have bj:_=_:=hF 21 _ 63 rfl rfl;have bk:_=_:=hF 22 _ 64 rfl rfl;have bl:_=_:=hF 23 _ 65 rfl rfl;have bm:_=_:=hF 24 _ 66 rfl rfl;simp only[eU,List.foldl_cons,List.foldl_nil,aO,aP,aR,aS,a0,a1,a2,a3,a4,a5,a6,a7,a8,a9,nG,ba,bb,bc,bd,be,bh,bj,bk,bl,bm]at ha;clear hF aO aP aR aS a0 a1 a2 a3 a4 a5 a6 a7 a8 a9 nG ba bb bc bd be bh bj bk bl bm;subst ha;simp only[Act.put,List.setIfInBounds_toArray,List.set_cons_zero,List.set_cons_succ];go_wp2;go_meet
     case rel=>exact⟨by rw[cc.out],⟨bY D.out hb⟩,⟨bY E.out hb⟩,⟨aU HR.out hb⟩,⟨aU X.out hb⟩⟩
    case rest=>
     obtain⟨rfl,D,E,HR,X⟩:=hcut;have HB2:=ah.mk (aU HB.out HR.out);cases hbd:jy l j with
     |false=>
      have ag:=Lib.hid hbd;clear hbd;go_wp2;go_ret2;exact⟨HB2.out,by rw[if_neg (by rw[Qw hlt ag.out];simp)];rfl⟩
     |true=>
      have ag:=Lib.hid hbd;clear hbd;go_wp2;have HJ2:=ah.mk (show(List.range (j+1)).all (jy l)=true by rw[List.range_succ,List.all_append,HJ.out];simp[ag.out]);have cd:=Lib.hid (Qt hlt HJ2.out);have ce:=Lib.hid (show v=true by have:=Qx ag.out HX.out;rw[bS.out]at this;exact this);have hm:wc.drew.cell? ⟨gE,5,none⟩=some (.map (some M)):=(aj (bY I.out (b_ HR.out)) 5).trans rfl;have hx0:wc.drew.cell? ⟨g8,0,none⟩=some (.string x.f0.f0):=(aj D.out 0).trans rfl;have hx1:wc.drew.cell? ⟨g8,1,none⟩=some (.int .i64 x.f0.f1):=(aj D.out 1).trans rfl;have hx2:wc.drew.cell? ⟨g8,2,none⟩=some (.bool x.f0.f2):=(aj D.out 2).trans rfl;refine xk (F:=MQ g8 g9 gE M x (.bool z1) (.slice z2 z3 z4) (.bool z5) (.slice z6 z7 af) (.bool z9) (.bool Y)) 7 _ (by kernel_rfl) (by kernel_rfl) rfl (by kernel_rfl) rfl (λ w w' j u _ h=>h)
       (UL g8 g9 gE M x (.bool z1) (.slice z2 z3 z4) (.bool z5) (.slice z6 z7 af) (.bool z9) (.bool Y) _ hx0 hx1 hx2 ((aj E.out 0).trans rfl) ((aj E.out 1).trans rfl) ((aj E.out 2).trans rfl) ((aj E.out 3).trans rfl) ((aj E.out 4).trans rfl) ((aj E.out 5).trans rfl) hm _ rfl rfl rfl) ?_
      clear hm hx0 hx1 hx2;intro a w' hF ha hb;have bo:_=_:=hF 0 _ 67 (by decide) rfl rfl;have bp:_=_:=hF 1 _ 68 (by decide) rfl rfl;have br:_=_:=hF 2 _ 69 (by decide) rfl rfl;have bs:_=_:=hF 3 _ 70 (by decide) rfl rfl;have bt:_=_:=hF 4 _ 71 (by decide) rfl rfl;have bu:_=_:=hF 5 _ 72 (by decide) rfl rfl;have bv:_=_:=hF 6 _ 73 (by decide) rfl rfl;simp only[eU,List.take_succ_cons,List.take_zero,List.foldl_cons,List.foldl_nil,bo,bp,br,bs,bt,bu,bv]at ha;clear hF bo bp br bs bt bu bv;subst ha;simp only[Act.put,List.setIfInBounds_toArray,List.set_cons_zero,List.set_cons_succ];have HR3:=ah.mk (aU (b_ HR.out) hb);have cg:=ah.mk (aU (b_ X.out) hb);have HB3:=ah.mk (aU HB.out HR3.out);have av:=ah.mk (MA.out.below HR3.out);have bw:M+1≤wr.heap.size:=MA.out.lt;obtain⟨o,hrun,bz⟩:=av.out.put x (.agg #[.bool z1,.slice z2 z3 z4,.bool z5,.slice z6 z7 af,.bool z9,.bool Y]) ⟨z1,z2,z3,z4,z5,z6,z7,af,z9,Y,rfl,(ch.out ce.out).step (Nat.le_trans bw VS.out) (λ k _ hk=>cg.out.block k hk)⟩ (by have:=cd.out;rw[HX.out]at this;exact this);have b0:=Lib.hid hrun;have bE:=ah.mk (show MapAt (mP w' M o) M (l.take (j+1)) by rw[List.take_succ_eq_append_getElem hlt,<-xw hlt,HX.out];exact bz);have aw:=ah.mk (show(mP w' M o).heap[gb]? =some (.cells #[.string t,.bool b,.slice (some ad) l.length c] 31 (0,0))from(vg (MapAt.ne av.out (bY s.out HR3.out))).trans (bY s.out HR3.out));have ax:=ah.mk (show(mP w' M o).heap[gE]? =some (.cells #[.bool y1,.slice y2 y3 y4,.bool Z,.slice y6 aa ab,.bool b,.map (some M)] 87 (0,0))from(vg (MapAt.ne av.out (bY I.out HR3.out))).trans (bY I.out HR3.out));have bI:=ah.mk (KM (o:=o) HB3.out ay.out);clear hrun bz bw hb;refine PU (w1:=mP w' M o) rfl ?_ rfl ?_
      .simp only[execOp,V5]
       go_simp;have e_:(Instr.mapUpdate 85 (.map (some M)) (.agg #[.string x.f0.f0,.int .i64 x.f0.f1,.bool x.f0.f2]) (.agg #[.bool z1,.slice z2 z3 z4,.bool z5,.slice z6 z7 af,.bool z9,.bool Y])).run Tryz.prog w'= .ok () (mP w' M o):=b0.out;rw[e_];rfl
      .generalize mP w' M o=w9 at bE aw ax bI|-
       go_wp2;go_roundw
       case rel=>exact⟨j+1,by omega,by go_num,HJ2,bI,aw,ax,bE⟩
       case measure=>simp[RowKit.intOf];omega
   .obtain rfl:j=l.length:=by omega
    have b1:decide (l.length<l.length)=false:=decide_eq_false (by omega);go_wp2;go_ret2;refine⟨HB.out,?_⟩;rw[if_pos (by rw[al.out];unfold qI;rw[HJ.out];rfl)];exact⟨gE,rfl,MapAt.fine I.out az.out ay.out (by have:=MA.out;rwa[List.take_length]at this)⟩
end Go.Proofs.Ct.Q
end
