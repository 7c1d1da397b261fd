/- Part of the proof of CheckTexts (see the last text). -/
import Derived.LoopIn
import Derived.LoopNIn
import Derived.OwnWalkIn
import Derived.RangeFuncBound
import Derived.RangeFuncBox
import Derived.RangeFuncCalls
import Derived.RangeFuncLeaves
import Derived.RangeFuncNested
import Derived.Shelf.Abstract
import Derived.Shelf.RegionOpen
import Derived.TacticsInMore
import Derived.Test.YtcclielbggpoaaaGreatDoorA04
set_option linter.all false
section
namespace Go.Proofs.Ct.Q
open Go.Shelf Go.RowKit Go.Proofs.aA.ak Go.Proofs.aA.aC Go.Proofs.aA.aG Go.Proofs.bO
attribute [local go_sem] Oper.semAt_some
def upto{α:Type}(f:Nat->α)(k:Nat):List α:=(List.range k).map f
theorem BX{α:Type}(f:Nat->α)(k:Nat):upto f (k+1)=upto f k++[f k]:=by simp[upto,List.range_succ]
theorem DC{α:Type}(f:Nat->α)(k:Nat):(upto f k).length=k:=by simp[upto]
def Qe(l:List Int)(k:Nat):Nat×Int:=(l.length-1-k,rd l ((l.length-1-k:Nat):Int))
abbrev PW:={x:Nat×Int//0≤x.2∧x.2<1000000000}
theorem Wp{l:List Int}(h:inr 1000000000 l)(i:Int):0≤rd l i∧rd l i<1000000000:=by
 unfold rd;rw[List.getD_eq_getElem?_getD];rcases h_:l[i.toNat]? with _|v
 .simp
 .exact h v (List.mem_of_getElem? h_)
def m_(l:List Int)(h:inr 1000000000 l)(k:Nat):PW:=⟨Qe l k,Wp h _⟩
def yC(n₀ b:Nat)(W W':World):Prop:=Below n₀ W W'∧W'.heap[b]? =W.heap[b]?
theorem yC.refl(n₀ b:Nat)(W:World):yC n₀ b W W:=⟨Below.refl _ _,rfl⟩
theorem yC.trans{n₀ b:Nat}{A B C:World}(h:yC n₀ b A B)(k:yC n₀ b B C):yC n₀ b A C:=⟨h.1.trans k.1,k.2.trans h.2⟩
theorem yC.cell{n₀ b:Nat}{A B:World}(h:yC n₀ b A B)(j:Nat):B.cell? ⟨b,j,none⟩=A.cell? ⟨b,j,none⟩:=by simp[World.cell?,h.2]
set_option maxRecDepth 100000 in
set_option maxHeartbeats 2000000 in
theorem R_(F:Fence)(n:Nat)(h8:F.fn 330)(hro:F.round=none)(hn:1≤n)(l Bs n₀:Nat)(m:Bool)(A:Option Addr)(c:Nat)(zs:List Int)(hzs:inr 1000000000 zs)(hlen:zs.length<4611686018427387904)(J Jx:List PW->World->Prop)
 (hY:∀pre x W,J pre W->pre.length<zs.length->YieldAt F (n-1) Tryz.prog l #[.int .i64 (x.1.1:Int),.int .u32 x.1.2] W λ e W'=>
 (e= .returned (.bool true)∧J (pre++[x]) W'∧yC n₀ Bs W W')∨(e= .returned (.bool false)∧Jx (pre++[x]) W'))
 (W:World)(s:W.cell? ⟨Bs,1,none⟩=some (.slice A zs.length c))(hc:∀i:Int,0≤i->i<(zs.length:Int)->∃ad,A=some ad∧ad.block<n₀∧W.cell? (ad.add i.toNat)=some (.int .u32 (rd zs i)))(h0:J [] W):
 CallsIn F n Tryz.prog 330 #[.func (.yield l) #[] #[],.pointer (some ⟨Bs,0,none⟩)] W λ e W'=>(∃v,e= .returned v)∧
 ((∃ys,ys=upto (m_ zs hzs) zs.length∧J ys W')∨(∃pre,(∃k,k≤zs.length∧pre=upto (m_ zs hzs) k)∧Jx pre W')):=by
 refine callsIn_of_wp Tryz.func330 rfl h8 ?_ hro;simp only[Tryz.ntmps330,List.size_toArray,List.length_cons,List.length_nil,Nat.reduceAdd,Nat.reduceSub,Array.replicate_succ,Array.replicate_zero,List.push_toArray,List.append_toArray,List.nil_append,List.cons_append];have hadd:(⟨Bs,0,none⟩:Addr).add 1=⟨Bs,1,none⟩:=rfl;gi_wp2;gi_loopw [3] (λ i wr=>∃k:Nat,k≤zs.length∧i= .int .i64 ((zs.length:Int)-1-(k:Int))∧J (upto (m_ zs hzs) k) wr∧yC n₀ Bs W wr)
  (λ i _=>(intOf i+1).toNat)
 case atStart=>exact⟨0,Nat.zero_le _,by simp,h0,yC.refl _ _ _⟩
 case round=>
  obtain⟨k,hk,rfl,hJs,hnx⟩:=hrel;have hBs':wr.cell? ⟨Bs,1,none⟩=some (.slice A zs.length c):=(hnx.cell 1).trans s;by_cases hlt:k<zs.length
  .obtain⟨fn,tmps,assign,body,hy,hR⟩:=hY _ (m_ zs hzs k) wr hJs (by rw[DC];exact hlt)
   obtain⟨idx,hidx⟩:∃idx:Nat,idx=zs.length-1-k:=⟨_,rfl⟩;have hidx2:(zs.length:Int)-1-(k:Int)=(idx:Int):=by omega
   have hle:idx<zs.length:=by omega
   obtain⟨ad,rfl,hab,hcell⟩:=hc (idx:Int) (by omega) (by omega);have hcell':wr.cell? (ad.add idx)=some (.int .u32 (rd zs idx)):=by
    have h_:=(hnx.1.cell (p:=ad.add (idx:Int).toNat) (by rw[show(ad.add (idx:Int).toNat).block=ad.block from by unfold Addr.add;split<;>rfl];exact hab)).trans hcell;simpa using h_
   have hy2:(m_ zs hzs k).1=(idx,rd zs (idx:Int)):=by unfold m_ Qe;dsimp only;rw[<-hidx]
   rw[hy2]at hy;rw[hidx2];dsimp only at hy;have HI:=Lib.hid hidx2;have HY2:=Lib.hid hy2;clear hidx hidx2 hy2 hcell hc s h0;gi_wp2;refine hR.mono ?_;rintro e W3 (⟨rfl,hJ3,hk3⟩|⟨rfl,hJx3⟩)
   .gi_wp2
    go_roundw
    case rel=>exact⟨k+1,by omega,by have:=HI.out;congr 1<;>omega,by rw[BX];exact hJ3,hnx.trans hk3⟩
    case measure=>simp[intOf]
   .gi_wp2
    refine bodyPost_ret (results_none rfl _ _ _) rfl ?_;exact⟨⟨_,rfl⟩,.inr ⟨_,⟨k+1,by omega,(BX _ _).symm⟩,hJx3⟩⟩
  .obtain rfl:k=zs.length:=by omega
   have hm:(zs.length:Int)-1-(zs.length:Int)= -1:=by omega
   rw[hm];gi_wp2;go_end0;exact⟨⟨_,rfl⟩,.inl ⟨_,rfl,hJs⟩⟩
set_option maxHeartbeats 1000000 in
theorem UE(F:Fence)(n:Nat)(h6:F.fn 245)(hro:F.round=none)(m:Bool)(A:Option Addr)(len c:Nat)(w:World):
 CallsIn F n Tryz.prog 245 #[.agg #[.bool m,.slice A len c]] w λ e w'=>e= .returned (.func (.func 330) #[] #[.pointer (some ⟨w.heap.size,0,none⟩)])∧w'=w.alloc (.cells #[.bool m,.slice A len c] 64):=by
 refine callsIn_of_wp Tryz.func245 rfl h6 ?_ hro;simp only[Tryz.ntmps245,List.size_toArray,List.length_cons,List.length_nil,Nat.reduceAdd,Nat.reduceSub,Array.replicate_succ,Array.replicate_zero,List.push_toArray,List.append_toArray,List.nil_append,List.cons_append];gi_wp2;go_ret;exact⟨rfl,rfl⟩
theorem NT(F:Fence)(n:Nat)(h8:F.fn 330)(hro:F.round=none)(hn:1≤n)(Bs n₀:Nat)(m:Bool)(A:Option Addr)(c:Nat)(zs:List Int)(hzs:inr 1000000000 zs)(hlen:zs.length<4611686018427387904)(w:World)(s:Bs<w.heap.size)(hn₀:n₀≤w.heap.size)
 (hb:w.cell? ⟨Bs,1,none⟩=some (.slice A zs.length c))(hc:∀i:Int,0≤i->i<(zs.length:Int)->∃ad,A=some ad∧ad.block<n₀∧w.cell? (ad.add i.toNat)=some (.int .u32 (rd zs i))):
 SeqStopsK F n Tryz.prog 330 #[.pointer (some ⟨Bs,0,none⟩)] (λ x:PW=> #[Value.int .i64 (x.1.1:Int),Value.int .u32 x.1.2]) (yC n₀ Bs) (λ ys=>ys=upto (m_ zs hzs) zs.length)
 (λ pre=>∃k,k≤zs.length∧pre=upto (m_ zs hzs) k) zs.length w:=λ l J Jx W hW _ _ hY h0=>
 R_ F n h8 hro hn l Bs n₀ m A c zs hzs hlen J Jx hY W ((hW.cell (p:=⟨Bs,1,none⟩) s).trans hb)
 (λ i h1 h2=>by
 obtain⟨ad,e,hlt,hcell⟩:=hc i h1 h2;exact⟨ad,e,hlt,(hW.cell (p:=ad.add i.toNat) (by rw[show(ad.add i.toNat).block=ad.block from by unfold Addr.add;split<;>rfl];exact Nat.lt_of_lt_of_le hlt hn₀)).trans hcell⟩) h0
theorem Kt(F:Fence)(n:Nat)(h6:F.fn 233)(hro:F.round=none)(m:Bool)(A:Option Addr)(len c:Nat)(w:World):
 CallsIn F n Tryz.prog 233 #[.agg #[.bool m,.slice A len c]] w λ e w'=>e= .returned (.bool ((len:Int)==0))∧w'=w.alloc (.cells #[.bool m,.slice A len c] 64):=by
 refine callsIn_of_wp Tryz.func233 rfl h6 ?_ hro;simp only[Tryz.ntmps233,List.size_toArray,List.length_cons,List.length_nil,Nat.reduceAdd,Nat.reduceSub,Array.replicate_succ,Array.replicate_zero,List.push_toArray,List.append_toArray,List.nil_append,List.cons_append];gi_wp2;go_ret;exact⟨rfl,rfl⟩
def nine(w:Int):List Int:=[48+w/100000000% 10,48+w/10000000% 10,48+w/1000000% 10,48+w/100000% 10,48+w/10000% 10,48+w/1000% 10,48+w/100% 10,48+w/10% 10,48+w% 10]
def uY(d:Int)(j:Nat):Array Value:=
 #[if 8<j then .int .u8 (48+d/100000000% 10)else .int .u8 0,if 7<j then .int .u8 (48+d/10000000% 10)else .int .u8 0,if 6<j then .int .u8 (48+d/1000000% 10)else .int .u8 0,
 if 5<j then .int .u8 (48+d/100000% 10)else .int .u8 0,if 4<j then .int .u8 (48+d/10000% 10)else .int .u8 0,if 3<j then .int .u8 (48+d/1000% 10)else .int .u8 0,
 if 2<j then .int .u8 (48+d/100% 10)else .int .u8 0,if 1<j then .int .u8 (48+d/10% 10)else .int .u8 0,if 0<j then .int .u8 (48+d% 10)else .int .u8 0]
def xE:Nat->Int|0=>1|j+1=>10*xE j
theorem Ku:∀j,0<xE j
 |0=>by simp[xE]
 |j+1=>by have:=Ku j;unfold xE;omega
theorem LM(d:Int):∀j:Nat,j<9->(uY d j).setIfInBounds (8-j) (.int .u8 (48+d/xE j% 10))=uY d (j+1)
 |0,_=>by simp[uY,xE]|1,_=>rfl|2,_=>rfl|3,_=>rfl|4,_=>rfl|5,_=>rfl|6,_=>rfl|7,_=>rfl|8,_=>rfl
 |n+9,h=>by omega
theorem NU(d:Int):∀j:Nat,j<9->(uY d j)[8-j]? =some (.int .u8 0)
 |0,_=>rfl|1,_=>rfl|2,_=>rfl|3,_=>rfl|4,_=>rfl|5,_=>rfl|6,_=>rfl|7,_=>rfl|8,_=>rfl
 |n+9,h=>by omega
def jW(pre:List PW):List Int:=pre.flatMap (λ x=>nine x.1.2)
theorem DF(pre:List PW):(jW pre).length=9*pre.length:=by
 induction pre with
 |nil=>rfl
 |cons x r ih=>simp only[jW,List.flatMap_cons,List.length_append,List.length_cons]at ih|-;rw[ih];simp[nine];omega
theorem Iy(pre:List PW)(x:PW):jW (pre++[x])=jW pre++nine x.1.2:=by simp[jW]
theorem Yl{n₀ b:Nat}{w:World}(hn:n₀≤w.heap.size)(hb:b<w.heap.size)(W:World)(l:Nat)(o o':Obj)(hl:w.heap.size≤l)(h:W.heap[l]? =some o)(h1:o.isCells=false)(h2:o.isWalk=false):yC n₀ b W (W.putObj l o'):=
 ⟨belowK_b hn W l o o' hl h h1 h2,(grownBy_putObj' W l o').block b (by have:=(Array.getElem?_eq_some_iff.1 h).1;omega) (λ e=>by cases e;omega)⟩
section
variable {F:Fence} {n:Nat} {P:Program} {Q:Exit->Act->World->Prop} {a:Act} {w:World} {o0 o1 o2 o3:Oper}
theorem Au{o:Oper}{w1:World}{v:Value}{y:Nat->Option Bool}{K:Act->World->Prop}(hg:o.guard=none)(hd:∀c,o.op≠ .defer c)(hab:o.about P w a.eval=none)(hr:(execOp a.eval o).run P w= .ok (.value v) w1)(hK:K (a.put o.dst v) w1):
 if Region.wanted o y=true then Oper.wpIn F n P o a w K Q else(∀f,o.about P w a.eval=some f->F.fn f)∧K (a.put o.dst undef) w:=by
 rw[if_pos (by simp[Region.wanted,hg])];exact⟨by rw[hab];simp,by rw[Oper.semAt_plain F _ _ hd,hr];exact hK⟩
theorem UF{id:Nat}(hm:P.follows .mixedOrders=true)
 (hr0:Region.ready .any #[o0,o1,o2,o3] #[false,false,false,false]=[0,1])(hr1:Region.ready .any #[o0,o1,o2,o3] #[true,false,false,false]=[1])(hr2:Region.ready .any #[o0,o1,o2,o3] #[false,true,false,false]=[0])
 (hr3:Region.ready .any #[o0,o1,o2,o3] #[true,true,false,false]=[2])(hr4:Region.ready .any #[o0,o1,o2,o3] #[true,true,true,false]=[3])(s:Region.ready .any #[o0,o1,o2,o3] #[true,true,true,true]=[])
 (v0 v1:Value)
 (h0:∀y (K:Act->World->Prop),K (a.put o0.dst v0) w.drew->if Region.wanted o0 y=true then Oper.wpIn F n P o0 a w.drew K Q else(∀f,o0.about P w.drew a.eval=some f->F.fn f)∧K (a.put o0.dst undef) w.drew)
 (h1:∀y (K:Act->World->Prop),K ((a.put o0.dst v0).put o1.dst v1) w.drew->if Region.wanted o1 y=true then Oper.wpIn F n P o1 (a.put o0.dst v0) w.drew K Q else(∀f,o1.about P w.drew (a.put o0.dst v0).eval=some f->F.fn f)∧K ((a.put o0.dst v0).put o1.dst undef) w.drew)
 (h1':∀y (K:Act->World->Prop),K (a.put o1.dst v1) w.drew->if Region.wanted o1 y=true then Oper.wpIn F n P o1 a w.drew K Q else(∀f,o1.about P w.drew a.eval=some f->F.fn f)∧K (a.put o1.dst undef) w.drew)
 (h0':∀y (K:Act->World->Prop),K ((a.put o1.dst v1).put o0.dst v0) w.drew->if Region.wanted o0 y=true then Oper.wpIn F n P o0 (a.put o1.dst v1) w.drew K Q else(∀f,o0.about P w.drew (a.put o1.dst v1).eval=some f->F.fn f)∧K ((a.put o1.dst v1).put o0.dst undef) w.drew)
 (hput:(a.put o1.dst v1).put o0.dst v0=(a.put o0.dst v0).put o1.dst v1)
 (h:wpListIn F n P #[o0,o1,o2,o3] Q [o2,o3] ((a.put o0.dst v0).put o1.dst v1) w.drew):(Code.region id #[o0,o1,o2,o3] true).wpIn F n P Q a w:=by
 refine wpIn_region_any hm ?_;have hrest:wpAnyIn F n P .any #[o0,o1,o2,o3] Q 2 #[true,true,false,false] ((a.put o0.dst v0).put o1.dst v1) w.drew:=by
  refine wpAnyIn_ready hr3 (by simp) (AllReadyIn.cons (o:=o2) rfl (λ K' hK=>?_) AllReadyIn.nil);unfold wpListIn at h;have hmono:∀a w,wpListIn F n P #[o0,o1,o2,o3] Q [o3] a w->K' a w:=λ a w h=>hK a w (by
   refine wpAnyIn_ready hr4 (by simp) (AllReadyIn.cons (o:=o3) rfl (λ K2 hK2=>?_) AllReadyIn.nil);unfold wpListIn at h;have hm2:∀a w,wpListIn F n P #[o0,o1,o2,o3] Q [] a w->K2 a w:=λ a w h=>hK2 a w ⟨s,h⟩;split
   .rename_i hw;rw[if_pos hw]at h;exact Oper.wpIn_mono hm2 h
   .rename_i hw;rw[if_neg hw]at h;exact⟨h.1,hm2 _ _ h.2⟩)
  split
  .rename_i hw;rw[if_pos hw]at h;exact Oper.wpIn_mono hmono h
  .rename_i hw;rw[if_neg hw]at h;exact⟨h.1,hmono _ _ h.2⟩
 refine wpAnyIn_ready hr0 (by simp) (AllReadyIn.cons (o:=o0) rfl (λ K' hK=>h0 _ _ (hK _ _ ?_)) (AllReadyIn.cons (o:=o1) rfl (λ K' hK=>h1' _ _ (hK _ _ ?_)) AllReadyIn.nil))
 .exact wpAnyIn_ready hr1 (by simp) (AllReadyIn.cons (o:=o1) rfl (λ K2 hK2=>h1 _ _ (hK2 _ _ hrest)) AllReadyIn.nil)
 .exact wpAnyIn_ready hr2 (by simp) (AllReadyIn.cons (o:=o0) rfl (λ K2 hK2=>h0' _ _ (hK2 _ _ (by rw[hput];exact hrest))) AllReadyIn.nil)
end
def vW(zs:List Int)(hzs:inr 1000000000 zs):ByteArray:=⟨(Lib.trimLeftS (strOfNums (jW (upto (m_ zs hzs) zs.length))).data.toList [48]).toArray⟩
theorem NV(zs:List Int)(hzs:inr 1000000000 zs)(h:zs.length<1000000000):(vW zs hzs).size≤9000000000:=by
 have h1:∀l cs:List UInt8,(Lib.trimLeftS l cs).length≤l.length:=λ l cs=>(List.dropWhile_sublist _).length_le;show(Lib.trimLeftS _ _).toArray.size≤_;rw[List.size_toArray];refine Nat.le_trans (h1 _ _) ?_;have h2:(strOfNums (jW (upto (m_ zs hzs) zs.length))).data.toList.length=(jW (upto (m_ zs hzs) zs.length)).length:=by simp[strOfNums]
 rw[h2,DF,DC];omega
set_option maxRecDepth 100000 in
set_option maxHeartbeats 4000000 in
theorem Qf(F:Fence)(n:Nat)(L:∀(k:Nat)(f:FuncId)(args:Array Value)(W:World)(R:Ending->World->Prop),Calls Tryz.prog f args W R->CallsIn F k Tryz.prog f args W R)(an:F.fn 141)(ao:F.fn 233)(h85:F.fn 246)(h84:F.fn 245)(h112:F.fn 330)(hro:F.round=none)(hn:3≤n)(m:Bool)(A:Option Addr)(c:Nat)(zs:List Int)(h0:zs.length≠0)(hzs:inr 1000000000 zs)(hlen:zs.length<1000000000)(w:World)(hr:Kd.C (Kd.int .u32) w A zs.length zs):
 CallsIn F n Tryz.prog 141 #[.agg #[.bool m,.slice A zs.length c]] w λ e w'=>e= .returned (.string (if m=true then⟨#[45]⟩++vW zs hzs else vW zs hzs))∧Below w.heap.size w w':=by
 have hlenO:∀pre:List PW,pre.length<zs.length->(jW pre).length<9000000000:=λ pre h=>by rw[DF];omega
 obtain⟨i0,hi,hz0,hz1,hz2⟩:=info_parts info5;have h1:1≤n:=by omega
 have hz:((zs.length:Int)==0)=false:=by rw[beq_eq_false_iff_ne];omega
 refine callsIn_of_wp_marks Tryz.func141 rfl an ?_ hro;simp only[Tryz.ntmps141,List.size_toArray,List.length_cons,List.length_nil,Nat.reduceAdd,Nat.reduceSub,Array.replicate_succ,Array.replicate_zero,List.push_toArray,List.append_toArray,List.nil_append,List.cons_append]
 gi_wp2_with (first|(gi_at_call 233;refine(Kt F (n-1) ao hro _ _ _ _ _).mono ?_;rintro e w' ⟨rfl,rfl⟩;rw[hz])|(gi_at_call 245;refine(UE F (n-1) h84 hro _ _ _ _ _).mono ?_;rintro e w' ⟨rfl,rfl⟩))
 have hB0:Below w.heap.size w ((((w.alloc (.cells #[.bool m,.slice A zs.length c] 64)).alloc (.cells #[.bool m,.slice A zs.length c] 64)).alloc (.cells #[.slice none 0 0] 58)).alloc (.cells #[.bool m,.slice A zs.length c] 64)):=
  ((((Below.refl _ w).alloc (Nat.le_refl _) _).alloc (by simp) _).alloc (by simp;omega) _).alloc (by simp;omega) _
 have ap:=Boxed.new ((w.alloc (.cells #[.bool m,.slice A zs.length c] 64)).alloc (.cells #[.bool m,.slice A zs.length c] 64)) 58 (.slice none 0 0);have I:=(aj (lS (((w.alloc (.cells #[.bool m,.slice A zs.length c] 64)).alloc (.cells #[.bool m,.slice A zs.length c] 64)).alloc (.cells #[.slice none 0 0] 58)) (.cells #[.bool m,.slice A zs.length c] 64)) 1).trans rfl;have T:=lS (((w.alloc (.cells #[.bool m,.slice A zs.length c] 64)).alloc (.cells #[.bool m,.slice A zs.length c] 64)).alloc (.cells #[.slice none 0 0] 58)) (.cells #[.bool m,.slice A zs.length c] 64);have al:=dP (dP (dP (lS w (.cells #[.bool m,.slice A zs.length c] 64)) (.cells #[.bool m,.slice A zs.length c] 64)) (.cells #[.slice none 0 0] 58)) (.cells #[.bool m,.slice A zs.length c] 64);simp only[World.size_alloc]at ap I T;refine wpIn_rangeFunc_ownF hro h1 (gf:=330) (lb:= #[.pointer (some ⟨w.heap.size+1+1+1,0,none⟩)]) rfl h112 (enters_of Tryz.func330 (by kernel_rfl) rfl)
  (NT F (n-1) h112 hro (by omega) (w.heap.size+1+1+1) w.heap.size m A c zs hzs (by omega) _ (by simp) (by simp;omega) I (λ i h1 h2=>by
   obtain⟨ad,e,hcell⟩:=Kd.E5 hr i h1 h2;exact⟨ad,e,World.block_lt_of_cell? w _ hcell|>λ h=>by rwa[show(ad.add i.toNat).block=ad.block from by unfold Addr.add;split<;>rfl]at h,(hB0.cell (World.block_lt_of_cell? w _ hcell)).trans hcell⟩))
  yC.trans (Yl (by simp;omega) (by simp)) (Below.refl _ _) (λ _=>rfl)
  (λ pre W=>((∃v,Boxed W (w.heap.size+1+1) 58 v∧W.ownsRow w.heap.size 5 1 v (jW pre).length ((jW pre).map (Value.int .u8))∧True)∧W.heap[w.heap.size+1+1+1]? =some (.cells #[.bool m,.slice A zs.length c] 64 (0,0))∧W.heap[w.heap.size]? =some (.cells #[.bool m,.slice A zs.length c] 64 (0,0)))∧Below w.heap.size w W)
  (λ _ _ _=>False)
  (OwnFrom.and (Own.from (λ s X Y row hs hg hr=>⟨holdsRow_own w.heap.size (w.heap.size+1+1) 58 5 1 (λ pre=>(jW pre).length) (λ pre=>(jW pre).map (Value.int .u8)) (λ _ _=>True) s X Y row hs.1 hg hr,(hg.block _ (gT hs.2.1) (λ e_=>by obtain⟨o,ho,hc⟩:=hr _ e_.symm;rw[hs.2.1]at ho;cases ho;cases hc)).trans hs.2.1,(hg.block _ (gT hs.2.2) (λ e_=>by obtain⟨o,ho,hc⟩:=hr _ e_.symm;rw[hs.2.2]at ho;cases ho;cases hc)).trans hs.2.2⟩) _) (ownFrom_below (Nat.le_refl _) (by simp;omega)))
  (λ _ _ _ _ _ hs _ _=>hs)
  ⟨⟨⟨_,ap.alloc _,World.ownsRow_nil _ _ _ _,trivial⟩,T,al⟩,hB0⟩
  (λ x=>{tmps:= #[.agg #[.bool m,.slice A zs.length c],.pointer (some ⟨w.heap.size,0,none⟩),.string ⟨#[]⟩,.pointer (some ⟨w.heap.size+1+1,0,none⟩),undef,.int .u32 x.1.2,undef,undef,undef,.agg #[.bool m,.slice A zs.length c],.bool false,.agg #[.bool m,.slice A zs.length c],.func (.func 330) #[] #[.pointer (some ⟨w.heap.size+1+1+1,0,none⟩)],.int .i64 (x.1.1:Int),.int .u32 x.1.2,undef,undef,undef,undef,undef,undef,undef,undef,undef,undef,undef,undef,undef,undef,undef,undef,undef,undef,undef,undef,undef,undef,undef],defers:=[]}) ?assign ?body ?done ?stop
 case assign=>
  intro l x W K hK;gi_wp2;exact hK
 case body=>
  rintro l pre x W ⟨⟨⟨v,hv,hrow,_⟩,hb3,hb0⟩,hB⟩ hle;obtain⟨⟨i,d⟩,hd0,hd1⟩:=x;dsimp only at hd0 hd1|-
  gi_wp2;obtain⟨O,J⟩:∃O:World,O=W.alloc (.cells (uY d 0) 348):=⟨_,rfl⟩;have aa:W.alloc (.cells #[Value.int .u8 0,Value.int .u8 0,Value.int .u8 0,Value.int .u8 0,Value.int .u8 0,Value.int .u8 0,Value.int .u8 0,Value.int .u8 0,Value.int .u8 0] 348)=O:=J.symm;rw[aa];have ab:KeepsOthers W O:=by rw[J];exact KeepsOthers.alloc _ _
  have ac:Below W.heap.size W O:=by rw[J];exact(Below.refl _ _).alloc (Nat.le_refl _) _
  have hcA:O.heap[W.heap.size]? =some (.cells (uY d 0) 348 (0,0)):=by rw[J];exact lS _ _
  clear aa J;gi_loopw [5,7] (λ u i wr=>∃(j:Nat)(z:Int),j≤9∧u= .int .u32 z∧i= .int .i64 (8-(j:Int))∧ah (z=d/xE j)∧ah (KeepsOthers W wr∧Below W.heap.size W wr∧wr.heap[W.heap.size]? =some (.cells (uY d j) 348 (0,0)))) (λ _ i _=>(intOf i+1).toNat)
  case atStart=>exact⟨0,d,by omega,rfl,rfl,⟨by simp[xE]⟩,⟨ab,ac,hcA⟩⟩
  case round=>
   clear ab ac hcA;obtain⟨j,z,hj,rfl,rfl,Z,HW⟩:=hrel;by_cases hlt:j<9
   .obtain⟨q,hq⟩:∃q:Nat,q=8-j:=⟨_,rfl⟩
    have hq2:8-(j:Int)=(q:Int):=by omega
    have hq3:q≤8:=by omega
    have hp:0<xE j:=Ku j;have hz0:0≤z:=by rw[Z.out];exact Int.ediv_nonneg hd0 (Int.le_of_lt hp)
    have hz1:z≤999999999:=by have h_:=Int.ediv_le_self (a:=d) (xE j) hd0;rw[<-Z.out]at h_;omega
    rw[hq2];have hcell:wr.cell? ⟨W.heap.size,q,none⟩=some (.int .u8 0):=(aj HW.out.2.2 q).trans (by rw[hq];exact NU d j hlt);have hfz:=aI HW.out.2.2 q;have HQ:=Lib.hid hq;have aq:=Lib.hid hq2;clear hq hq2;gi_wp2;go_roundw
    case rel=>exact⟨j+1,z/10,by omega,rfl,by have:=aq.out;congr 1<;>omega,⟨by rw[Z.out,xE,Int.mul_comm,Int.ediv_ediv_of_nonneg (Int.le_of_lt hp)]⟩,⟨HW.out.1.trans (KeepsOthers.setCell _ _ _),HW.out.2.1.setCell (Nat.le_refl _) _,by
     have h_:=eB HW.out.2.2 q (.int .u8 (48+z% 10)) (cs':=uY d (j+1)) (by rw[HQ.out,Z.out];exact LM d j hlt);exact h_⟩⟩
    case measure=>simp[intOf]
   .obtain rfl:j=9:=by omega
    gi_wp2;obtain⟨hk1,hb1,hp1⟩:=HW.out;have hv1:Boxed wr.drew (w.heap.size+1+1) 58 v:=(hb1.block _ hv.lt).trans hv;have E:wr.drew.ownsRow w.heap.size 5 1 v (jW pre).length ((jW pre).map (Value.int .u8)):=(Kv hrow hb1:wr.ownsRow w.heap.size 5 1 v (jW pre).length ((jW pre).map (Value.int .u8)));have hp2:wr.drew.heap[W.heap.size]? =some (.cells ((nine d).map (Value.int .u8)).toArray 348 (0,0)):=hp1;have hcv:=hv1.cell;have ar:=hv1.frozen;have hal:∀f:FuncId,(none:Option FuncId)=some f->(F.inRound l).fn f:=λ f h=>by cases h
    refine UF (by kernel_rfl) (by kernel_rfl) (by kernel_rfl) (by kernel_rfl) (by kernel_rfl) (by kernel_rfl) (by kernel_rfl) v (.slice (some ⟨W.heap.size,0,none⟩) 9 9) ?_ ?_ ?_ ?_ ?_ ?_
    .exact λ y K hK=>Au rfl (λ c h=>by cases h) rfl (by go_simp) hK
    .exact λ y K hK=>Au rfl (λ c h=>by cases h) rfl (by go_simp) hK
    .exact λ y K hK=>Au rfl (λ c h=>by cases h) rfl (by go_simp) hK
    .exact λ y K hK=>Au rfl (λ c h=>by cases h) rfl (by go_simp) hK
    .rfl
    .have HL:=hlenO pre hle
     refine wpListIn_append_own _ rfl _ _ 58 rfl w.heap.size 5 i0 (.int .u8 0) 1 1 Tryz.underlying58 hi hz0 hz1 hz2 rfl (by decide) v (jW pre).length _ rfl E ⟨W.heap.size,0,none⟩ 9 9 ((nine d).map (Value.int .u8)) rfl rfl
      (λ j u hj=>by rw[add_plain,aj hp2];simpa using hj) (λ u hu=>by simp[nine]at hu;rcases hu with rfl|rfl|rfl|rfl|rfl|rfl|rfl|rfl|rfl<;>rfl) (by unfold maxLen;omega) (by omega) (Nat.le_trans hB.size (Nat.le_trans hb1.size (Nat.le_refl _))) ?_
     intro v' w1 hown' hgrow _;obtain⟨g',cap',rfl⟩:=ownsRow_succ (k:=(jW pre).length+8) hown';have hv2:Boxed w1 (w.heap.size+1+1) 58 v:=hv1.kept hgrow (hv1.not_row (by decide) E);have hcv2:=hv2.cell;have hfv2:=hv2.frozen;clear hcv ar;gi_wp2;have hset:=grownBy_setCell' w1 (w.heap.size+1+1) (.slice (some ⟨g',0,none⟩) ((jW pre).length+9) cap');have hWd:Below W.heap.size W wr.drew:=hb1.drew;have keep:∀B':Nat,B'≠w.heap.size+1+1->W.heap[B']? =some (.cells #[.bool m,.slice A zs.length c] 64 (0,0))->(w1.setCell ⟨w.heap.size+1+1,0,none⟩ (.slice (some ⟨g',0,none⟩) ((jW pre).length+9) cap')).heap[B']? =some (.cells #[.bool m,.slice A zs.length c] 64 (0,0)):=λ B' hne hb=>by
      have U:wr.drew.heap[B']? =some (.cells #[.bool m,.slice A zs.length c] 64 (0,0)):=(hb1.block _ (gT hb)).trans hb;have am:some B'≠v.ownBlock:=by
       rcases E.2 with⟨rfl,_⟩|⟨g,cap,cur,rfl,_,hgb,_⟩
       .simp[Value.ownBlock]
       .intro e'
        obtain rfl:B'=g:=by simpa[Value.ownBlock]using e'
        rw[U]at hgb;simp at hgb
      exact jK ((hgrow.block _ (gT U) am).trans U) (p:=⟨w.heap.size+1+1,0,none⟩) hne _
     have h32:=keep _ (by omega) hb3;have h02:=keep _ (by omega) hb0;have hbelow:Below w.heap.size W (w1.setCell ⟨w.heap.size+1+1,0,none⟩ (.slice (some ⟨g',0,none⟩) ((jW pre).length+9) cap')):=
      (zF (hWd.mono hB.size) _ (Nat.le_trans hB.size hb1.size) hgrow (λ k hk=>tQ E k hk)).setCell (by simp;omega) _
     have hko:KeepsOthers W (w1.setCell ⟨w.heap.size+1+1,0,none⟩ (.slice (some ⟨g',0,none⟩) ((jW pre).length+9) cap')):=
      ((hk1.trans (KeepsOthers.drew wr)).trans (KeepsOthers.of_grownBy hgrow λ j o ej hj=>by
       rcases E.2 with⟨rfl,_⟩|⟨g,cap,cur,rfl,_,hgb,_⟩
       .simp[Value.ownBlock]at ej
       .obtain rfl:g=j:=by simpa[Value.ownBlock]using ej
        rw[hgb]at hj;cases hj;rfl)).trans (KeepsOthers.setCell _ _ _)
     have hrow2:=hown'.kept hset (.inr (hv2.not_row (by decide) hown').symm);refine⟨hko,⟨hbelow,h32.trans hb3.symm⟩,⟨⟨_,hv2.set _,?_,trivial⟩,h32,h02⟩,hB.trans hbelow⟩;rw[Iy,List.map_append,List.length_append];exact hrow2
 case done=>
  rintro D ys W hD rfl ⟨⟨⟨v,hv,hrow,_⟩,hb3,hb0⟩,hB⟩ hK;have av:=NV zs hzs hlen;have hcv:=hv.cell;have hconv:(convert 58 9 v).run Tryz.prog W= .ok (.string (strOfNums (jW (upto (m_ zs hzs) zs.length)))) W:=Fu Tryz.underlying58 Tryz.underlying5 Tryz.underlying9 hrow;have htl:=(Tryz.trimLeft_any (strOfNums (jW (upto (m_ zs hzs) zs.length))) ⟨#[48]⟩ W (by decide) (ascii_of_all (by decide)));rw[show(⟨(Lib.trimLeftS (strOfNums (jW (upto (m_ zs hzs) zs.length))).data.toList (⟨#[48]⟩:ByteArray).data.toList).toArray⟩:ByteArray)=vW zs hzs from rfl]at htl;generalize ae:vW zs hzs=tw at av htl;have af:=Lib.hid ae;clear ae;have ag:=Lib.hid htl;have hcat1:(9223372036854775807<1+tw.size)=False:=eq_false (by omega);have hcat2:(1+tw.size≤9223372036854775807)=True:=eq_true (by omega);clear htl;cases m with
  |true=>
   gi_wp2_with (gi_at_call 246;refine(L _ _ _ _ _ ag.out).mono ?_;rintro e w2 ⟨rfl,hb2⟩;have hc0:w2.cell? ⟨w.heap.size,0,none⟩=some (.bool true):=(aj (bY hb0 hb2) 0).trans rfl;have hK2:=bY hK hb2;have hB2:=aU hB hb2)
   refine⟨by simp,.inl ⟨_,_,rfl,run_takeDeferred hK2,?_⟩⟩;refine⟨_,results_tmp rfl _ _ _,by rw[af.out];rfl,?_⟩;exact hB2.trans (belowK_b (w:=w) (Nat.le_refl _) w2 D _ _ (by simp at hD;omega) hK2 rfl rfl)
  |false=>
   gi_wp2_with (gi_at_call 246;refine(L _ _ _ _ _ ag.out).mono ?_;rintro e w2 ⟨rfl,hb2⟩;have hc0:w2.cell? ⟨w.heap.size,0,none⟩=some (.bool false):=(aj (bY hb0 hb2) 0).trans rfl;have hK2:=bY hK hb2;have hB2:=aU hB hb2)
   refine⟨by simp,.inl ⟨_,_,rfl,run_takeDeferred hK2,?_⟩⟩;refine⟨_,results_tmp rfl _ _ _,by rw[af.out];rfl,?_⟩;exact hB2.trans (belowK_b (w:=w) (Nat.le_refl _) w2 D _ _ (by simp at hD;omega) hK2 rfl rfl)
 case stop=>
  rintro D c pre W _ _ h _;exact h.elim
theorem string_zero(m:Bool)(A:Option Addr)(c:Nat)(w:World):
 CallsIn Fence.wide 3 Tryz.prog 141 #[.agg #[.bool m,.slice A 0 c]] w λ e w'=>e= .returned (.string ⟨#[48]⟩)∧Below w.heap.size w w':=by
 refine callsIn_of_wp Tryz.func141 rfl trivial ?_ rfl;simp only[Tryz.ntmps141,List.size_toArray,List.length_cons,List.length_nil,Nat.reduceAdd,Nat.reduceSub,Array.replicate_succ,Array.replicate_zero,List.push_toArray,List.append_toArray,List.nil_append,List.cons_append];have hz:CallsIn Fence.wide 2 Tryz.prog 233 #[.agg #[.bool m,.slice A 0 c]] (w.alloc (.cells #[.bool m,.slice A 0 c] 64)) λ e w'=>e= .returned (.bool true)∧w'=(w.alloc (.cells #[.bool m,.slice A 0 c] 64)).alloc (.cells #[.bool m,.slice A 0 c] 64):=Kt Fence.wide 2 trivial rfl m A 0 c _;have h67:Fence.wide.fn 233:=trivial
 gi_wp2_with (gi_at_call 233;refine hz.mono ?_;rintro e w' ⟨rfl,rfl⟩)
 go_ret;exact⟨rfl,((Below.refl _ w).alloc (Nat.le_refl _) _).alloc (by simp) _⟩
def dz.f(z:Bool)(s:List Int):Option ByteArray:=
 if h:inr 1000000000 s∧s.length<1000000000 then
 (if s.length=0 then some ⟨#[48]⟩else some (if z=true then⟨#[45]⟩++vW s h.1 else vW s h.1))
 else none
theorem dz.calls(z:Bool)(D:Option Addr)(E:Nat)(s:List Int)(r:ByteArray)(w:World)(F:Kd.C (Kd.int .u32) w D s.length s)(hc0_1:s.length≤E)(h:dz.f z s=some r):
 Calls Tryz.prog 141 #[.agg #[.bool z,.slice D s.length E]] w λ e w'=>e= .returned (.string r)∧Below w.heap.size w w':=by
 unfold dz.f at h;split at h
 .rename_i hw
  split at h
  .rename_i h0
   obtain rfl:=Option.some.inj h;rw[h0];exact callsIn_wide.1 (string_zero z D E w)
  .rename_i h0
   obtain rfl:=Option.some.inj h;exact callsIn_wide.1 (Qf Fence.wide 3 (λ _ _ _ _ _ h=>callsIn_wide.2 h) trivial trivial trivial trivial trivial rfl (by omega) z D E s h0 hw.1 hw.2 w F)
 .simp at h
end Go.Proofs.Ct.Q
end
namespace Go.Proofs.Ct.Q
open Go.RowKit Go.Proofs.aA.ak Go.Proofs.aA.aC Go.Proofs.aA.aG
attribute [local go_sem] aW aX bA bB
def oI.f:Option (List ByteArray):=some (([(⟨#[109,105,115,115,105,110,103]⟩:ByteArray),(⟨#[116,105,109,101]⟩:ByteArray),(⟨#[112,97,114,97,109]⟩:ByteArray),(⟨#[105,110,112,117,116]⟩:ByteArray),(⟨#[101,113]⟩:ByteArray),(⟨#[105,110,105,116]⟩:ByteArray),(⟨#[115,116,97,114,116]⟩:ByteArray),(⟨#[112,114,101]⟩:ByteArray),(⟨#[100,105,115,99,114,101,116,101]⟩:ByteArray),(⟨#[114,101,105,110,105,116]⟩:ByteArray),(⟨#[115,116,101,112]⟩:ByteArray),(⟨#[116,114,105,103,103,101,114]⟩:ByteArray),(⟨#[101,110,100]⟩:ByteArray)]:List ByteArray))
set_option maxHeartbeats 8000000 in
set_option maxRecDepth 100000 in
theorem oI.calls(r:List ByteArray)(w:World)(H:oI.f=some r):
 Calls Tryz.prog 16 #[] w λ e w'=>∃F:Value,e= .returned (F)∧Kd.R Kd.string 9 w' w.heap.size (λ _=>True) F r∧Below w.heap.size w w':=by
 have HB:=ah.mk (Below.refl w.heap.size w);unfold oI.f at H;first|(revert H;with_reducible refine gy λ I s H=>?_)|(generalize z:((([(⟨#[109,105,115,115,105,110,103]⟩:ByteArray),(⟨#[116,105,109,101]⟩:ByteArray),(⟨#[112,97,114,97,109]⟩:ByteArray),(⟨#[105,110,112,117,116]⟩:ByteArray),(⟨#[101,113]⟩:ByteArray),(⟨#[105,110,105,116]⟩:ByteArray),(⟨#[115,116,97,114,116]⟩:ByteArray),(⟨#[112,114,101]⟩:ByteArray),(⟨#[100,105,115,99,114,101,116,101]⟩:ByteArray),(⟨#[114,101,105,110,105,116]⟩:ByteArray),(⟨#[115,116,101,112]⟩:ByteArray),(⟨#[116,114,105,103,103,101,114]⟩:ByteArray),(⟨#[101,110,100]⟩:ByteArray)]:List ByteArray)):List ByteArray)=I at H;have s:=ah.mk z.symm;clear z)
 obtain rfl:=Option.some.inj H;go_enter Tryz.func16,Tryz.ntmps16
 go_wp2_with (first|((with_reducible refine gV (N:=1) rfl ?_);refine Kd.C_ Kd.string _ 9 ?hg (N:=1) ?hd (xs:=([(⟨#[109,105,115,115,105,110,103]⟩:ByteArray),(⟨#[116,105,109,101]⟩:ByteArray),(⟨#[112,97,114,97,109]⟩:ByteArray),(⟨#[105,110,112,117,116]⟩:ByteArray),(⟨#[101,113]⟩:ByteArray),(⟨#[105,110,105,116]⟩:ByteArray),(⟨#[115,116,97,114,116]⟩:ByteArray),(⟨#[112,114,101]⟩:ByteArray),(⟨#[100,105,115,99,114,101,116,101]⟩:ByteArray),(⟨#[114,101,105,110,105,116]⟩:ByteArray),(⟨#[115,116,101,112]⟩:ByteArray),(⟨#[116,114,105,103,103,101,114]⟩:ByteArray),(⟨#[101,110,100]⟩:ByteArray)]:List ByteArray)) (inner:=[.string (⟨#[109,105,115,115,105,110,103]⟩:ByteArray),.string (⟨#[116,105,109,101]⟩:ByteArray),.string (⟨#[112,97,114,97,109]⟩:ByteArray),.string (⟨#[105,110,112,117,116]⟩:ByteArray),.string (⟨#[101,113]⟩:ByteArray),.string (⟨#[105,110,105,116]⟩:ByteArray),.string (⟨#[115,116,97,114,116]⟩:ByteArray),.string (⟨#[112,114,101]⟩:ByteArray),.string (⟨#[100,105,115,99,114,101,116,101]⟩:ByteArray),.string (⟨#[114,101,105,110,105,116]⟩:ByteArray),.string (⟨#[115,116,101,112]⟩:ByteArray),.string (⟨#[116,114,105,103,103,101,114]⟩:ByteArray),.string (⟨#[101,110,100]⟩:ByteArray)]) (ok:=λ _=>True) (kZ:=λ _=>True) ?hr ?hp (λ _ hk=>hk) trivial (Below.refl _ _) (Nat.le_refl _) (by simp) ?_;(case hd=>rfl);(case hg=>rfl);(case hr=>first|(go_simp;done)|(go_simp;rfl));(case hp=>exact(dY.one (show Kd.M Kd.string _ _ _ (⟨#[109,105,115,115,105,110,103]⟩:ByteArray) [.string (⟨#[109,105,115,115,105,110,103]⟩:ByteArray)]from rfl) (dY.one (show Kd.M Kd.string _ _ _ (⟨#[116,105,109,101]⟩:ByteArray) [.string (⟨#[116,105,109,101]⟩:ByteArray)]from rfl) (dY.one (show Kd.M Kd.string _ _ _ (⟨#[112,97,114,97,109]⟩:ByteArray) [.string (⟨#[112,97,114,97,109]⟩:ByteArray)]from rfl) (dY.one (show Kd.M Kd.string _ _ _ (⟨#[105,110,112,117,116]⟩:ByteArray) [.string (⟨#[105,110,112,117,116]⟩:ByteArray)]from rfl) (dY.one (show Kd.M Kd.string _ _ _ (⟨#[101,113]⟩:ByteArray) [.string (⟨#[101,113]⟩:ByteArray)]from rfl) (dY.one (show Kd.M Kd.string _ _ _ (⟨#[105,110,105,116]⟩:ByteArray) [.string (⟨#[105,110,105,116]⟩:ByteArray)]from rfl) (dY.one (show Kd.M Kd.string _ _ _ (⟨#[115,116,97,114,116]⟩:ByteArray) [.string (⟨#[115,116,97,114,116]⟩:ByteArray)]from rfl) (dY.one (show Kd.M Kd.string _ _ _ (⟨#[112,114,101]⟩:ByteArray) [.string (⟨#[112,114,101]⟩:ByteArray)]from rfl) (dY.one (show Kd.M Kd.string _ _ _ (⟨#[100,105,115,99,114,101,116,101]⟩:ByteArray) [.string (⟨#[100,105,115,99,114,101,116,101]⟩:ByteArray)]from rfl) (dY.one (show Kd.M Kd.string _ _ _ (⟨#[114,101,105,110,105,116]⟩:ByteArray) [.string (⟨#[114,101,105,110,105,116]⟩:ByteArray)]from rfl) (dY.one (show Kd.M Kd.string _ _ _ (⟨#[115,116,101,112]⟩:ByteArray) [.string (⟨#[115,116,101,112]⟩:ByteArray)]from rfl) (dY.one (show Kd.M Kd.string _ _ _ (⟨#[116,114,105,103,103,101,114]⟩:ByteArray) [.string (⟨#[116,114,105,103,103,101,114]⟩:ByteArray)]from rfl) (dY.one (show Kd.M Kd.string _ _ _ (⟨#[101,110,100]⟩:ByteArray) [.string (⟨#[101,110,100]⟩:ByteArray)]from rfl) (dY.none _ _)))))))))))))));intro v357 w1 ho2 hb J D;clear J D;(first|rw[<-s.out]at ho2|(simp only[Int.reduceToNat]at ho2;rw[<-s.out]at ho2));have E:=kO ho2;replace HB:=kh hb;clear hb ho2))
 go_ret;exact⟨_,rW,kd E,hB⟩
def gZ.j0:Nat->Bool->ByteArray->Int->Bool->ByteArray->Int->Bool->Option (Int)
 |0,_,_,_,_,_,_,_=>none
 |k+1,F,x570000,s,z,x571000,D,E=>if F=true then(some (-1))else(if(z !=E)=true then(some 1)else(some (wrap64 (s-D))))
def gZ.f(k:Nat)(s:ByteArray)(F:Int)(E:Bool)(z:ByteArray)(I:Int)(D:Bool):Option (Int):=if s.toList=z.toList then(if(E !=D)=true then(gZ.j0 k D s F E z I D)else(gZ.j0 k false s F E z I D))else((strings_Compare.f s z).bind λ J=>(some J))
set_option maxHeartbeats 8000000 in
set_option maxRecDepth 100000 in
theorem gZ.calls(k:Nat)(J:ByteArray)(T:Int)(D:Bool)(L:ByteArray)(U:Int)(z:Bool)(r:Int)(w:World)(H:gZ.f k J T D L U z=some r):
 Calls Tryz.prog 140 #[.agg #[.string J,.int .i64 T,.bool D],.agg #[.string L,.int .i64 U,.bool z]] w λ e w'=>e= .returned (.int .i64 r)∧Below w.heap.size w w':=by
 have hu25:=Tryz.underlying25;have HB:=ah.mk (Below.refl w.heap.size w);unfold gZ.f at H;revert H;refine ci (λ c3 H=>?_) λ c3 H=>?_
 .have aa:(J.toList==L.toList)=true:=beq_iff_eq.mpr c3
  have ab:(J.toList !=L.toList)=false:=bne_eq_false_iff_eq.mpr c3;clear c3;have ac:=ah.mk H;clear H;go_enter Tryz.func140,Tryz.ntmps140
  go_upto_region 3 with(first|((with_reducible refine gd 2 rfl ?_);refine bx #[.string J,.int .i64 T,.bool D] 25 ?_;intro Y hg w5 s hb;have ag:=kz hg;have al:=kz hg;replace HB:=kh hb;clear hb hg)|((with_reducible refine gd 3 rfl ?_);refine bx #[.string L,.int .i64 U,.bool z] 25 ?_;intro Z hg w6 I hb;have am:=kz hg;have an:=kz hg;replace HB:=kh hb;have E:=kl s hg;have F:=kr s hg;replace s:=kb s hb;clear hb hg;have hnb7:=E.out;have hnc7:=F.out;have ae:=z3 s;have af:=z3 I))
  (try simp only[Act.put,List.setIfInBounds_toArray,List.set_cons_zero,List.set_cons_succ])
  go_cut [16] (λ v16 wc=>∃(kq:Nat)(X:Bool),v16= .bool X∧ah (gZ.j0 kq X J T D L U z=some r)∧ah (kq≤k)∧ah (wc.heap[Y]? =some (.cells #[.string J,.int .i64 T,.bool D] 25 (0,0)))∧ah (wc.heap[Z]? =some (.cells #[.string L,.int .i64 U,.bool z] 25 (0,0)))∧ah (Below w.heap.size w wc))
  case first=>
   have H:=ac.out;clear ac;revert H;refine ci (λ c10 H=>?_) λ c10 H=>?_
   .have O:(D !=z)=true:=c10
    (try(have ao:decide (D=z)=false:=by simpa using c10))
    (try(have ap:(D==z)=false:=by simpa using c10))
    (try(have c10b3:¬(D=z):=by simpa using c10))
    clear c10
    (first|rw[O]|(simp only[eY,iI];rw[O])|skip)
    have H':=ah.mk H;clear H;have hnb11:=E.out;have hnc11:=F.out;have hcz12_0:=z3 s;have hcz13_0:=z3 I;go_wp2;go_meet
    case rel=>exact⟨_,(z),rS,H',⟨by first|omega|exact Nat.le_refl _⟩,⟨kd s⟩,⟨kd I⟩,⟨hB⟩⟩
   .have O:(D !=z)=false:=by simpa using c10
    (try(have ao:decide (D=z)=true:=by simpa using c10))
    (try(have ap:(D==z)=true:=by simpa using c10))
    clear c10
    (first|rw[O]|(simp only[eY,iI];rw[O])|skip)
    have H':=ah.mk H;clear H;have hnb14:=E.out;have hnc14:=F.out;have hcz15_0:=z3 s;have hcz16_0:=z3 I;go_wp2;go_meet
    case rel=>exact⟨_,(false),rS,H',⟨by first|omega|exact Nat.le_refl _⟩,⟨kd s⟩,⟨kd I⟩,⟨hB⟩⟩
  case rest=>
   clear ac;clear aa ab ae af;obtain⟨kq,X,rfl,HA,HJ3,s,I,HB⟩:=hcut;cases kq with
   |zero=>exact absurd HA.out (by simp[gZ.j0])
   |succ kj3=>
    have H:=HA.out;clear HA;simp only[gZ.j0]at H;obtain rfl|rfl:=tb X
    .replace H:=it H
     obtain rfl:=Option.some.inj H;go_wp2;go_ret;exact⟨rW,hB⟩
    .replace H:=jf H
     revert H;refine ci (λ c18 H=>?_) λ c18 H=>?_
     .have aq:(D !=z)=true:=c18
      (try(have ar:decide (D=z)=false:=by simpa using c18))
      (try(have av:(D==z)=false:=by simpa using c18))
      (try(have c18b3:¬(D=z):=by simpa using c18))
      clear c18;obtain rfl:=Option.some.inj H;have hnb19:=E.out;have hnc19:=F.out;have hcz20_0:=z3 s;have hcz21_0:=z3 I;go_wp2;go_ret;exact⟨rW,hB⟩
     .have aq:(D !=z)=false:=by simpa using c18
      (try(have ar:decide (D=z)=true:=by simpa using c18))
      (try(have av:(D==z)=true:=by simpa using c18))
      clear c18;obtain rfl:=Option.some.inj H;have hnb22:=E.out;have hnc22:=F.out;have hcz23_0:=z3 s;have hcz24_0:=z3 I;go_wp2;go_ret;exact⟨rW,hB⟩
 .have aa:(J.toList==L.toList)=false:=beq_eq_false_iff_ne.mpr c3
  have ab:(J.toList !=L.toList)=true:=bne_iff_ne.mpr c3;revert H;refine bi λ aw ax H=>?_;obtain rfl:=Option.some.inj H;go_enter Tryz.func140,Tryz.ntmps140
  go_wp2_with (first|((with_reducible refine gd 2 rfl ?_);refine bx #[.string J,.int .i64 T,.bool D] 25 ?_;intro Y hg w26 s hb;have ag:=kz hg;have al:=kz hg;replace HB:=kh hb;clear hb hg)|((with_reducible refine gd 3 rfl ?_);refine bx #[.string L,.int .i64 U,.bool z] 25 ?_;intro Z hg w27 I hb;have am:=kz hg;have an:=kz hg;replace HB:=kh hb;have E:=kl s hg;have F:=kr s hg;replace s:=kb s hb;clear hb hg;have hnb28:=E.out;have hnc28:=F.out;have hcz29_0:=z3 s;have hcz30_0:=z3 I)|((with_reducible refine gc 244 rfl ?_);refine gl (some 15) Tryz.func244 (args:= #[.string J,.string L]) (strings_Compare.calls J L aw _ ax.out) ?_;rintro e w' ⟨rfl,⟨nd,rfl⟩⟩;refine⟨_,rfl,?_⟩))
  go_ret;exact⟨rW,hB⟩
def oL.f(s:Bool)(z:List Int)(D:Bool)(E:List Int):Option (Bool×List Int×Bool×List Int×Bool×Bool):=some (s,z,D,E,false,false)
set_option maxHeartbeats 8000000 in
set_option maxRecDepth 100000 in
theorem oL.calls(X:Bool)(D:Nat->Prop)(L:Option Addr)(O:Nat)(s:List Int)(Y:Bool)(E:Nat->Prop)(T:Option Addr)(U:Nat)(z:List Int)(r1:Bool)(r2:List Int)(r3:Bool)(r4:List Int)(r5:Bool)(r6:Bool)(w:World)(ac:Kd.V (Kd.int .u32) 328 w w.heap.size (λ k_=>D k_) (.slice L s.length O) s)(ae:Kd.V (Kd.int .u32) 328 w w.heap.size (λ k_=>E k_) (.slice T z.length U) z)(H:oL.f X s Y z=some (r1,r2,r3,r4,r5,r6)):
 Calls Tryz.prog 57 #[.agg #[.bool X,.slice L s.length O,.bool Y,.slice T z.length U]] w λ e w'=>∃ag al:Value,e= .returned (.agg #[.bool r1,ag,.bool r3,al,.bool r5,.bool r6])∧Kd.V (Kd.int .u32) 328 w' w.heap.size (λ k_=>((D k_∨E k_)∨w.heap.size≤k_)) ag r2∧Kd.V (Kd.int .u32) 328 w' w.heap.size (λ k_=>((D k_∨E k_)∨w.heap.size≤k_)) al r4∧Below w.heap.size w w':=by
 have hu66:=Tryz.underlying66;have hu68:=Tryz.underlying68;have F:=ah.mk (show Kd.V (Kd.int .u32) 328 w w.heap.size (λ k_=>((D k_∨E k_)∨w.heap.size≤k_)) (.slice L s.length O) s from Kd.bU ac (λ k_ hk=> .inl (.inl hk)));have I:=ah.mk (show Kd.V (Kd.int .u32) 328 w w.heap.size (λ k_=>((D k_∨E k_)∨w.heap.size≤k_)) (.slice T z.length U) z from Kd.bU ae (λ k_ hk=> .inl (.inr hk)));have HB:=ah.mk (Below.refl w.heap.size w);unfold oL.f at H;simp only[Option.some.injEq,Prod.mk.injEq]at H;obtain⟨rfl,rfl,rfl,rfl,rfl,rfl⟩:=H;go_enter Tryz.func57,Tryz.ntmps57
 go_wp2_with (first|((with_reducible refine gd 1 rfl ?_);refine bx #[.bool X,.slice L s.length O,.bool Y,.slice T z.length U] 66 ?_;intro gb323 hg w2 J hb;replace F:=kW F hg hb;replace I:=kW I hg hb;have GW323:=kz hg;have GE323:=kz hg;replace HB:=kh hb;clear hb hg)|((with_reducible refine gd 2 rfl ?_);refine bx #[.bool false,.slice none 0 0,.bool false,.slice none 0 0,.bool false,.bool false] 68 ?_;intro af hg w3 ab hb;replace F:=kW F hg hb;replace I:=kW I hg hb;have GW324:=kz hg;have GE324:=kz hg;replace HB:=kh hb;have Z:=kl J hg;have aa:=kr J hg;replace J:=kb J hb;clear hb hg;have hnb4:=Z.out;have hnc4:=aa.out;have hcz5_0:=z4 J;have hcz6_0:=z6 ab))
 refine bodyPost_ret (results_cell_row rfl _ _ af 68 #[.bool X,.slice L s.length O,.bool Y,.slice T z.length U,.bool false,.bool false] (0,0) _ rfl (kp ab) Tryz.underlying68 rfl (by kernel_rfl)) rfl ?_;exact⟨_,_,rW,kv F,kv I,hB⟩
def rE.f(a0:Bool):Option (Bool×List Int×Bool×List Int×Bool×Bool):=some (false,([]:List Int),false,([]:List Int),a0,true)
set_option maxHeartbeats 8000000 in
set_option maxRecDepth 100000 in
theorem rE.calls(a0:Bool)(r1:Bool)(r2:List Int)(r3:Bool)(r4:List Int)(r5:Bool)(r6:Bool)(w:World)(H:rE.f a0=some (r1,r2,r3,r4,r5,r6)):
 Calls Tryz.prog 55 #[.bool a0] w λ e w'=>∃z D:Value,e= .returned (.agg #[.bool r1,z,.bool r3,D,.bool r5,.bool r6])∧Kd.R (Kd.int .u32) 328 w' w.heap.size (λ k_=>some k_≠(D:Value).ownBlock) z r2∧Kd.R (Kd.int .u32) 328 w' w.heap.size (λ k_=>some k_≠(z:Value).ownBlock) D r4∧Below w.heap.size w w':=by
 have hu68:=Tryz.underlying68;have HB:=ah.mk (Below.refl w.heap.size w);unfold rE.f at H;simp only[Option.some.injEq,Prod.mk.injEq]at H;obtain⟨rfl,rfl,rfl,rfl,rfl,rfl⟩:=H;go_enter Tryz.func55,Tryz.ntmps55
 go_wp2_with (first|((with_reducible refine gd 2 rfl ?_);refine bx #[.bool false,.slice none 0 0,.bool false,.slice none 0 0,.bool false,.bool false] 68 ?_;intro E hg w2 s hb;have GW101:=kz hg;have GE101:=kz hg;replace HB:=kh hb;clear hb hg;have hcz3_0:=z6 s))
 refine bodyPost_ret (results_cell_row rfl _ _ E 68 #[.bool false,.slice none 0 0,.bool false,.slice none 0 0,.bool a0,.bool true] (0,0) _ rfl (kp s) Tryz.underlying68 rfl (by kernel_rfl)) rfl ?_;exact⟨_,_,rW,by first|exact Kd.mZ _ _ _ _ _|exact Kd.F3 _ _ _ _ _|exact Kd.lu _ _ _ _ _|exact Kd.F4 _ _ _ _ _|exact Kd.F5 _ _ _ _ _,by first|exact Kd.mZ _ _ _ _ _|exact Kd.F3 _ _ _ _ _|exact Kd.lu _ _ _ _ _|exact Kd.F4 _ _ _ _ _|exact Kd.F5 _ _ _ _ _,hB⟩
def bg.l0:Nat->List Int->List Int->Int->Option (Int)
 |0,_,_,_=>none
 |k+1,x0,x1,x5=>if x5≥0 then(if 0≤x5 then(if x5<(x0.length:Int)then(if x5<(x1.length:Int)then(if(rd x0 x5)<(rd x1 x5)then(some (-1))else(if(rd x0 x5)>(rd x1 x5)then(some 1)else(bg.l0 k x0 x1 (wrap64 (x5-1)))))else(none))else(none))else(none))else(some 0)
def bg.f(k:Nat)(l0:List Int)(l1:List Int):Option (Int):=if(l0.length:Int)=(l1.length:Int)then(bg.l0 k l0 l1 (wrap64 ((l0.length:Int)-1)))else(if(l0.length:Int)<(l1.length:Int)then(some (-1))else(some 1))
set_option maxHeartbeats 8000000 in
set_option maxRecDepth 100000 in
theorem bg.calls(k:Nat)(A0:Option Addr)(c0:Nat)(l0:List Int)(A1:Option Addr)(c1:Nat)(l1:List Int)(r:Int)(w:World)(hr0:Kd.C (Kd.int .i64) w A0 l0.length l0)(hc0:l0.length≤c0)(hr1:Kd.C (Kd.int .i64) w A1 l1.length l1)(hc1:l1.length≤c1)(H:bg.f k l0 l1=some r):
 Calls Tryz.prog 176 #[.slice A0 l0.length c0,.slice A1 l1.length c1] w λ e w'=>e= .returned (.int .i64 r)∧aM w w':=by
 have T:=ah.mk hr0;have HC0:=ah.mk hc0;clear hr0 hc0;have HR1:=ah.mk hr1;have HC1:=ah.mk hc1;clear hr1 hc1;unfold bg.f at H;revert H;refine ci (λ c3 H=>?_) λ c3 H=>?_
 .have aa:((l0.length:Int)==(l1.length:Int))=true:=beq_iff_eq.mpr c3
  have ab:((l0.length:Int) !=(l1.length:Int))=false:=bne_eq_false_iff_eq.mpr c3;have ac:(l0.length==l1.length)=true:=by first|simpa using c3|(simp at c3|-;omega)
  clear c3;have H':=ah.mk H;clear H;go_enter Tryz.func176,Tryz.ntmps176;go_wp2;repeat(go_quiet (fail);try go_wp2)
  go_loopg [5] k (λ kq v5 w'=>∃(s:Int),v5= .int .i64 s∧ah (bg.l0 kq l0 l1 s=some r)∧ah (kq≤k)∧aM w w')
  case atStart=>exact⟨(wrap64 ((l0.length:Int)-1)),rS,H',⟨Nat.le_refl _⟩,by repeat(first|exact aM.refl _|apply aM.step)⟩
  case round=>
   clear H';clear aa ab ac;obtain⟨s,rfl,HA,ao,⟨m1,rfl⟩⟩:=hrel;cases gk with
   |zero=>exact absurd HA.out (by simp[bg.l0])
   |succ k1=>
    have H:=HA.out;clear HA;simp only[bg.l0]at H;revert H;refine ci (λ c4 H=>?_) λ c4 H=>?_
    .have ap:=decide_eq_true c4
     clear c4;revert H;refine cn λ c5 H=>?_;have c5b0:=decide_eq_true c5;clear c5;revert H;refine cn λ c6 H=>?_;have c6b0:=decide_eq_true c6;clear c6;revert H;refine cn λ c7 H=>?_;have c7b0:=decide_eq_true c7;clear c7;revert H;refine ci (λ c8 H=>?_) λ c8 H=>?_
     .have aq:=decide_eq_true c8
      clear c8;obtain rfl:=Option.some.inj H;obtain⟨z,E,I,ae,af⟩:=ai T.out s;cases E;obtain⟨D,F,J,ag,al⟩:=ai HR1.out s;cases F;go_wp2;repeat(go_quiet (fail);try go_wp2)
      go_ret;exact⟨rS,by repeat(first|exact aM.refl _|apply aM.step)⟩
     .have aq:=decide_eq_false c8
      clear c8;revert H;refine ci (λ c9 H=>?_) λ c9 H=>?_
      .have ar:=decide_eq_true c9
       clear c9;obtain rfl:=Option.some.inj H;obtain⟨z,E,I,ae,af⟩:=ai T.out s;cases E;obtain⟨D,F,J,ag,al⟩:=ai HR1.out s;cases F;obtain⟨L,U,Y,av,aw⟩:=ai T.out s;obtain rfl:z=L:=(by injection U);obtain⟨O,X,Z,ax,ay⟩:=ai HR1.out s;obtain rfl:D=O:=(by injection X);go_wp2;repeat(go_quiet (fail);try go_wp2)
       go_ret;exact⟨rS,by repeat(first|exact aM.refl _|apply aM.step)⟩
      .have ar:=decide_eq_false c9
       clear c9;have H':=ah.mk H;clear H;obtain⟨z,E,I,ae,af⟩:=ai T.out s;cases E;obtain⟨D,F,J,ag,al⟩:=ai HR1.out s;cases F;obtain⟨L,U,Y,av,aw⟩:=ai T.out s;obtain rfl:z=L:=(by injection U);obtain⟨O,X,Z,ax,ay⟩:=ai HR1.out s;obtain rfl:D=O:=(by injection X);go_wp2;repeat(go_quiet (fail);try go_wp2)
       go_roundg k1
       case measure=>have:=ao.out;omega
       case rel=>exact⟨(wrap64 (s-1)),rS,H',⟨by have:=ao.out;omega⟩,by repeat(first|exact aM.refl _|apply aM.step)⟩
    .have ap:=decide_eq_false c4
     clear c4;obtain rfl:=Option.some.inj H;go_wp2;repeat(go_quiet (fail);try go_wp2)
     go_ret;exact⟨rS,by repeat(first|exact aM.refl _|apply aM.step)⟩
 .have aa:((l0.length:Int)==(l1.length:Int))=false:=beq_eq_false_iff_ne.mpr c3
  have ab:((l0.length:Int) !=(l1.length:Int))=true:=bne_iff_ne.mpr c3;have ac:(l0.length==l1.length)=false:=by first|simpa using c3|(simp at c3|-;omega)
  revert H;refine ci (λ c10 H=>?_) λ c10 H=>?_
  .have am:=decide_eq_true c10
   have an:decide (l0.length<l1.length)=true:=decide_eq_true (Int.ofNat_lt.mp c10);clear c10;obtain rfl:=Option.some.inj H;go_enter Tryz.func176,Tryz.ntmps176;go_wp2;repeat(go_quiet (fail);try go_wp2)
   go_ret;exact⟨rS,by repeat(first|exact aM.refl _|apply aM.step)⟩
  .have am:=decide_eq_false c10
   have an:decide (l0.length<l1.length)=false:=decide_eq_false (λ h=>c10 (Int.ofNat_lt.mpr h));clear c10;obtain rfl:=Option.some.inj H;go_enter Tryz.func176,Tryz.ntmps176;go_wp2;repeat(go_quiet (fail);try go_wp2)
   go_ret;exact⟨rS,by repeat(first|exact aM.refl _|apply aM.step)⟩
mutual
def bC.j0:Nat->ByteArray->Bool->Option (Bool)
 |0,_,_=>none
 |k+1,x0,x21=>if x21=true then(some false)else(bC.l0 k x0 0)
def bC.l0:Nat->ByteArray->Int->Option (Bool)
 |0,_,_=>none
 |k+1,x0,x3=>if x3<(x0.size:Int)then(if 0≤x3 then(if(bt x0 x3)<48 then(some false)else(if(bt x0 x3)>57 then(some false)else(bC.l0 k x0 (wrap64 (x3+1)))))else(none))else(some true)
end
def bC.f(k:Nat)(a0:ByteArray):Option (Bool):=if(a0.size:Int)=0 then(bC.j0 k a0 true)else(if(a0.size:Int)>300 then(bC.j0 k a0 true)else(if(a0.size:Int)>1 then(if 0<(a0.size:Int)then(bC.j0 k a0 ((bt a0 0)==48))else(none))else(bC.j0 k a0 false)))
set_option maxHeartbeats 8000000 in
set_option maxRecDepth 100000 in
theorem bC.calls(k:Nat)(a0:ByteArray)(r:Bool)(w:World)(H:bC.f k a0=some r):
 Calls Tryz.prog 174 #[.string a0] w λ e w'=>e= .returned (.bool r)∧aM w w':=by
 unfold bC.f at H;have L:=ah.mk H;clear H;go_enter Tryz.func174,Tryz.ntmps174
 go_upto_region 1 with(fail)
 go_cut [21] (λ v21 wc=>∃(kq:Nat)(E:Bool),v21= .bool E∧ah (bC.j0 kq a0 E=some r)∧ah (kq≤k)∧aM w wc)
 case first=>
  have H:=L.out;clear L;revert H;refine ci (λ c3 H=>?_) λ c3 H=>?_
  .have F:((a0.size:Int)==0)=true:=beq_iff_eq.mpr c3
   have aa:((a0.size:Int) !=0)=false:=bne_eq_false_iff_eq.mpr c3;clear c3
   (first|rw[F]|(simp only[eY,iI];rw[F])|skip)
   have H':=ah.mk H;clear H;go_wp2;go_meet
   case rel=>exact⟨_,(true),rS,H',⟨by first|omega|exact Nat.le_refl _⟩,by repeat(first|exact aM.refl _|apply aM.step)⟩
  .have F:((a0.size:Int)==0)=false:=beq_eq_false_iff_ne.mpr c3
   have aa:((a0.size:Int) !=0)=true:=bne_iff_ne.mpr c3
   (first|rw[F]|(simp only[eY,iI];rw[F])|skip)
   revert H;refine ci (λ c4 H=>?_) λ c4 H=>?_
   .have ab:=decide_eq_true c4
    have ac:decide (300<a0.size)=true:=decide_eq_true (by omega);clear c4;have H':=ah.mk H;clear H;go_wp2;go_meet
    case rel=>exact⟨_,(true),rS,H',⟨by first|omega|exact Nat.le_refl _⟩,by repeat(first|exact aM.refl _|apply aM.step)⟩
   .have ab:=decide_eq_false c4
    have ac:decide (300<a0.size)=false:=decide_eq_false (by omega);clear c4;revert H;refine ci (λ c5 H=>?_) λ c5 H=>?_
    .have ae:=decide_eq_true c5
     have af:decide (1<a0.size)=true:=decide_eq_true (by omega);clear c5;revert H;refine cn λ c6 H=>?_;have c6b0:=decide_eq_true c6;have c6b1:decide (0<a0.size)=true:=decide_eq_true (by omega);clear c6;have H':=ah.mk H;clear H;have p7:0≤(0:Int):=(by omega);have q7:0<a0.size:=(by have:(0:Int)<(a0.size:Int):=oA;omega);have hx7:∀h:0<a0.size,((a0[0]'h).toNat:Int)=bt a0 0:=iX a0 0;clear p7;have qi7:(0<(a0.size:Int))=True:=eq_true oA;replace q7:=eq_true q7;go_wp2;go_meet
     case rel=>exact⟨_,(((bt a0 0)==48)),rS,H',⟨by first|omega|exact Nat.le_refl _⟩,by repeat(first|exact aM.refl _|apply aM.step)⟩
    .have ae:=decide_eq_false c5
     have af:decide (1<a0.size)=false:=decide_eq_false (by omega);clear c5;have H':=ah.mk H;clear H;go_wp2;go_meet
     case rel=>exact⟨_,(false),rS,H',⟨by first|omega|exact Nat.le_refl _⟩,by repeat(first|exact aM.refl _|apply aM.step)⟩
 case rest=>
  clear L;obtain⟨kq,E,rfl,HA,X,⟨mc1,rfl⟩⟩:=hcut;cases kq with
  |zero=>exact absurd HA.out (by simp[bC.j0])
  |succ Y=>
   have H:=HA.out;clear HA;simp only[bC.j0]at H;obtain rfl|rfl:=tb E
   .replace H:=it H
    obtain rfl:=Option.some.inj H;go_wp2;go_ret;exact⟨rS,by repeat(first|exact aM.refl _|apply aM.step)⟩
   .replace H:=jf H
    have H':=ah.mk H;clear H;go_wp2;go_loopg [3] Y (λ kq v3 w'=>∃(s:Int),v3= .int .i64 s∧ah (bC.l0 kq a0 s=some r)∧ah (kq≤Y)∧aM w w')
    case atStart=>exact⟨(0),rS,H',⟨Nat.le_refl _⟩,by repeat(first|exact aM.refl _|apply aM.step)⟩
    case round=>
     clear H';obtain⟨s,rfl,HA,Z,⟨m2,rfl⟩⟩:=hrel;cases gk with
     |zero=>exact absurd HA.out (by simp[bC.l0])
     |succ k2=>
      have H:=HA.out;clear HA;simp only[bC.l0]at H;revert H;refine ci (λ c9 H=>?_) λ c9 H=>?_
      .have ag:=decide_eq_true c9
       clear c9;revert H;refine cn λ c10 H=>?_;have c10b0:=decide_eq_true c10;clear c10;revert H;refine ci (λ c12 H=>?_) λ c12 H=>?_
       .have T:=decide_eq_true c12
        clear c12;obtain rfl:=Option.some.inj H;have z:0≤(s:Int):=oA;have D:s<(a0.size:Int):=oA;have O:=iX a0 s;replace z:=eq_true z;replace D:=eq_true D;go_wp2;go_ret;exact⟨rS,by repeat(first|exact aM.refl _|apply aM.step)⟩
       .have T:=decide_eq_false c12
        clear c12;revert H;refine ci (λ c14 H=>?_) λ c14 H=>?_
        .have U:=decide_eq_true c14
         clear c14;obtain rfl:=Option.some.inj H;have z:0≤(s:Int):=oA;have D:s<(a0.size:Int):=oA;have O:=iX a0 s;replace z:=eq_true z;replace D:=eq_true D;have I:0≤(s:Int):=oA;have J:s<(a0.size:Int):=oA;have al:=iX a0 s;replace I:=eq_true I;replace J:=eq_true J;go_wp2;go_ret;exact⟨rS,by repeat(first|exact aM.refl _|apply aM.step)⟩
        .have U:=decide_eq_false c14
         clear c14;have H':=ah.mk H;clear H;have z:0≤(s:Int):=oA;have D:s<(a0.size:Int):=oA;have O:=iX a0 s;replace z:=eq_true z;replace D:=eq_true D;have I:0≤(s:Int):=oA;have J:s<(a0.size:Int):=oA;have al:=iX a0 s;replace I:=eq_true I;replace J:=eq_true J;go_wp2;go_roundg k2
         case measure=>have:=X.out;have:=Z.out;omega
         case rel=>exact⟨(wrap64 (s+1)),rS,H',⟨by have:=X.out;have:=Z.out;omega⟩,by repeat(first|exact aM.refl _|apply aM.step)⟩
      .have ag:=decide_eq_false c9
       clear c9;obtain rfl:=Option.some.inj H;go_wp2;go_ret;exact⟨rS,by repeat(first|exact aM.refl _|apply aM.step)⟩
def bq.l0:Nat->Int->List Int->Option (List Int)
 |0,_,_=>none
 |k+1,x0,x3=>if x0>0 then(if x3.length<17592186044416 then(bq.l0 k (IntKind.u64.wrap (Int.tdiv x0 10000)) (x3++[wrap64 (Int.tmod x0 10000)]))else(none))else(some x3)
def bq.f(k:Nat)(a0:Int):Option (List Int):=bq.l0 k a0 ([]:List Int)
set_option maxHeartbeats 8000000 in
set_option maxRecDepth 100000 in
theorem bq.calls(k:Nat)(a0:Int)(r:List Int)(w:World)(H:bq.f k a0=some r):
 Calls Tryz.prog 137 #[.int .u64 a0] w λ e w'=>∃L:Value,e= .returned (L)∧Kd.R (Kd.int .i64) 3 w' w.heap.size (λ _=>True) L r∧Below w.heap.size w w':=by
 have HB:=ah.mk (Below.refl w.heap.size w);unfold bq.f at H;have H':=ah.mk H;clear H;go_enter Tryz.func137,Tryz.ntmps137;go_wp2;go_loopg [0,3] k (λ kq v0 v3 w'=>∃(s:Int)(z:List Int),v0= .int .u64 s∧ah (bq.l0 kq s z=some r)∧ah (kq≤k)∧ah (Kd.R (Kd.int .i64) 3 w' w.heap.size (λ _=>True) v3 z)∧ah (Below w.heap.size w w'))
 case atStart=>exact⟨(a0),(([]:List Int)),rS,H',⟨Nat.le_refl _⟩,⟨by first|exact Kd.mZ _ _ _ _ _|exact Kd.F3 _ _ _ _ _|exact Kd.lu _ _ _ _ _|exact Kd.F4 _ _ _ _ _|exact Kd.F5 _ _ _ _ _⟩,⟨hB⟩⟩
 case round=>
  clear H';obtain⟨s,z,rfl,HA,O,D,HB⟩:=hrel;cases gk with
  |zero=>exact absurd HA.out (by simp[bq.l0])
  |succ k1=>
   have H:=HA.out;clear HA;simp only[bq.l0]at H;revert H;refine ci (λ c2 H=>?_) λ c2 H=>?_
   .have T:=decide_eq_true c2
    clear c2;revert H;refine cn λ c3 H=>?_;have U:=ah.mk c3;clear c3;first|(revert H;with_reducible refine gy λ I E H=>?_)|(generalize F:((z++[wrap64 (Int.tmod s 10000)]):List Int)=I at H;have E:=ah.mk F.symm;clear F)
    have H':=ah.mk H;clear H
    go_wp2_with (first|((with_reducible refine eX (b:= .append) (xs:= #[.tmp 6,.tmp 10]) rfl ?_);at_builtin;refine Kd.jl (Kd.int .i64) (w0:=w) w.heap.size rfl (.tmp 6) (.tmp 10) 120 3 (.int .i64 0) 8 rfl Tryz.underlying120 info3 rfl (by decide) (by omega) u3 z (wrap64 (Int.tmod s 10000)) [.int .i64 (wrap64 (Int.tmod s 10000))] (λ _=>True) (λ _=>False) rfl rfl ?X (λ _ hk=>hk.elim) ?Y ?Z ?aa ?ab ?ac ?_;(case X=>exact rfl);(case aa=>exact hB);(case Y=>exact(λ _ _=>trivial));(case Z=>exact(kd D));(case ab=>exact(bG hB));(case ac=>have:=U.out;omega);intro v366 w4 ho hb hg hat;rw[<-E.out]at ho;replace HB:=ah.mk (hb);have J:=ah.mk (ho);clear D ho hb hg hat))
    go_roundg k1
    case measure=>have:=O.out;omega
    case rel=>exact⟨(IntKind.u64.wrap (Int.tdiv s 10000)),(I),rS,H',⟨by have:=O.out;omega⟩,⟨kd J⟩,⟨hB⟩⟩
   .have T:=decide_eq_false c2
    clear c2;obtain rfl:=Option.some.inj H;go_wp2;go_ret;exact⟨_,rW,kd D,hB⟩
def dD.l0:Nat->Int->Int->Option (Int)
 |0,_,_=>none
 |k+1,x3,x4=>if x4>0 then(dD.l0 k (wrap64 (x3+1)) (wrap64 (Int.tdiv x4 10)))else(some x3)
def dD.f(k:Nat)(l0:List Int):Option (Int):=if(l0.length:Int)=0 then(some 1)else(if 0≤(wrap64 ((l0.length:Int)-1))then(if(wrap64 ((l0.length:Int)-1))<(l0.length:Int)then(dD.l0 k (wrap64 (4*(wrap64 ((l0.length:Int)-1)))) (rd l0 (wrap64 ((l0.length:Int)-1))))else(none))else(none))
set_option maxHeartbeats 8000000 in
set_option maxRecDepth 100000 in
theorem dD.calls(k:Nat)(A0:Option Addr)(c0:Nat)(l0:List Int)(r:Int)(w:World)(hr0:Kd.C (Kd.int .i64) w A0 l0.length l0)(hc0:l0.length≤c0)(H:dD.f k l0=some r):
 Calls Tryz.prog 243 #[.slice A0 l0.length c0] w λ e w'=>e= .returned (.int .i64 r)∧aM w w':=by
 have ab:=ah.mk hr0;have HC0:=ah.mk hc0;clear hr0 hc0;unfold dD.f at H;revert H;refine ci (λ c2 H=>?_) λ c2 H=>?_
 .have I:((l0.length:Int)==0)=true:=beq_iff_eq.mpr c2
  have J:((l0.length:Int) !=0)=false:=bne_eq_false_iff_eq.mpr c2;clear c2;obtain rfl:=Option.some.inj H;go_enter Tryz.func243,Tryz.ntmps243;go_wp2;go_ret;exact⟨rS,by repeat(first|exact aM.refl _|apply aM.step)⟩
 .have I:((l0.length:Int)==0)=false:=beq_eq_false_iff_ne.mpr c2
  have J:((l0.length:Int) !=0)=true:=bne_iff_ne.mpr c2;have O:¬(l0=[]):=λ h_=>c2 (by rw[h_];rfl);obtain⟨E,s⟩:∃ac,(wrap64 ((l0.length:Int)-1))=ac:=⟨_,rfl⟩;first|rw[s]at H|simp only[s]at H
  have hji3w:(IntKind.i64.wrap ((l0.length:Int)-1))=E:=(eY _).trans s;revert H;refine cn λ c4 H=>?_;have T:=decide_eq_true c4;clear c4;revert H;refine cn λ c5 H=>?_;have U:=decide_eq_true c5;clear c5;have H':=ah.mk H;clear H;obtain⟨ad525,X,F,Y,Z⟩:=ai ab.out (E);cases X;go_enter Tryz.func243,Tryz.ntmps243;go_wp2;go_loopg [3,4] k (λ kq v3 v4 w'=>∃(z:Int)(D:Int),v3= .int .i64 z∧v4= .int .i64 D∧ah (dD.l0 kq z D=some r)∧ah (kq≤k)∧aM w w')
  case atStart=>exact⟨(wrap64 (4*(E))),(rd l0 (E)),(by first|rfl|(simp;done)|(simp only[<-s]<;>(first|rfl|simp))|(simp[*];done)),(by first|rfl|(simp;done)|(simp only[<-s]<;>(first|rfl|simp))|(simp[*];done)),H',⟨Nat.le_refl _⟩,by repeat(first|exact aM.refl _|apply aM.step)⟩
  case round=>
   clear H';clear I J O T U F Y Z;obtain⟨z,D,rfl,rfl,HA,L,⟨m1,rfl⟩⟩:=hrel;cases gk with
   |zero=>exact absurd HA.out (by simp[dD.l0])
   |succ k1=>
    have H:=HA.out;clear HA;simp only[dD.l0]at H;revert H;refine ci (λ c6 H=>?_) λ c6 H=>?_
    .have aa:=decide_eq_true c6
     clear c6;have H':=ah.mk H;clear H;go_wp2;go_roundg k1
     case measure=>have:=L.out;omega
     case rel=>exact⟨(wrap64 (z+1)),(wrap64 (Int.tdiv D 10)),rS,rS,H',⟨by have:=L.out;omega⟩,by repeat(first|exact aM.refl _|apply aM.step)⟩
    .have aa:=decide_eq_false c6
     clear c6;obtain rfl:=Option.some.inj H;go_wp2;go_ret;exact⟨by first|rfl|(simp;done)|(simp only[<-s]<;>(first|rfl|simp))|(simp[*];done),by repeat(first|exact aM.refl _|apply aM.step)⟩
def dA.l0:Nat->List Int->Int->Int->Int->Option (Int)
 |0,_,_,_,_=>none
 |k+1,x0,x1,x5,x6=>if x6≥x1 then(if x6≥0 then(if 0≤x6 then(if x6<(x0.length:Int)then(dA.l0 k x0 x1 (wrap64 ((wrap64 (x5*10000))+(rd x0 x6))) (wrap64 (x6-1)))else(none))else(none))else(some x5))else(some x5)
def dA.f(k:Nat)(l0:List Int)(a1:Int):Option (Int):=dA.l0 k l0 a1 0 (wrap64 ((l0.length:Int)-1))
set_option maxHeartbeats 8000000 in
set_option maxRecDepth 100000 in
theorem dA.calls(k:Nat)(A0:Option Addr)(c0:Nat)(l0:List Int)(a1:Int)(r:Int)(w:World)(hr0:Kd.C (Kd.int .i64) w A0 l0.length l0)(hc0:l0.length≤c0)(H:dA.f k l0 a1=some r):
 Calls Tryz.prog 266 #[.slice A0 l0.length c0,.int .i64 a1] w λ e w'=>e= .returned (.int .i64 r)∧aM w w':=by
 have J:=ah.mk hr0;have HC0:=ah.mk hc0;clear hr0 hc0;unfold dA.f at H;have H':=ah.mk H;clear H;go_enter Tryz.func266,Tryz.ntmps266;go_wp2;go_loopg [5,6] k (λ kq v5 v6 w'=>∃(z:Int)(s:Int),v5= .int .i64 z∧v6= .int .i64 s∧ah (dA.l0 kq l0 a1 z s=some r)∧ah (kq≤k)∧aM w w')
 case atStart=>exact⟨(0),(wrap64 ((l0.length:Int)-1)),rS,rS,H',⟨Nat.le_refl _⟩,by repeat(first|exact aM.refl _|apply aM.step)⟩
 case round=>
  clear H';obtain⟨z,s,rfl,rfl,HA,D,⟨m1,rfl⟩⟩:=hrel;cases gk with
  |zero=>exact absurd HA.out (by simp[dA.l0])
  |succ k1=>
   have H:=HA.out;clear HA;simp only[dA.l0]at H;revert H;refine ci (λ c3 H=>?_) λ c3 H=>?_
   .have E:=decide_eq_true c3
    clear c3;revert H;refine ci (λ c4 H=>?_) λ c4 H=>?_
    .have F:=decide_eq_true c4
     clear c4;revert H;refine cn λ c5 H=>?_;have c5b0:=decide_eq_true c5;clear c5;revert H;refine cn λ c6 H=>?_;have c6b0:=decide_eq_true c6;clear c6;have H':=ah.mk H;clear H;obtain⟨ad401,I,hx401_0,p401,q401⟩:=ai J.out s;cases I;go_wp2;go_roundg k1
     case measure=>have:=D.out;omega
     case rel=>exact⟨(wrap64 ((wrap64 (z*10000))+(rd l0 s))),(wrap64 (s-1)),rS,rS,H',⟨by have:=D.out;omega⟩,by repeat(first|exact aM.refl _|apply aM.step)⟩
    .have F:=decide_eq_false c4
     clear c4;obtain rfl:=Option.some.inj H;go_wp2;go_ret;exact⟨rS,by repeat(first|exact aM.refl _|apply aM.step)⟩
   .have E:=decide_eq_false c3
    clear c3;obtain rfl:=Option.some.inj H;go_wp2;go_ret;exact⟨rS,by repeat(first|exact aM.refl _|apply aM.step)⟩
end Go.Proofs.Ct.Q
