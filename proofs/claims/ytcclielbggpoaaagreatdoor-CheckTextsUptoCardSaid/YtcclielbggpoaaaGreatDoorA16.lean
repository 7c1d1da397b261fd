/- Part of the proof of CheckTexts (see the last text). -/
import Derived.Lib.ItoaLen
import Derived.MapKept
import Derived.Test.YtcclielbggpoaaaGreatDoorA15
set_option linter.all false
namespace Go.Proofs.Ct.Q
open Go.RowKit Go.Proofs.aA.ak Go.Proofs.aA.aC Go.Proofs.aA.aG Go.Proofs.bO
theorem DJ(f:iY):∀l:List iY,pO (l++[f])=pO l++sM f
 |[]=>by
  show sM f++pO []=(⟨#[]⟩:ByteArray)++sM f;rw[pO];have e1:∀b:ByteArray,b++(⟨#[]⟩:ByteArray)=b:=λ b=>by ext1;simp
  have e2:∀b:ByteArray,(⟨#[]⟩:ByteArray)++b=b:=λ b=>by ext1;simp
  rw[e1,e2]
 |x::l=>by rw[List.cons_append,pO,pO,DJ f l,ByteArray.append_assoc]
theorem Aw{k:Int}(h0:0≤k)(h1:k<13):(iG k).size≤1000:=by
 obtain⟨n,rfl⟩:∃n:Nat,k=n:=⟨k.toNat,by omega⟩;have hn:n<13:=by omega
 have:∀n:Fin 13,(iG (n:Nat)).size≤1000:=by decide
 exact this ⟨n,hn⟩
theorem qc(s:ByteArray):(gW s).size≤s.size+1:=by
 unfold gW;split
 .show 1≤_;omega
 .omega
theorem Ca{a:Int}(h0: -9223372036854775808≤a)(h1:a≤9223372036854775807):(Lib.itoa a).length≤1000:=Nat.le_trans (Lib.itoa_length_le a h0 h1) (by omega)
theorem Ef{f:iY}(h:mO f=true):0≤f.f1∧f.f1<13:=by
 unfold mO at h;simp only[Bool.and_eq_true,decide_eq_true_eq]at h;exact⟨h.1.1.1,h.1.1.2⟩
theorem Fw{f:iY}(hk:0≤f.f1∧f.f1<13)(h0: -9223372036854775808≤f.f0)(h1:f.f0≤9223372036854775807)(h2:f.f2.size≤4000000)(h3:f.f3.size≤4000000):(sM f).size≤8003000:=by
 have a1:=Aw hk.1 hk.2;have a2:=qc f.f2;have a3:=qc f.f3;have a4:=Ca h0 h1;unfold sM;simp only[ByteArray.size_append];have e1:(⟨#[32]⟩:ByteArray).size=1:=rfl;have e2:(⟨#[10]⟩:ByteArray).size=1:=rfl;have e3:(⟨(Lib.itoa f.f0).toArray⟩:ByteArray).size=(Lib.itoa f.f0).length:=by show(Lib.itoa f.f0).toArray.size=_;simp
 omega
theorem DK:∀l:List iY,Dc l->l.all mO=true->(pO l).size≤l.length*8003000
 |[],_,_=>by decide
 |f::l,hz,ha=>by
  have h:=hz f List.mem_cons_self;rw[List.all_cons,Bool.and_eq_true]at ha;have h1:=Fw (Ef ha.1) h.2.2.1 h.2.2.2 h.1 h.2.1;have h2:=DK l (λ x hx=>hz x (List.mem_cons_of_mem _ hx)) ha.2;rw[pO,ByteArray.size_append,List.length_cons];omega
def Lines(l:List iY)(j:Nat)(t:ByteArray):Prop:=t=pO (l.take j)∧(l.take j).all mO=true
theorem Sj{l:List iY}{j:Nat}(h:j<l.length):lZ l (j:Int)=l[j]:=by unfold lZ;simp[List.getD_eq_getElem?_getD,h]
theorem vZ{l:List iY}(hz:Dc l){j:Nat}(h:j<l.length):(lZ l (j:Int)).f2.size≤4000000∧(lZ l (j:Int)).f3.size≤4000000∧ -9223372036854775808≤(lZ l (j:Int)).f0∧(lZ l (j:Int)).f0≤9223372036854775807:=by
 rw[Sj h];exact hz l[j] (List.getElem_mem _)
theorem Lines.size{l:List iY}{j:Nat}{t:ByteArray}(h:Lines l j t)(hz:Dc l)(hl:l.length≤60):t.size≤4000000000000:=by
 rw[h.1];have:=DK (l.take j) (λ x hx=>hz x (List.mem_of_mem_take hx)) h.2;have h2:(l.take j).length≤60:=by rw[List.length_take];omega
 omega
theorem Lines.next{l:List iY}{j:Nat}{x:ByteArray}{f:iY}(h:Lines l j x)(hj:j<l.length)(hf:lZ l (j:Int)=f)(hb:mO f=true):Lines l (j+1) (x++sM f):=by
 rw[Sj hj]at hf;have e:l.take (j+1)=l.take j++[f]:=by rw[List.take_succ_eq_append_getElem hj,hf]
 refine⟨?_,?_⟩
 .rw[e,DJ,<-h.1]
 .rw[e,List.all_append,h.2];simp[hb]
theorem Lines.bad{l:List iY}{j:Nat}{f:iY}(hj:j<l.length)(hf:lZ l (j:Int)=f)(hb:mO f=false):Av l=((⟨#[]⟩:ByteArray),1):=by
 rw[Sj hj]at hf;unfold Av;rw[if_neg];intro h;have:=List.all_eq_true.1 h l[j] (List.getElem_mem _);rw[hf,hb]at this;cases this
theorem Lines.all{l:List iY}{x:ByteArray}(h:Lines l l.length x):Av l=(x,0):=by
 unfold Av;obtain⟨h1,h2⟩:=h;rw[List.take_length]at h1 h2;rw[if_pos h2,h1]
theorem LX(x:ByteArray)(f:iY):((((((((x++(⟨(Lib.itoa f.f0).toArray⟩:ByteArray))++(⟨#[32]⟩:ByteArray))++iG f.f1)++(⟨#[32]⟩:ByteArray))++gW f.f2)++(⟨#[32]⟩:ByteArray))++gW f.f3)++(⟨#[10]⟩:ByteArray))=x++sM f:=by
 unfold sM;simp only[ByteArray.append_assoc]
end Go.Proofs.Ct.Q
namespace Go.Proofs.Ct.Q
open Go.Shelf Go.RowKit Go.Proofs.aA.ak Go.Proofs.aA.aC Go.Proofs.aA.aG Go.Proofs.bO Go.Lib
attribute [local go_sem] aW aX bA bB
theorem mM(t:ByteArray)(W:World):Calls Tryz.prog 174 #[.string t] W λ e W'=>e= .returned (.bool (l9 t))∧aM W W':=bC.calls 303 t _ W (Qb t)
theorem qJ(t:ByteArray)(hd:qY t)(h:t.size<10000)(W:World):Calls Tryz.prog 175 #[.string t] W λ e W'=>∃s:Value,e= .returned s∧Kd.V (Kd.int .i64) 3 W' W.heap.size (λ k_=>W.heap.size≤k_) s (limbs R (bX t))∧Below W.heap.size W W':=
 bJ.calls 100000 t _ W (NG t hd h 100000 (by omega))
theorem lD(W:World):Calls Tryz.prog 137 #[.int .u64 1] W λ e W'=>∃s:Value,e= .returned s∧Kd.R (Kd.int .i64) 3 W' W.heap.size (λ _=>True) s (limbs R 1)∧Below W.heap.size W W':=
 bq.calls 6 1 _ W (tZ 1 (by decide) 6 (by decide))
theorem Qc{s:ByteArray}(h:iF s=true):s.extract 1 s.size=fK s:=by
 obtain⟨l,h1,h2⟩:=uf h;apply ByteArray.ext;apply Array.ext';rw[h2,ByteArray.data_extract,Array.toList_extract,h1];have e:s.size=(45::l).length:=by rw[<-h1];simp
 rw[e];simp[List.extract]
def Fq(w:World)(s:ByteArray)(e:Ending)(w':World):Prop:=∃z D:Value,
 e= .returned (.tuple #[.agg #[.bool (dW s&&oP s),z,D],.bool (dW s)])∧
 Kd.V (Kd.int .i64) 3 w' w.heap.size (λ k_=>w.heap.size≤k_) z (if dW s then limbs R (kG s)else [])∧
 Kd.V (Kd.int .i64) 3 w' w.heap.size (λ k_=>w.heap.size≤k_) D (if dW s then limbs R (pJ s)else [])∧Below w.heap.size w w'
theorem Kr{t:ByteArray}(h:l9 t=true):(limbs R (bX t)).length<10000:=by
 obtain⟨hc,h3⟩:=nY h;have h1:(limbs R (bX t)).length≤t.size:=by
  apply gB R2;refine Nat.lt_of_lt_of_le (GR hc.1) ?_;exact Nat.pow_le_pow_left (by decide) _
 omega
theorem Ar{w W:World}{s:ByteArray}{m:Bool}{N D:List Int}{v1 v2:Value}(h:dW s=true)(hm:m=oP s)(hN:N=limbs R (kG s))(hD:D=limbs R (pJ s))(hb:Below w.heap.size w W)
 (h1:Kd.V (Kd.int .i64) 3 W w.heap.size (λ k_=>w.heap.size≤k_) v1 N)(h2:Kd.V (Kd.int .i64) 3 W w.heap.size (λ k_=>w.heap.size≤k_) v2 D):Fq w s (.returned (.tuple #[.agg #[.bool m,v1,v2],.bool true])) W:=by
 subst hm hN hD;unfold Fq;rw[h];exact⟨v1,v2,rfl,h1,h2,hb⟩
theorem nZ{w W:World}{s:ByteArray}(h:dW s=false)(hb:Below w.heap.size w W):Fq w s (.returned (.tuple #[.agg #[.bool false,.slice none 0 0,.slice none 0 0],.bool false])) W:=by
 unfold Fq;rw[h];exact⟨.slice none 0 0,.slice none 0 0,rfl,Kd.lu _ _ _ _ _,Kd.lu _ _ _ _ _,hb⟩
set_option maxHeartbeats 20000000 in
set_option maxRecDepth 100000 in
theorem R9(s:ByteArray)(w:World)(hsz:s.size≤9223372036854775807):
 Calls Tryz.prog 96 #[.string s] w λ e w'=>Fq w s e w':=by
 have HP:=Lib.hid (parts s);have ar:=Lib.hid (Ed s);have HM:=Lib.hid (Wi s);go_enter Tryz.func96,Tryz.ntmps96
 go_upto_region 1 with fail
 go_cut [4] (λ v4 wc=>v4= .bool (iF s)∧ah (wc.heap[w.heap.size]? =some (.cells #[.bool false,.slice none 0 0,.slice none 0 0] 122 (0,0)))∧ah (Below w.heap.size w wc))
 case first=>
  have D:=ah.mk (lS w (.cells #[.bool false,.slice none 0 0,.slice none 0 0] 122));have HB:=ah.mk ((Below.refl w.heap.size w).alloc (Nat.le_refl _) (.cells #[.bool false,.slice none 0 0,.slice none 0 0] 122));by_cases h0:s.size=0
  .have hN:iF s=false:=by rw[HM.out,h0];rfl
   have HN:=Lib.hid hN;clear hN;have b1:decide ((0:Int)<(s.size:Int))=false:=decide_eq_false (by omega);go_wp2;go_meet
   case rel=>exact⟨by rw[HN.out],⟨D.out⟩,⟨HB.out⟩⟩
  .have h1:0<s.size:=by omega
   have hbt:∀h:0<s.size,((s[0]'h).toNat:Int)=bt s 0:=iX s 0;have b1:decide ((0:Int)<(s.size:Int))=true:=decide_eq_true (by omega);have hN:iF s=(bt s 0==45):=by rw[HM.out,decide_eq_true h1,Bool.true_and]
   have HN:=Lib.hid hN;clear hN;cases hz:(bt s 0==45)with
   |true=>
    have aD:=Lib.hid hz;go_wp2;go_meet
    case rel=>exact⟨by rw[HN.out,aD.out],⟨D.out⟩,⟨HB.out⟩⟩
   |false=>
    have aD:=Lib.hid hz;go_wp2;go_meet
    case rel=>exact⟨by rw[HN.out,aD.out],⟨D.out⟩,⟨HB.out⟩⟩
 case rest=>
  obtain⟨rfl,D,HB⟩:=hcut;obtain⟨m,hm⟩:∃m,iF s=m:=⟨_,rfl⟩;have U:=Lib.hid hm;rw[hm];clear hm
  go_upto_if 16 with fail
  go_cut [0] (λ v0 wx=>v0= .string (fK s)∧ah (wx.heap[w.heap.size]? =some (.cells #[.bool false,.slice none 0 0,.slice none 0 0] 122 (0,0)))∧ah (Below w.heap.size w wx))
  case first=>
   cases m with
   |true=>
    have HS:=Lib.hid (Qc U.out);have h1:1≤s.size:=(Qd U.out).1;go_wp2;go_meet
    case rel=>exact⟨by rw[HS.out],D,HB⟩
   |false=>
    have HS:=Lib.hid (pK U.out);go_wp2;go_meet
    case rel=>exact⟨by rw[HS.out],D,HB⟩
  case rest=>
   obtain⟨rfl,D,HB⟩:=hcut;have hle:=Wj (fK s);have HL:=Lib.hid (λ(j:Nat)=>Wm (u:=fK s) (j:=j));have HT:=Lib.hid (Wo (u:=fK s));obtain⟨u,hu⟩:∃u,fK s=u:=⟨_,rfl⟩;have HU:=Lib.hid hu;rw[hu]at hle HL HT ar HP|-
   clear hu;obtain⟨p,hp⟩:∃p,zH u=p:=⟨_,rfl⟩;rw[hp]at hle HL HT HP;have HPP:=Lib.hid hp;have hus:u.size≤9223372036854775807:=Nat.le_trans ar.out hsz;clear hp hsz;go_wp2;go_loopw [5] (λ i wr=>∃j:Nat,j≤p∧i= .int .i64 j∧wr=wc) (λ i _=>u.size-(RowKit.intOf i).toNat)
   case atStart=>exact⟨0,Nat.zero_le _,rfl,rfl⟩
   case round=>
    obtain⟨j,hj,rfl,rfl⟩:=hrel;by_cases hlt:j<p
    .have hju:j<u.size:=by omega
     have b1:decide ((j:Int)<(u.size:Int))=true:=decide_eq_true (by omega);have hbt:∀h:j<u.size,((u[j]'h).toNat:Int)=bt u j:=λ h=>iX u j (by simpa using h);have hn:=HL.out j hlt;have hn2:(bt u (j:Int) !=47)=true:=by rw[bne,hn];rfl
     go_wp2;go_roundw
     case rel=>exact⟨j+1,by omega,by simp,trivial⟩
     case measure=>simp[RowKit.intOf];omega
    .obtain rfl:j=p:=by omega
     clear hj hlt HL;have p0:0≤j:=Nat.zero_le _;by_cases hf:j<u.size
     .have b1:decide ((j:Int)<(u.size:Int))=true:=decide_eq_true (by omega)
      have hbt:∀h:j<u.size,((u[j]'h).toNat:Int)=bt u j:=λ h=>iX u j (by simpa using h);have hn:=HT.out hf;have hn2:(bt u (j:Int) !=47)=false:=by rw[bne,hn];rfl
      have j1:j+1≤u.size:=hf;have ac:=Lib.hid (show cF s=true by rw[HP.out.2.2.1];exact decide_eq_true hf);have av:=Lib.hid (HP.out.2.2.2 ac.out);have aa:=Lib.hid (show dW s=(l9 (u.extract 0 j)&& !(m&&decide (bX (u.extract 0 j)=0))&&(l9 (u.extract (j+1) u.size)&&decide (1<bX (u.extract (j+1) u.size))&&decide (Nat.gcd (bX (u.extract 0 j)) (bX (u.extract (j+1) u.size))=1))) by
       unfold dW kG;rw[HP.out.1,HP.out.2.1,ac.out,U.out,av.out,Bool.not_true,Bool.false_or])
      cases hda:l9 (u.extract 0 j)with
      |false=>
       have X:=Lib.hid hda;have J:=Lib.hid (show dW s=false by rw[aa.out,hda];rfl);clear hda
       go_upto_region 8 with(go_at_call 174;refine(mM _ _).mono ?_;rintro e w2 ⟨rfl,hd2⟩;rw[X.out];have z:=hd2.below;clear hd2;replace D:=kb D z;replace HB:=kh z;clear z)
       have hc0:=z3 D;go_wp2;refine bodyPost_ret (fu rfl _ _ w.heap.size 122 #[.bool false,.slice none 0 0,.slice none 0 0] (0,0) _ rfl (kp D) Tryz.underlying122 rfl (by kernel_rfl)) rfl ?_;exact nZ J.out (bH (bH (bH HB.out (Nat.le_refl _)) (Nat.le_refl _)) (Nat.le_refl _))
      |true=>
       have X:=Lib.hid hda;have Y:=Lib.hid (nY hda);have aE:=Lib.hid (show(limbs R (bX (u.extract 0 j))).length<10000 from Kr hda);have ag:=Lib.hid (show dW s=(!(m&&decide (bX (u.extract 0 j)=0))&&(l9 (u.extract (j+1) u.size)&&decide (1<bX (u.extract (j+1) u.size))&&decide (Nat.gcd (bX (u.extract 0 j)) (bX (u.extract (j+1) u.size))=1))) by rw[aa.out,hda,Bool.true_and]);clear hda aa
       go_upto_region 11 with(first|(go_at_call 174;refine(mM _ _).mono ?_;rintro e w2 ⟨rfl,hd2⟩;rw[X.out];have z:=hd2.below;clear hd2;replace D:=kb D z;replace HB:=kh z;clear z)|(go_at_call 175;refine(qJ _ Y.out.1.1 (by have:=Y.out.2;omega) _).mono ?_;rintro e w3 ⟨v1,rfl,I,z⟩;replace HB:=kh z;have E:=kJ D I;replace D:=kb D z;clear z I;obtain⟨A1,c1,e_⟩:=Kd.aY E.out;subst e_)|(go_at_call 137;refine(lD _).mono ?_;rintro e w4 ⟨v2,rfl,I,z⟩;replace HB:=kh z;replace E:=kV E z;have O:=kI (base:=w.heap.size) D I;replace D:=kb D z;clear z I;obtain⟨A2,c2,e_⟩:=Kd.aY O.out;subst e_))
       clear O hn hn2 hbt;cases hdb:l9 (u.extract (j+1) u.size)with
       |false=>
        have ao:=Lib.hid hdb;have J:=Lib.hid (show dW s=false by rw[ag.out,hdb];simp);clear hdb
        go_upto_region 12 with(go_at_call 174;refine(mM _ _).mono ?_;rintro e w5 ⟨rfl,hd2⟩;rw[ao.out];have z:=hd2.below;clear hd2;replace D:=kb D z;replace HB:=kh z;replace E:=kV E z;clear z)
        have hc0:=z3 D;go_wp2;refine bodyPost_ret (fu rfl _ _ w.heap.size 122 #[.bool false,.slice none 0 0,.slice none 0 0] (0,0) _ rfl (kp D) Tryz.underlying122 rfl (by kernel_rfl)) rfl ?_;exact nZ J.out (bH (bH (bH HB.out (Nat.le_refl _)) (Nat.le_refl _)) (Nat.le_refl _))
       |true=>
        have ao:=Lib.hid hdb;have ap:=Lib.hid (nY hdb);have T:=Lib.hid (show dW s=(!(m&&decide (bX (u.extract 0 j)=0))&&(decide (1<bX (u.extract (j+1) u.size))&&decide (Nat.gcd (bX (u.extract 0 j)) (bX (u.extract (j+1) u.size))=1))) by rw[ag.out,hdb,Bool.true_and]);have am:=Lib.hid (show(limbs R (bX (u.extract (j+1) u.size))).length<10000 from Kr hdb);have aw:=Lib.hid (show(limbs R 1).length<10000 by rw[yB];decide);have ax:=Lib.hid (rD (bX (u.extract (j+1) u.size)) 1 (by have:=am.out;omega) (by have:=aw.out;omega) 100000 (by have:=am.out;omega));clear hdb ag
        go_upto_region 14 with(first|(go_at_call 174;refine(mM _ _).mono ?_;rintro e w5 ⟨rfl,hd2⟩;rw[ao.out];have z:=hd2.below;clear hd2;replace D:=kb D z;replace HB:=kh z;replace E:=kV E z;clear z)|(go_at_call 175;refine(qJ _ ap.out.1.1 (by have:=ap.out.2;omega) _).mono ?_;rintro e w6 ⟨v3,rfl,I,z⟩;replace HB:=kh z;replace E:=kV E z;have F:=kJ D I;replace D:=kb D z;clear z I;obtain⟨A3,c3,e_⟩:=Kd.aY F.out;subst e_))
        by_cases hd1:1<bX (u.extract (j+1) u.size)
        .have an:=Lib.hid (show bg.f 100000 (limbs R (bX (u.extract (j+1) u.size))) (limbs R 1)=some 1 by rw[ax.out];congr 1;unfold jA;rw[if_neg (by omega),if_pos (by omega)])
         have ay:=Lib.hid (show(limbs R (Nat.gcd (bX (u.extract 0 j)) (bX (u.extract (j+1) u.size)))).length<10000 from Nat.lt_of_le_of_lt (fU R2 (Nat.gcd_le_right _ (by omega))) am.out);have az:=Lib.hid (Iw (bX (u.extract 0 j)) (bX (u.extract (j+1) u.size)) (by have:=aE.out;omega) (by have:=am.out;omega) 4000000000000 (by decide));have aB:=Lib.hid (rD (Nat.gcd (bX (u.extract 0 j)) (bX (u.extract (j+1) u.size))) 1 (by have:=ay.out;omega) (by have:=aw.out;omega) 100000 (by have:=ay.out;omega));by_cases hg:Nat.gcd (bX (u.extract 0 j)) (bX (u.extract (j+1) u.size))=1
         .have aq:=Lib.hid (show bg.f 100000 (limbs R (Nat.gcd (bX (u.extract 0 j)) (bX (u.extract (j+1) u.size)))) (limbs R 1)=some 0 by rw[aB.out,hg];rfl)
          have ae:=Lib.hid (show(limbs R (bX (u.extract 0 j)))=limbs R (kG s) by unfold kG;rw[HP.out.2.1]);have af:=Lib.hid (show(limbs R (bX (u.extract (j+1) u.size)))=limbs R (pJ s) by unfold pJ;rw[ac.out,av.out];rfl);have HZ0:=Lib.hid (gK (b:=R) (m:=bX (u.extract 0 j)) R2);have al:=Lib.hid (show dW s= !(m&&decide (bX (u.extract 0 j)=0)) by rw[T.out,decide_eq_true hd1,decide_eq_true hg];simp);clear hd1 hg
          go_upto_region 16 with(first|(have _t:=HV5;go_at_call 137;refine(lD _).mono ?_;rintro e aF ⟨v6,rfl,I,z⟩;replace HB:=kh z;replace E:=kV E z;replace F:=kV F z;replace HV5:=kV HV5 z;have Z:=kI (base:=w.heap.size) D I;replace D:=kb D z;clear z I;obtain⟨A6,c6,e_⟩:=Kd.aY Z.out;subst e_)|(go_at_call 137;refine(lD _).mono ?_;rintro e w7 ⟨v4,rfl,I,z⟩;replace HB:=kh z;replace E:=kV E z;replace F:=kV F z;have L:=kI (base:=w.heap.size) D I;replace D:=kb D z;clear z I;obtain⟨A4,c4,e_⟩:=Kd.aY L.out;subst e_)|(have _t:=Z;go_at_call 176;refine(bg.calls 100000 _ _ _ _ _ _ _ _ (Kd.aH HV5.out).2.2 (Kd.aH HV5.out).2.1 (Kd.aH Z.out).2.2 (Kd.aH Z.out).2.1 aq.out).mono ?_;rintro e aL ⟨rfl,hd2⟩;have z:=hd2.below;clear hd2;replace D:=kb D z;replace HB:=kh z;replace E:=kV E z;replace F:=kV F z;clear z)|(go_at_call 176;refine(bg.calls 100000 _ _ _ _ _ _ _ _ (Kd.aH F.out).2.2 (Kd.aH F.out).2.1 (Kd.aH L.out).2.2 (Kd.aH L.out).2.1 an.out).mono ?_;rintro e w8 ⟨rfl,hd2⟩;have z:=hd2.below;clear hd2;replace D:=kb D z;replace HB:=kh z;replace E:=kV E z;replace F:=kV F z;clear z)|(go_at_call 177;refine(bV.calls 4000000000000 _ _ _ _ _ _ _ _ _ _ E.out F.out az.out).mono ?_;rintro e aO ⟨v5,rfl,I,z⟩;replace HB:=kh z;replace E:=kV E z;replace F:=kV F z;have HV5:=ah.mk (Kd.bU I (λ k hk=>(show w.heap.size≤k∧k≠w.heap.size from hk.elim (λ h=>h.elim id id) (λ h=>⟨by have:=gT D.out;omega,by have:=gT D.out;omega⟩))));replace D:=kb D z;clear z I;obtain⟨A5,c5,e_⟩:=Kd.aY HV5.out;subst e_))
          have hc0:=z3 D;cases m with
          |false=>
           have J:=Lib.hid (show dW s=true by rw[al.out];rfl);have ab:=Lib.hid (show false=oP s by unfold oP;rw[HP.out.1,U.out]);go_wp2;refine bodyPost_ret (fu rfl _ _ w.heap.size 122 #[.bool false,.slice A1 (limbs R (bX (u.extract 0 j))).length c1,.slice A3 (limbs R (bX (u.extract (j+1) u.size))).length c3] (0,0) _ rfl (kp D) Tryz.underlying122 rfl (by kernel_rfl)) rfl ?_;exact Ar J.out ab.out ae.out af.out (bH (bH (bH HB.out (Nat.le_refl _)) (Nat.le_refl _)) (Nat.le_refl _)) (Ik E) (Ik F)
          |true=>
           have ab:=Lib.hid (show true=oP s by unfold oP;rw[HP.out.1,U.out]);by_cases hz:(limbs R (bX (u.extract 0 j))).length=0
           .have J:=Lib.hid (show dW s=false by rw[al.out,decide_eq_true (HZ0.out.1 (List.eq_nil_of_length_eq_zero hz))];rfl)
            have z1:(((limbs R (bX (u.extract 0 j))).length:Int)==0)=true:=by rw[hz];rfl
            go_wp2;refine bodyPost_ret (fu rfl _ _ w.heap.size 122 #[.bool false,.slice none 0 0,.slice none 0 0] (0,0) _ rfl (kp D) Tryz.underlying122 rfl (by kernel_rfl)) rfl ?_;exact nZ J.out (bH (bH (bH HB.out (Nat.le_refl _)) (Nat.le_refl _)) (Nat.le_refl _))
           .have J:=Lib.hid (show dW s=true by rw[al.out,decide_eq_false (λ h=>hz (by rw[HZ0.out.2 h];rfl))];rfl)
            have z1:(((limbs R (bX (u.extract 0 j))).length:Int)==0)=false:=by apply beq_eq_false_iff_ne.2;omega
            go_wp2;refine bodyPost_ret (fu rfl _ _ w.heap.size 122 #[.bool true,.slice A1 (limbs R (bX (u.extract 0 j))).length c1,.slice A3 (limbs R (bX (u.extract (j+1) u.size))).length c3] (0,0) _ rfl (kp D) Tryz.underlying122 rfl (by kernel_rfl)) rfl ?_;exact Ar J.out ab.out ae.out af.out (bH (bH (bH HB.out (Nat.le_refl _)) (Nat.le_refl _)) (Nat.le_refl _)) (Ik E) (Ik F)
         .have aq:=Lib.hid (show bg.f 100000 (limbs R (Nat.gcd (bX (u.extract 0 j)) (bX (u.extract (j+1) u.size)))) (limbs R 1)=some 1 by have:=Nat.gcd_pos_of_pos_right (bX (u.extract 0 j)) (by omega:0<bX (u.extract (j+1) u.size));rw[aB.out];congr 1;unfold jA;rw[if_neg (by omega),if_pos (by omega)])
          have J:=Lib.hid (show dW s=false by rw[T.out,decide_eq_false hg];simp);clear hd1 hg
          go_upto_region 15 with(first|(have _t:=HV5;go_at_call 137;refine(lD _).mono ?_;rintro e aF ⟨v6,rfl,I,z⟩;replace HB:=kh z;replace E:=kV E z;replace F:=kV F z;replace HV5:=kV HV5 z;have Z:=kI (base:=w.heap.size) D I;replace D:=kb D z;clear z I;obtain⟨A6,c6,e_⟩:=Kd.aY Z.out;subst e_)|(go_at_call 137;refine(lD _).mono ?_;rintro e w7 ⟨v4,rfl,I,z⟩;replace HB:=kh z;replace E:=kV E z;replace F:=kV F z;have L:=kI (base:=w.heap.size) D I;replace D:=kb D z;clear z I;obtain⟨A4,c4,e_⟩:=Kd.aY L.out;subst e_)|(have _t:=Z;go_at_call 176;refine(bg.calls 100000 _ _ _ _ _ _ _ _ (Kd.aH HV5.out).2.2 (Kd.aH HV5.out).2.1 (Kd.aH Z.out).2.2 (Kd.aH Z.out).2.1 aq.out).mono ?_;rintro e aL ⟨rfl,hd2⟩;have z:=hd2.below;clear hd2;replace D:=kb D z;replace HB:=kh z;replace E:=kV E z;replace F:=kV F z;clear z)|(go_at_call 176;refine(bg.calls 100000 _ _ _ _ _ _ _ _ (Kd.aH F.out).2.2 (Kd.aH F.out).2.1 (Kd.aH L.out).2.2 (Kd.aH L.out).2.1 an.out).mono ?_;rintro e w8 ⟨rfl,hd2⟩;have z:=hd2.below;clear hd2;replace D:=kb D z;replace HB:=kh z;replace E:=kV E z;replace F:=kV F z;clear z)|(go_at_call 177;refine(bV.calls 4000000000000 _ _ _ _ _ _ _ _ _ _ E.out F.out az.out).mono ?_;rintro e aO ⟨v5,rfl,I,z⟩;replace HB:=kh z;replace E:=kV E z;replace F:=kV F z;have HV5:=ah.mk (Kd.bU I (λ k hk=>(show w.heap.size≤k∧k≠w.heap.size from hk.elim (λ h=>h.elim id id) (λ h=>⟨by have:=gT D.out;omega,by have:=gT D.out;omega⟩))));replace D:=kb D z;clear z I;obtain⟨A5,c5,e_⟩:=Kd.aY HV5.out;subst e_))
          have hc0:=z3 D;go_wp2;refine bodyPost_ret (fu rfl _ _ w.heap.size 122 #[.bool false,.slice none 0 0,.slice none 0 0] (0,0) _ rfl (kp D) Tryz.underlying122 rfl (by kernel_rfl)) rfl ?_;exact nZ J.out (bH (bH (bH HB.out (Nat.le_refl _)) (Nat.le_refl _)) (Nat.le_refl _))
        .obtain⟨q,hq,hcq⟩:∃q:Int,q≤0∧bg.f 100000 (limbs R (bX (u.extract (j+1) u.size))) (limbs R 1)=some q:=⟨_,by unfold jA;split<;>(try split)<;>omega,ax.out⟩
         have an:=Lib.hid hcq;have c0_:decide (q≤0)=true:=decide_eq_true hq;clear hcq hq;have J:=Lib.hid (show dW s=false by rw[T.out,decide_eq_false hd1];simp);clear hd1
         go_upto_region 15 with(first|(go_at_call 137;refine(lD _).mono ?_;rintro e w7 ⟨v4,rfl,I,z⟩;replace HB:=kh z;replace E:=kV E z;replace F:=kV F z;have L:=kI (base:=w.heap.size) D I;replace D:=kb D z;clear z I;obtain⟨A4,c4,e_⟩:=Kd.aY L.out;subst e_)|(go_at_call 176;refine(bg.calls 100000 _ _ _ _ _ _ _ _ (Kd.aH F.out).2.2 (Kd.aH F.out).2.1 (Kd.aH L.out).2.2 (Kd.aH L.out).2.1 an.out).mono ?_;rintro e w8 ⟨rfl,hd2⟩;have z:=hd2.below;clear hd2;replace D:=kb D z;replace HB:=kh z;replace E:=kV E z;replace F:=kV F z;clear z))
         have hc0:=z3 D;go_wp2;refine bodyPost_ret (fu rfl _ _ w.heap.size 122 #[.bool false,.slice none 0 0,.slice none 0 0] (0,0) _ rfl (kp D) Tryz.underlying122 rfl (by kernel_rfl)) rfl ?_;exact nZ J.out (bH (bH (bH HB.out (Nat.le_refl _)) (Nat.le_refl _)) (Nat.le_refl _))
     .have b1:decide ((j:Int)<(u.size:Int))=false:=decide_eq_false (by omega)
      have ac:=Lib.hid (show cF s=false by rw[HP.out.2.2.1];exact decide_eq_false hf);have aa:=Lib.hid (show dW s=(l9 (u.extract 0 j)&& !(m&&decide (bX (u.extract 0 j)=0))) by
       unfold dW kG;rw[HP.out.1,HP.out.2.1,ac.out,U.out,Bool.not_false,Bool.true_or,Bool.and_true])
      cases hda:l9 (u.extract 0 j)with
      |false=>
       have X:=Lib.hid hda;have J:=Lib.hid (show dW s=false by rw[aa.out,hda];rfl);clear hda
       go_wp2_with (go_at_call 174;refine(mM _ _).mono ?_;rintro e w2 ⟨rfl,hd2⟩;rw[X.out];replace D:=kb D hd2.below;replace HB:=kh hd2.below;clear hd2;have hc0:=z3 D)
       refine bodyPost_ret (fu rfl _ _ w.heap.size 122 #[.bool false,.slice none 0 0,.slice none 0 0] (0,0) _ rfl (kp D) Tryz.underlying122 rfl (by kernel_rfl)) rfl ?_;exact nZ J.out (bH (bH (bH HB.out (Nat.le_refl _)) (Nat.le_refl _)) (Nat.le_refl _))
      |true=>
       have X:=Lib.hid hda;have Y:=Lib.hid (nY hda);have T:=Lib.hid (show dW s= !(m&&decide (bX (u.extract 0 j)=0)) by rw[aa.out,hda];rfl);have ae:=Lib.hid (show limbs R (bX (u.extract 0 j))=limbs R (kG s) by unfold kG;rw[HP.out.2.1]);have af:=Lib.hid (show limbs R 1=limbs R (pJ s) by unfold pJ;rw[ac.out];rfl);have HZ0:=Lib.hid (gK (b:=R) (m:=bX (u.extract 0 j)) R2);clear hda aa;cases m with
       |false=>
        have J:=Lib.hid (show dW s=true by rw[T.out];rfl);have ab:=Lib.hid (show false=oP s by unfold oP;rw[HP.out.1,U.out])
        go_wp2_with (first|(go_at_call 174;refine(mM _ _).mono ?_;rintro e w2 ⟨rfl,hd2⟩;rw[X.out];replace D:=kb D hd2.below;replace HB:=kh hd2.below;clear hd2)|(go_at_call 175;refine(qJ _ Y.out.1.1 (by have:=Y.out.2;omega) _).mono ?_;rintro e w3 ⟨v1,rfl,hv1,hb3⟩;replace HB:=kh hb3;have E:=kJ D hv1;replace D:=kb D hb3;clear hb3 hv1;obtain⟨A1,c1,e1⟩:=Kd.aY E.out;subst e1)|(go_at_call 137;refine(lD _).mono ?_;rintro e w4 ⟨v2,rfl,ho2,hb4⟩;replace HB:=kh hb4;replace E:=kV E hb4;have O:=kI (base:=w.heap.size) D ho2;replace D:=kb D hb4;clear hb4 ho2;obtain⟨A2,c2,e2⟩:=Kd.aY O.out;subst e2;have hc0:=z3 D))
        refine bodyPost_ret (fu rfl _ _ w.heap.size 122 #[.bool false,.slice A1 (limbs R (bX (u.extract 0 j))).length c1,.slice A2 (limbs R 1).length c2] (0,0) _ rfl (kp D) Tryz.underlying122 rfl (by kernel_rfl)) rfl ?_;exact Ar J.out ab.out ae.out af.out (bH (bH (bH HB.out (Nat.le_refl _)) (Nat.le_refl _)) (Nat.le_refl _)) (Ik E) (Ik O)
       |true=>
        have ab:=Lib.hid (show true=oP s by unfold oP;rw[HP.out.1,U.out]);by_cases hz:(limbs R (bX (u.extract 0 j))).length=0
        .have J:=Lib.hid (show dW s=false by rw[T.out,decide_eq_true (HZ0.out.1 (List.eq_nil_of_length_eq_zero hz))];rfl)
         have z1:(((limbs R (bX (u.extract 0 j))).length:Int)==0)=true:=by rw[hz];rfl
         go_wp2_with (first|(go_at_call 174;refine(mM _ _).mono ?_;rintro e w2 ⟨rfl,hd2⟩;rw[X.out];replace D:=kb D hd2.below;replace HB:=kh hd2.below;clear hd2)|(go_at_call 175;refine(qJ _ Y.out.1.1 (by have:=Y.out.2;omega) _).mono ?_;rintro e w3 ⟨v1,rfl,hv1,hb3⟩;replace HB:=kh hb3;have E:=kJ D hv1;replace D:=kb D hb3;clear hb3 hv1;obtain⟨A1,c1,e1⟩:=Kd.aY E.out;subst e1)|(go_at_call 137;refine(lD _).mono ?_;rintro e w4 ⟨v2,rfl,ho2,hb4⟩;replace HB:=kh hb4;replace E:=kV E hb4;have O:=kI (base:=w.heap.size) D ho2;replace D:=kb D hb4;clear hb4 ho2;obtain⟨A2,c2,e2⟩:=Kd.aY O.out;subst e2;have hc0:=z3 D))
         refine bodyPost_ret (fu rfl _ _ w.heap.size 122 #[.bool false,.slice none 0 0,.slice none 0 0] (0,0) _ rfl (kp D) Tryz.underlying122 rfl (by kernel_rfl)) rfl ?_;exact nZ J.out (bH (bH (bH HB.out (Nat.le_refl _)) (Nat.le_refl _)) (Nat.le_refl _))
        .have J:=Lib.hid (show dW s=true by rw[T.out,decide_eq_false (λ h=>hz (by rw[HZ0.out.2 h];rfl))];rfl)
         have z1:(((limbs R (bX (u.extract 0 j))).length:Int)==0)=false:=by apply beq_eq_false_iff_ne.2;omega
         go_wp2_with (first|(go_at_call 174;refine(mM _ _).mono ?_;rintro e w2 ⟨rfl,hd2⟩;rw[X.out];replace D:=kb D hd2.below;replace HB:=kh hd2.below;clear hd2)|(go_at_call 175;refine(qJ _ Y.out.1.1 (by have:=Y.out.2;omega) _).mono ?_;rintro e w3 ⟨v1,rfl,hv1,hb3⟩;replace HB:=kh hb3;have E:=kJ D hv1;replace D:=kb D hb3;clear hb3 hv1;obtain⟨A1,c1,e1⟩:=Kd.aY E.out;subst e1)|(go_at_call 137;refine(lD _).mono ?_;rintro e w4 ⟨v2,rfl,ho2,hb4⟩;replace HB:=kh hb4;replace E:=kV E hb4;have O:=kI (base:=w.heap.size) D ho2;replace D:=kb D hb4;clear hb4 ho2;obtain⟨A2,c2,e2⟩:=Kd.aY O.out;subst e2;have hc0:=z3 D))
         refine bodyPost_ret (fu rfl _ _ w.heap.size 122 #[.bool true,.slice A1 (limbs R (bX (u.extract 0 j))).length c1,.slice A2 (limbs R 1).length c2] (0,0) _ rfl (kp D) Tryz.underlying122 rfl (by kernel_rfl)) rfl ?_;exact Ar J.out ab.out ae.out af.out (bH (bH (bH HB.out (Nat.le_refl _)) (Nat.le_refl _)) (Nat.le_refl _)) (Ik E) (Ik O)
end Go.Proofs.Ct.Q
namespace Go.Proofs.Ct.Q
open Go.RowKit Go.Proofs.aA.ak Go.Proofs.aA.aC Go.Proofs.aA.aG Go.Proofs.bO
def jq.f(k:Nat)(a0:ByteArray):Option (Bool×List Int×List Int×Bool):=
 if a0.size≤9223372036854775807 then some (dW a0&&oP a0,if dW a0 then limbs R (kG a0)else [],if dW a0 then limbs R (pJ a0)else [],dW a0)else none
theorem jq.calls(k:Nat)(a0:ByteArray)(r1:Bool)(r2:List Int)(r3:List Int)(r4:Bool)(w:World)(h:jq.f k a0=some (r1,r2,r3,r4)):
  Calls Tryz.prog 96 #[.string a0] w λ e w'=>∃s z:Value,e= .returned (.tuple #[.agg #[.bool r1,s,z],.bool r4])∧Kd.V (Kd.int .i64) 3 w' w.heap.size (λ k_=>w.heap.size≤k_) s r2∧Kd.V (Kd.int .i64) 3 w' w.heap.size (λ k_=>w.heap.size≤k_) z r3∧Below w.heap.size w w':=by
 unfold jq.f at h;split at h
 .rename_i hs
  simp only[Option.some.injEq,Prod.mk.injEq]at h;obtain⟨rfl,rfl,rfl,rfl⟩:=h;exact R9 a0 w hs
 .simp at h
end Go.Proofs.Ct.Q
namespace Go.Proofs.Ct.Q
open Go.RowKit Go.Proofs.aA.ak Go.Proofs.aA.aC Go.Proofs.aA.aG
attribute [local go_sem] aW aX bA bB
def gH.f(k:Nat)(a0:ByteArray):Option (Bool):=(jq.f k a0).bind λ s=>(some s.2.2.2)
set_option maxHeartbeats 8000000 in
set_option maxRecDepth 100000 in
theorem gH.calls(k:Nat)(a0:ByteArray)(r:Bool)(w:World)(H:gH.f k a0=some r):
 Calls Tryz.prog 64 #[.string a0] w λ e w'=>e= .returned (.bool r)∧Below w.heap.size w w':=by
 have hu122:=Tryz.underlying122;have HB:=ah.mk (Below.refl w.heap.size w);unfold gH.f at H;revert H;refine bi λ T A2 H=>?_;obtain⟨E,F,I,J⟩:=T;dsimp only at H;obtain rfl:=Option.some.inj H;go_enter Tryz.func64,Tryz.ntmps64
 go_wp2_with (first|((with_reducible refine gc 96 rfl ?_);refine gl (some 7) Tryz.func96 (args:= #[.string a0]) (jq.calls k a0 E F I J _ A2.out) ?_;rintro e w3 ⟨v471,v474,rfl,ho0,ho1,hb⟩;refine⟨_,rfl,?_⟩;have s:=kL (λ k_=>True) ho0 (λ k_ gG=>trivial);have z:=kL (λ k_=>True) ho1 (λ k_ gG=>trivial);replace HB:=kh hb;clear hb ho0 ho1)|((with_reducible refine gd 3 rfl ?_);refine bx #[.bool false,.slice none 0 0,.slice none 0 0] 122 ?_;intro gb477 hg w4 D hb;replace s:=kW s hg hb;replace z:=kW z hg hb;have GW477:=kz hg;have GE477:=kz hg;replace HB:=kh hb;clear hb hg;have hcz5_0:=z3 D;obtain⟨Ao6,co6,L⟩:=Kd.aY s.out;subst L;obtain⟨Ao7,co7,O⟩:=Kd.aY z.out;subst O))
 go_ret;exact⟨rW,hB⟩
def fq.f(k:Nat)(a0:ByteArray)(a1:Int):Option (Bool):=if a1=1 then(if a0.toList=([116,114,117,101]:List UInt8)then(some true)else(some (a0.toList==([102,97,108,115,101]:List UInt8))))else((gH.f k a0).bind λ s=>(some s))
set_option maxHeartbeats 8000000 in
set_option maxRecDepth 100000 in
theorem fq.calls(k:Nat)(a0:ByteArray)(a1:Int)(r:Bool)(w:World)(H:fq.f k a0 a1=some r):
 Calls Tryz.prog 23 #[.string a0,.int .i64 a1] w λ e w'=>e= .returned (.bool r)∧Below w.heap.size w w':=by
 have HB:=ah.mk (Below.refl w.heap.size w);unfold fq.f at H;revert H;refine ci (λ c3 H=>?_) λ c3 H=>?_
 .have s:(a1==1)=true:=beq_iff_eq.mpr c3
  have z:(a1 !=1)=false:=bne_eq_false_iff_eq.mpr c3;clear c3;revert H;refine ci (λ c4 H=>?_) λ c4 H=>?_
  .have D:(a0.toList==([116,114,117,101]:List UInt8))=true:=beq_iff_eq.mpr c4
   have E:(a0.toList !=([116,114,117,101]:List UInt8))=false:=bne_eq_false_iff_eq.mpr c4;clear c4;obtain rfl:=Option.some.inj H;go_enter Tryz.func23,Tryz.ntmps23;go_wp2;go_ret;exact⟨rW,hB⟩
  .have D:(a0.toList==([116,114,117,101]:List UInt8))=false:=beq_eq_false_iff_ne.mpr c4
   have E:(a0.toList !=([116,114,117,101]:List UInt8))=true:=bne_iff_ne.mpr c4;obtain rfl:=Option.some.inj H;go_enter Tryz.func23,Tryz.ntmps23;go_wp2;go_ret;exact⟨rW,hB⟩
 .have s:(a1==1)=false:=beq_eq_false_iff_ne.mpr c3
  have z:(a1 !=1)=true:=bne_iff_ne.mpr c3;revert H;refine bi λ F A5 H=>?_;obtain rfl:=Option.some.inj H;go_enter Tryz.func23,Tryz.ntmps23
  go_wp2_with (first|((with_reducible refine gc 64 rfl ?_);refine gl (some 14) Tryz.func64 (args:= #[.string a0]) (gH.calls k a0 F _ A5.out) ?_;rintro e w6 ⟨rfl,hb⟩;refine⟨_,rfl,?_⟩;replace HB:=kh hb;clear hb))
  go_ret;exact⟨rW,hB⟩
end Go.Proofs.Ct.Q
namespace Go.Proofs.Ct.Q
open Go.RowKit Go.Proofs.aA.ak Go.Proofs.aA.aC Go.Proofs.aA.aG Go.Proofs.bO
theorem TF(s:ByteArray)(hs:s.size≤9223372036854775807)(k:Nat):gH.f k s=some (dW s):=by
 unfold gH.f jq.f;rw[if_pos hs];rfl
theorem LD(s:ByteArray)(hs:s.size≤9223372036854775807)(k:Nat):fq.f k s 0=some (dW s):=by
 unfold fq.f;rw[if_neg (by decide),TF s hs,Option.bind_some]
theorem LG(s:ByteArray)(k:Nat):fq.f k s 1=some (ou s):=by
 unfold fq.f ou;rw[if_pos rfl];by_cases h:s.toList=([116,114,117,101]:List UInt8)
 .rw[if_pos h,decide_eq_true h,Bool.true_or]
 .rw[if_neg h,decide_eq_false h,Bool.false_or];first|rfl|(congr 1;exact Bool.eq_iff_iff.2 (by simp))
theorem EY(l:List f_)(i:Nat):jy l (i+1)=
  (ny (bQ l ((i+1:Nat):Int)).f0.f0 (bQ l ((i+1:Nat):Int)).f0.f1 (bQ l ((i+1:Nat):Int)).f0.f2&&ku (bQ l ((i+1:Nat):Int)).f1&&
  jc (bQ l (i:Int)).f0.f0 (bQ l (i:Int)).f0.f1 (bQ l (i:Int)).f0.f2 (bQ l ((i+1:Nat):Int)).f0.f0 (bQ l ((i+1:Nat):Int)).f0.f1 (bQ l ((i+1:Nat):Int)).f0.f2):=by
 unfold jy;rw[decide_eq_false (by omega),Bool.false_or];rfl
def pE(v:Value)(w:World)(e:Ending)(w':World):Prop:=e= .returned v∧Below w.heap.size w w'
theorem BI(n:ByteArray)(o:Int)(p:Bool)(W:World):Calls Tryz.prog 30 #[.agg #[.string n,.int .i64 o,.bool p]] W (pE (.bool (ny n o p)) W):=
 jd.calls 101 n o p _ W (RB n o p 101 (by omega))
theorem Nv(n:ByteArray)(W:World):Calls Tryz.prog 22 #[.string n] W (pE (.bool (iP n)) W):=
 (aT.calls 101 n _ W (Ii n 101 (by omega))).mono λ _ _ h=>⟨h.1,h.2.below⟩
theorem BJ(s:ByteArray)(hs:s.size≤9223372036854775807)(W:World):Calls Tryz.prog 23 #[.string s,.int .i64 0] W (pE (.bool (dW s)) W):=
 fq.calls 1 s 0 _ W (LD s hs 1)
theorem BL(s:ByteArray)(W:World):Calls Tryz.prog 23 #[.string s,.int .i64 1] W (pE (.bool (ou s)) W):=
 fq.calls 1 s 1 _ W (LG s 1)
theorem Nw(n1:ByteArray)(o1:Int)(p1:Bool)(n2:ByteArray)(o2:Int)(p2:Bool)(W:World):
  Calls Tryz.prog 69 #[.agg #[.string n1,.int .i64 o1,.bool p1],.agg #[.string n2,.int .i64 o2,.bool p2]] W (pE (.bool (jc n1 o1 p1 n2 o2 p2)) W):=
 iQ.calls n1 o1 p1 n2 o2 p2 _ W (O7 n1 o1 p1 n2 o2 p2)
theorem wW{W:World}{g t:Nat}{a0 a1 a2 a3:Value}(b0 b1 b2 b3:Value)(h:W.heap[g]? =some (.cells #[a0,a1,a2,a3] t (0,0))):
  ((((W.setCell ⟨g,0,none⟩ b0).setCell ⟨g,1,none⟩ b1).setCell ⟨g,2,none⟩ b2).setCell ⟨g,3,none⟩ b3).heap[g]? =some (.cells #[b0,b1,b2,b3] t (0,0)):=
 eB (cs:= #[b0,b1,b2,a3]) (eB (cs:= #[b0,b1,a2,a3]) (eB (cs:= #[b0,a1,a2,a3]) (eB (cs:= #[a0,a1,a2,a3]) h 0 _ rfl) 1 _ rfl) 2 _ rfl) 3 _ rfl
theorem jg{w W:World}{g:Nat}(b0 b1 b2 b3:Value)(h:Below w.heap.size w W)(hg:w.heap.size≤g):
 Below w.heap.size w ((((W.setCell ⟨g,0,none⟩ b0).setCell ⟨g,1,none⟩ b1).setCell ⟨g,2,none⟩ b2).setCell ⟨g,3,none⟩ b3):=bH (bH (bH (bH h hg) hg) hg) hg
theorem Nu(a:Int)(h0: -9223372036854775808≤a)(h1:a≤9223372036854775807)(W:World):Calls Tryz.prog 24 #[.int .i64 a] W (pE (.string ⟨(Lib.itoa a).toArray⟩) W):=
 iO.calls 4000000000000 a _ W (O6 a h0 h1 _ (by omega))
theorem J8(s:ByteArray)(W:World):Calls Tryz.prog 25 #[.string s] W (pE (.string (gW s)) W):=
 (ko.calls s _ W (by unfold ko.f gW;split<;>rfl)).mono λ _ _ h=>⟨h.1,h.2.below⟩
def J9:List ByteArray:=oI.f.getD []
theorem Dx(W:World):Calls Tryz.prog 21 #[] W λ e w'=>∃v:Value,e= .returned v∧Kd.R Kd.string 9 w' W.heap.size (λ _=>True) v J9∧Below W.heap.size W w':=l7.calls _ W rfl
theorem Ih(W:World):Calls Tryz.prog 16 #[] W λ e w'=>∃v:Value,e= .returned v∧Kd.R Kd.string 9 w' W.heap.size (λ _=>True) v J9∧Below W.heap.size W w':=oI.calls _ W rfl
theorem EX:J9.length=13:=rfl
theorem Gg{s:ByteArray}{l:List UInt8}(h:s.toList=l):s=⟨l.toArray⟩:=by
 obtain⟨⟨x⟩⟩:=s;subst h;simp
theorem QX{m:Nat}(h:Lib.nDigits m≤300):(limbs B9 m).length<1000000000:=by
 have h1:=gB (b:=B9) (by decide) (Lib.nDigits m) m (Nat.lt_of_lt_of_le (Lib.lt_pow_nDigits m) (Nat.pow_le_pow_left (by decide) _));omega
theorem K7(s:ByteArray)(hs:s.size≤4000000)(k:Nat)(hk:100000003<k):
  ∃x1 x2 x3 x4 x5 x6,iT.f k s=some (x1,x2,x3,x4,x5,x6,ku s)∧(ku s=true->fV.f x1 x2 x3 x4 x5 x6=some s):=by
 obtain⟨k,rfl⟩:∃m,k=m+1:=⟨k-1,by omega⟩;obtain⟨x1,x2,x3,x4,hf,hv⟩:=Ce s hs k (by omega);unfold iT.f;simp only[iT.j0,hf,Option.bind_some,rE.f,oL.f];unfold ku ou;by_cases ht:s.toList=([116,114,117,101]:List UInt8)
 .refine⟨false,[],false,[],true,true,by simp[ht],λ _=>?_⟩
  unfold fV.f;rw[if_pos rfl,if_pos rfl,Gg ht]
 .by_cases hf2:s.toList=([102,97,108,115,101]:List UInt8)
  .refine⟨false,[],false,[],false,true,by simp[hf2],λ _=>?_⟩
   unfold fV.f;rw[if_pos rfl,if_neg (by simp),Gg hf2]
  .refine⟨x1,x2,x3,x4,false,false,by simp[ht,hf2],λ h=>?_⟩
   have hn:dW s=true:=by simpa[ht,hf2]using h
   obtain⟨rfl,rfl,rfl,rfl⟩:=hv hn;obtain⟨h1,h2,h3,h4,h5⟩:=Sv hn;unfold fV.f;rw[if_neg (by simp),Oc _ _ _ h2 h3 h4 (QX h3) (QX h4),Option.bind_some,h1]
def ValAt(w:World)(base:Nat)(t:ByteArray)(x1:Bool)(A2:Option Addr)(n2 c2:Nat)(x3:Bool)(A4:Option Addr)(n4 c4:Nat)(x5 x6:Bool):Prop:=
 ∃x2 x4:List Int,Kd.V (Kd.int .u32) 328 w base (λ k=>base≤k) (.slice A2 n2 c2) x2∧Kd.V (Kd.int .u32) 328 w base (λ k=>base≤k) (.slice A4 n4 c4) x4∧fV.f x1 x2 x3 x4 x5 x6=some t
def U9(s:ByteArray)(w:World)(e:Ending)(w':World):Prop:=
 ∃(x1:Bool)(A2:Option Addr)(n2 c2:Nat)(x3:Bool)(A4:Option Addr)(n4 c4:Nat)(x5 x6:Bool),e= .returned (.tuple #[.agg #[.bool x1,.slice A2 n2 c2,.bool x3,.slice A4 n4 c4,.bool x5,.bool x6],.bool (ku s)])∧
  (ku s=true->ValAt w' w.heap.size s x1 A2 n2 c2 x3 A4 n4 c4 x5 x6)∧Below w.heap.size w w'
theorem IK(s:ByteArray)(hs:s.size≤4000000)(W:World):Calls Tryz.prog 15 #[.string s] W λ e W'=>U9 s W e W':=by
 obtain⟨x1,x2,x3,x4,x5,x6,h1,h2⟩:=K7 s hs 100000004 (by omega);refine(iT.calls _ s _ _ _ _ _ _ _ W h1).mono λ e W' h=>?_;obtain⟨v2,v4,he,hv2,hv4,hb⟩:=h;obtain⟨A2,c2,e2⟩:=Kd.aY hv2;obtain⟨A4,c4,e4⟩:=Kd.aY hv4;subst e2 e4;exact⟨x1,A2,_,c2,x3,A4,_,c4,x5,x6,he,λ hv=>⟨x2,x4,hv2,hv4,h2 hv⟩,hb⟩
def qC(n:ByteArray)(o:Int)(p:Bool):Value:= .agg #[.string n,.int .i64 o,.bool p]
theorem vK(e:Bool)(m:Nat){t:TypeId}{d:TypeDesc}(v:Value)(w:World)(h:Tryz.prog.underlying t=some d)(hd:d= .string∨d= .int .i64∨d= .bool):(Instr.checkKey e (m+1) t v).run Tryz.prog w= .ok () w:=by
 rcases hd with rfl|rfl|rfl<;>simp[Instr.checkKey,run_underlying h]
theorem LY(e:Bool)(m:Nat)(n:ByteArray)(o:Int)(p:Bool)(w:World):(Instr.checkKey e (m+2) 25 (qC n o p)).run Tryz.prog w= .ok () w:=by
 unfold qC;have p0:(part 9 #[.string n,.int .i64 o,.bool p] 0).run Tryz.prog w= .ok (.string n) w:=by go_simp
 have p1:(part 3 #[.string n,.int .i64 o,.bool p] 1).run Tryz.prog w= .ok (.int .i64 o) w:=by go_simp
 have p2:(part 4 #[.string n,.int .i64 o,.bool p] 2).run Tryz.prog w= .ok (.bool p) w:=by go_simp
 have k0:=vK e m (.string n) w Tryz.underlying9 (.inl rfl);have k1:=vK e m (.int .i64 o) w Tryz.underlying3 (.inr (.inl rfl));have k2:=vK e m (.bool p) w Tryz.underlying4 (.inr (.inr rfl));rw[Instr.checkKey];simp only[Sem.run_bind,run_underlying Tryz.underlying25,Result.andThen_ok];rw[<-Array.forIn_toList];simp[p0,p1,p2,k0,k1,k2]
theorem Fz(e:Bool)(n:ByteArray)(o:Int)(p:Bool)(w:World):(Instr.checkKey e 10000 25 (qC n o p)).run Tryz.prog w= .ok () w:=LY e 9998 n o p w
def mD(es:List MapEntry)(ks:List zI):Prop:=es.map (·.key)=ks.map λ k=>qC k.f0 k.f1 k.f2
theorem IB(n:ByteArray)(o:Int)(p:Bool)(w:World):∀(es:List MapEntry)(ks:List zI)(i:Nat),mD es ks->
  (Instr.findAsking 25 (qC n o p) es i).run Tryz.prog w= .ok ((ks.findIdx? λ k=>n.toList==k.f0.toList&&(o==k.f1&&(p==k.f2))).bind λ j=>(es[j]?).map λ e=>(i+j,e.val)) w
 |[],ks,i,h=>by
  cases ks with
  |nil=>simp[Instr.findAsking]
  |cons k ks=>simp[mD]at h
 |e::es,ks,i,h=>by
  cases ks with
  |nil=>simp[mD]at h
  |cons k ks=>
   simp only[mD,List.map_cons,List.cons.injEq]at h;obtain⟨h1,h2⟩:=h;have heq:(Op.equal 25 (qC n o p) e.key).run Tryz.prog w= .ok (n.toList==k.f0.toList&&(o==k.f1&&(p==k.f2))) w:=by
    rw[h1];exact TM _ w n k.f0 o k.f1 p k.f2
   have ih:=IB n o p w es ks (i+1) h2;rw[Instr.findAsking];simp only[Sem.run_bind,heq,Result.andThen_ok];rw[List.findIdx?_cons];cases hb:(n.toList==k.f0.toList&&(o==k.f1&&(p==k.f2)))with
   |true=>simp
   |false=>
    simp only[Bool.false_eq_true,if_false,ih];cases(ks.findIdx? λ k=>n.toList==k.f0.toList&&(o==k.f1&&(p==k.f2)))with
    |none=>rfl
    |some j=>simp[Nat.add_assoc,Nat.add_comm 1 j]
theorem IC(n:ByteArray)(o:Int)(p:Bool)(w:World)(es:List MapEntry)(ks:List zI)(h:mD es ks):
  (Instr.findKey 25 (qC n o p) es).run Tryz.prog w= .ok ((ks.findIdx? λ k=>n.toList==k.f0.toList&&(o==k.f1&&(p==k.f2))).bind λ j=>(es[j]?).map λ e=>(j,e.val)) w:=by
 unfold Instr.findKey;simp only[Sem.run_bind,run_underlying Tryz.underlying25,Result.andThen_ok];cases es with
 |nil=>
  cases ks with
  |nil=>simp[Instr.findNow]
  |cons k ks=>simp[mD]at h
 |cons e es=>
  have hn:∀fs:Array Field,Instr.findNow (.struct fs) (qC n o p) (e::es) 0=none:=λ fs=>rfl;rw[hn];simp only[];have:=IB n o p w (e::es) ks 0 h;rw[this];simp
theorem DL{P:Program}{r:Nat}{w:World}{arr:Array MapEntry}{clock:Nat}(hw:w.heap[r]? =some (.map arr clock)):(getObj r).run P w= .ok (.map arr clock) w:=by
 show(Sem.getObj r Sem.pure).run P w=_;simp[Sem.run,hw]
theorem Ql{w:World}{M:Nat}{es:Array MapEntry}{clock:Nat}{ks:List zI}(hM:w.heap[M]? =some (.map es clock))(hk:mD es.toList ks)(n:ByteArray)(o:Int)(p:Bool)(X:Value)
  (hnew:∀k∈ks,(n.toList==k.f0.toList&&(o==k.f1&&(p==k.f2)))=false):
  (Instr.mapUpdate 85 (.map (some M)) (qC n o p) X).run Tryz.prog w= .ok () {w with heap:=w.heap.setIfInBounds M (.map (es.push {key:=qC n o p,val:=X,born:=clock}) (clock+1))}:=by
 have hf:=IC n o p w es.toList ks hk;rw[List.findIdx?_eq_none_iff.2 hnew]at hf;unfold Instr.mapUpdate;simp only[Sem.run_bind,run_underlying Tryz.underlying85,Result.andThen_ok,DL hM,Fz,hf,Option.bind_none];rw[MapKept.run_setObj_map _ hM]
theorem Fy{w:World}{M:Nat}{es:Array MapEntry}{clock:Nat}{ks:List zI}(hM:w.heap[M]? =some (.map es clock))(hk:mD es.toList ks)(n:ByteArray)(o:Int)(p:Bool):
  (Instr.lookup 85 (.map (some M)) (qC n o p) true).run Tryz.prog w=
   .ok (match(ks.findIdx? λ k=>n.toList==k.f0.toList&&(o==k.f1&&(p==k.f2))).bind λ j=>(es.toList[j]?).map λ e=>(j,e.val)with
    |some (_,v)=> .tuple #[v,.bool true]
    |none=> .tuple #[.agg #[.bool false,.slice none 0 0,.bool false,.slice none 0 0,.bool false,.bool false],.bool false]) w:=by
 have hf:=IC n o p w es.toList ks hk;have hz:(zeroValue 68).run Tryz.prog w= .ok (.agg #[.bool false,.slice none 0 0,.bool false,.slice none 0 0,.bool false,.bool false]) w:=by kernel_rfl
 unfold Instr.lookup;simp only[Sem.run_bind,run_underlying Tryz.underlying85,Result.andThen_ok,DL hM,Fz,hf,Sem.run_pure];cases(ks.findIdx? λ k=>n.toList==k.f0.toList&&(o==k.f1&&(p==k.f2))).bind λ j=>(es.toList[j]?).map λ e=>(j,e.val)with
 |none=>simp[hz]
 |some r=>obtain⟨j,v⟩:=r;simp
def El(w:World)(base:Nat)(t:ByteArray)(v:Value):Prop:=
 ∃(x1:Bool)(A2:Option Addr)(n2 c2:Nat)(x3:Bool)(A4:Option Addr)(n4 c4:Nat)(x5 x6:Bool),v= .agg #[.bool x1,.slice A2 n2 c2,.bool x3,.slice A4 n4 c4,.bool x5,.bool x6]∧ValAt w base t x1 A2 n2 c2 x3 A4 n4 c4 x5 x6
theorem ValAt.step{w w':World}{base base':Nat}{t:ByteArray}{x1:Bool}{A2:Option Addr}{n2 c2:Nat}{x3:Bool}{A4:Option Addr}{n4 c4:Nat}{x5 x6:Bool}(h:ValAt w base t x1 A2 n2 c2 x3 A4 n4 c4 x5 x6)(hb:base'≤base)
  (hm:∀k,base'≤k->k<w.heap.size->w'.heap[k]? =w.heap[k]?):ValAt w' base' t x1 A2 n2 c2 x3 A4 n4 c4 x5 x6:=by
 obtain⟨x2,x4,h2,h4,hs⟩:=h;exact⟨x2,x4,Kd.BR (Kd.bU h2 (λ k hk=>Nat.le_trans hb hk)) hm,Kd.BR (Kd.bU h4 (λ k hk=>Nat.le_trans hb hk)) hm,hs⟩
theorem El.step{w w':World}{base base':Nat}{t:ByteArray}{v:Value}(h:El w base t v)(hb:base'≤base)(hm:∀k,base'≤k->k<w.heap.size->w'.heap[k]? =w.heap[k]?):El w' base' t v:=by
 obtain⟨x1,A2,n2,c2,x3,A4,n4,c4,x5,x6,e,h⟩:=h;exact⟨x1,A2,n2,c2,x3,A4,n4,c4,x5,x6,e,h.step hb hm⟩
def MapAt(w:World)(M:Nat)(l:List f_):Prop:=
 ∃(es:Array MapEntry)(clock:Nat),w.heap[M]? =some (.map es clock)∧mD es.toList (l.map (·.f0))∧∀i (h:i<l.length),∃e,es.toList[i]? =some e∧El w (M+1) l[i].f1 e.val
theorem MapAt.below{w w':World}{M:Nat}{l:List f_}(h:MapAt w M l)(hb:Below w.heap.size w w'):MapAt w' M l:=by
 obtain⟨es,clock,h1,h2,h3⟩:=h;refine⟨es,clock,(hb.block M (Array.getElem?_eq_some_iff.1 h1).1).trans h1,h2,λ i hi=>?_⟩;obtain⟨e,he,hv⟩:=h3 i hi;exact⟨e,he,hv.step (Nat.le_refl _) (λ k _ hk=>hb.block k hk)⟩
theorem MapAt.lt{w:World}{M:Nat}{l:List f_}(h:MapAt w M l):M<w.heap.size:=by
 obtain⟨es,clock,h1,_⟩:=h;exact(Array.getElem?_eq_some_iff.1 h1).1
theorem MapAt.new(w:World):MapAt (w.alloc (.map #[] 0)) w.heap.size []:=
 ⟨#[],0,heap_alloc_new w _,rfl,λ i h=>by simp at h⟩
def mP(w:World)(M:Nat)(o:Obj):World:={w with heap:=w.heap.setIfInBounds M o}
theorem vg{w:World}{M:Nat}{o:Obj}{k:Nat}(h:k≠M):(mP w M o).heap[k]? =w.heap[k]? :=by
 unfold mP;simp[Array.getElem?_setIfInBounds_ne (Ne.symm h)]
theorem L6{w:World}{M:Nat}{o:Obj}:(mP w M o).heap.size=w.heap.size:=by unfold mP;simp
theorem KM{B:Nat}{w0 w:World}{M:Nat}{o:Obj}(h:Below B w0 w)(hM:B≤M):Below B w0 (mP w M o):=
 ⟨h.os,h.tape,h.output,by rw[L6];exact h.size,λ k hk=>(vg (by omega)).trans (h.block k hk)⟩
theorem MapAt.put{w:World}{M:Nat}{l:List f_}(h:MapAt w M l)(x:f_)(v:Value)(hv:El w (M+1) x.f1 v)
  (hnew:∀y∈l,(x.f0.f0.toList==y.f0.f0.toList&&(x.f0.f1==y.f0.f1&&(x.f0.f2==y.f0.f2)))=false):
  ∃o,(Instr.mapUpdate 85 (.map (some M)) (qC x.f0.f0 x.f0.f1 x.f0.f2) v).run Tryz.prog w= .ok () (mP w M o)∧MapAt (mP w M o) M (l++[x]):=by
 obtain⟨es,clock,h1,h2,h3⟩:=h;have hlen:es.toList.length=l.length:=by
  have:=congrArg List.length h2;simpa using this
 refine⟨_,Ql h1 h2 x.f0.f0 x.f0.f1 x.f0.f2 v (λ k hk=>?_),?_⟩
 .obtain⟨y,hy,rfl⟩:=List.mem_map.1 hk
  exact hnew y hy
 .have hlt:M<w.heap.size:=(Array.getElem?_eq_some_iff.1 h1).1
  refine⟨_,_,by unfold mP;simp[hlt];exact⟨rfl,rfl⟩,?_,λ i hi=>?_⟩
  .unfold mD at h2|-
   rw[Array.toList_push,List.map_append,h2];simp
  .by_cases hil:i<l.length
   .obtain⟨e,he,hv'⟩:=h3 i hil
    refine⟨e,?_,?_⟩
    .rw[Array.toList_push,List.getElem?_append_left (by rw[hlen];exact hil)];exact he
    .rw[List.getElem_append_left hil]
     exact hv'.step (Nat.le_refl _) (λ k hk _=>vg (by omega))
   .have:i=l.length:=by simp at hi;omega
    subst this;refine⟨_,by rw[Array.toList_push,List.getElem?_append_right (by omega),hlen];simp;rfl,?_⟩;rw[List.getElem_append_right (Nat.le_refl _)];simp;exact hv.step (Nat.le_refl _) (λ k hk _=>vg (by omega))
def Eh(w:World)(lo hi:Nat)(t:ByteArray)(v:Value):Prop:=
 ∃(x1:Bool)(A2:Option Addr)(n2 c2:Nat)(x3:Bool)(A4:Option Addr)(n4 c4:Nat)(x5 x6:Bool)(x2 x4:List Int),v= .agg #[.bool x1,.slice A2 n2 c2,.bool x3,.slice A4 n4 c4,.bool x5,.bool x6]∧
  Kd.V (Kd.int .u32) 328 w lo (λ k=>lo≤k∧k<hi) (.slice A2 n2 c2) x2∧Kd.V (Kd.int .u32) 328 w lo (λ k=>lo≤k∧k<hi) (.slice A4 n4 c4) x4∧fV.f x1 x2 x3 x4 x5 x6=some t
theorem El.fine{w:World}{base lo:Nat}{t:ByteArray}{v:Value}(h:El w base t v)(hl:lo≤base):Eh w lo w.heap.size t v:=by
 obtain⟨x1,A2,n2,c2,x3,A4,n4,c4,x5,x6,e,x2,x4,h2,h4,hs⟩:=h;exact⟨x1,A2,n2,c2,x3,A4,n4,c4,x5,x6,x2,x4,e,Kd.bU (Kd.zG h2) (λ k hk=>⟨Nat.le_trans hl hk.1,hk.2⟩),Kd.bU (Kd.zG h4) (λ k hk=>⟨Nat.le_trans hl hk.1,hk.2⟩),hs⟩
theorem Eh.step{w w':World}{lo hi:Nat}{t:ByteArray}{v:Value}(h:Eh w lo hi t v)(hm:∀k,lo≤k->k<hi->w'.heap[k]? =w.heap[k]?):Eh w' lo hi t v:=by
 obtain⟨x1,A2,n2,c2,x3,A4,n4,c4,x5,x6,x2,x4,e,h2,h4,hs⟩:=h;exact⟨x1,A2,n2,c2,x3,A4,n4,c4,x5,x6,x2,x4,e,Kd.BR h2 (λ k hk _=>hm k hk.1 hk.2),Kd.BR h4 (λ k hk _=>hm k hk.1 hk.2),hs⟩
def qR(w:World)(lo hi:Nat)(E:Nat)(l:List f_):Prop:=∃(c0 c1 c2 c3 c4:Value)(M:Nat),w.heap[E]? =some (.cells #[c0,c1,c2,c3,c4,.map (some M)] 87 (0,0))∧lo≤E∧E<hi∧lo≤M∧M<hi∧
 ∃(es:Array MapEntry)(clock:Nat),w.heap[M]? =some (.map es clock)∧mD es.toList (l.map (·.f0))∧∀i (h:i<l.length),∃e,es.toList[i]? =some e∧Eh w lo hi l[i].f1 e.val
theorem qR.lower{w:World}{lo lo' hi E:Nat}{l:List f_}(h:qR w lo hi E l)(hl:lo'≤lo):qR w lo' hi E l:=by
 obtain⟨c0,c1,c2,c3,c4,M,h1,h2,h3,h4,h5,es,clock,h6,h7,h8⟩:=h;refine⟨c0,c1,c2,c3,c4,M,h1,Nat.le_trans hl h2,h3,Nat.le_trans hl h4,h5,es,clock,h6,h7,λ i hi=>?_⟩;obtain⟨e,he,x1,A2,n2,c2,x3,A4,n4,c4,x5,x6,x2,x4,e1,k2,k4,hs⟩:=h8 i hi;exact⟨e,he,x1,A2,n2,c2,x3,A4,n4,c4,x5,x6,x2,x4,e1,Kd.bU k2 (λ k hk=>⟨Nat.le_trans hl hk.1,hk.2⟩),Kd.bU k4 (λ k hk=>⟨Nat.le_trans hl hk.1,hk.2⟩),hs⟩
theorem qR.step{w w':World}{lo hi E:Nat}{l:List f_}(h:qR w lo hi E l)(hm:∀k,lo≤k->k<hi->w'.heap[k]? =w.heap[k]?):qR w' lo hi E l:=by
 obtain⟨c0,c1,c2,c3,c4,M,h1,h2,h3,h4,h5,es,clock,h6,h7,h8⟩:=h;refine⟨c0,c1,c2,c3,c4,M,(hm E h2 h3).trans h1,h2,h3,h4,h5,es,clock,(hm M h4 h5).trans h6,h7,λ i hi=>?_⟩;obtain⟨e,he,hv⟩:=h8 i hi;exact⟨e,he,hv.step hm⟩
theorem Fx(n:ByteArray)(o:Int)(p:Bool):∀(l:List f_),
  match(l.map (·.f0)).findIdx? (λ k=>n.toList==k.f0.toList&&(o==k.f1&&(p==k.f2)))with
  |none=>nD l n o p=none
  |some j=>∃h:j<l.length,nD l n o p=some l[j].f1
 |[]=>rfl
 |x::l=>by
  have ih:=Fx n o p l;have e:(n.toList==x.f0.f0.toList&&(o==x.f0.f1&&(p==x.f0.f2)))=(x.f0.f0.toList==n.toList&&(x.f0.f1==o&&(x.f0.f2==p))):=by
   rw[Bool.beq_comm (a:=n.toList),Bool.beq_comm (a:=o),Bool.beq_comm (a:=p)]
  rw[List.map_cons,List.findIdx?_cons,e,nD];cases hb:(x.f0.f0.toList==n.toList&&(x.f0.f1==o&&(x.f0.f2==p)))with
  |true=>exact⟨Nat.succ_pos _,rfl⟩
  |false=>
   simp only[Bool.false_eq_true,if_false];cases hf:(l.map (·.f0)).findIdx? (λ k=>n.toList==k.f0.toList&&(o==k.f1&&(p==k.f2)))with
   |none=>rw[hf]at ih;exact ih
   |some j=>
    rw[hf]at ih;obtain⟨h,ih⟩:=ih;exact⟨Nat.succ_lt_succ h,ih⟩
theorem Sk{w:World}{lo hi M clock:Nat}{l:List f_}{es:Array MapEntry}(hk:mD es.toList (l.map (·.f0)))(hv:∀i (h:i<l.length),∃e,es.toList[i]? =some e∧Eh w lo hi l[i].f1 e.val)(n:ByteArray)(o:Int)(p:Bool):
  match nD l n o p with
  |none=>∀W:World,W.heap[M]? =some (.map es clock)->(Instr.lookup 85 (.map (some M)) (qC n o p) true).run Tryz.prog W= .ok (.tuple #[.agg #[.bool false,.slice none 0 0,.bool false,.slice none 0 0,.bool false,.bool false],.bool false]) W
  |some t=>∃s,Eh w lo hi t s∧∀W:World,W.heap[M]? =some (.map es clock)->(Instr.lookup 85 (.map (some M)) (qC n o p) true).run Tryz.prog W= .ok (.tuple #[s,.bool true]) W:=by
 have hf:=Fx n o p l;cases hi:(l.map (·.f0)).findIdx? (λ k=>n.toList==k.f0.toList&&(o==k.f1&&(p==k.f2)))with
 |none=>
  rw[hi]at hf;rw[hf];intro W hW;rw[Fy hW hk,hi];rfl
 |some j=>
  rw[hi]at hf;obtain⟨h,hf⟩:=hf;rw[hf];obtain⟨e,he,z⟩:=hv j h;refine⟨e.val,z,λ W hW=>?_⟩;rw[Fy hW hk,hi];simp only[Option.bind_some,he,Option.map_some]
end Go.Proofs.Ct.Q
namespace Go.Proofs.Ct.Q
open Go.Proofs.g_ Go.RowKit Go.Proofs.aA.ak Go.Proofs.aA.aC Go.Proofs.aA.aG Go.Proofs.bO
attribute [local go_sem] aW aX bA bB
def TG(g e:Nat)(x y:f_)(ad:Addr)(N c j:Nat)(q n t p b:Bool):Nat->Value->World->Prop:=λ i s _=>([
λ u=>u= .pointer (some ⟨g,0,none⟩),
 λ u=>u= .agg #[.string x.f0.f0,.int .i64 x.f0.f1,.bool x.f0.f2],
 λ u=>u= .bool q,
 λ u=>u= .bool (!q),
 λ u=>u= .bool (!q),
 λ u=>u=cond (q) (.pointer (some ⟨g,3,none⟩)) undef,
 λ u=>u=cond (q) (.string x.f1) undef,
 λ u=>u=cond (q) (.bool n) undef,
 λ u=>u=cond (q) (.bool (!n)) undef,
 λ u=>u=cond (q) (.bool (!n)) undef,
 λ u=>u=cond (q&& !n) (.pointer (some ⟨g,3,none⟩)) undef,
 λ u=>u=cond (q&& !n) (.string x.f1) undef,
 λ u=>u=cond (q&& !n) (.bool t) undef,
 λ u=>u=cond (q&& !n) (.bool (!t)) undef,
 λ u=>u=cond (q) (.bool (!n&& !t)) undef,
 λ u=>u= .bool (!q||(!n&& !t)),
 λ u=>u= .bool (!q||(!n&& !t)),
 λ u=>u=cond (!(!q||(!n&& !t))) (.int .i64 j) undef,
 λ u=>u=cond (!(!q||(!n&& !t))) (.bool p) undef,
 λ u=>u=cond (!(!q||(!n&& !t))) (.bool p) undef,
 λ u=>u=cond (!(!q||(!n&& !t))&&p) (.pointer (some ⟨e,2,none⟩)) undef,
 λ u=>u=cond (!(!q||(!n&& !t))&&p) (.slice (some ad) N c) undef,
 λ u=>u=cond (!(!q||(!n&& !t))&&p) (.int .i64 j) undef,
 λ u=>u=cond (!(!q||(!n&& !t))&&p) (.int .i64 ((j-1:Nat):Int)) undef,
 λ u=>u=cond (!(!q||(!n&& !t))&&p) (.pointer (some (ad.add ((j-1)*4)))) undef,
 λ u=>u=cond (!(!q||(!n&& !t))&&p) (.pointer (some (ad.add ((j-1)*4)))) undef,
 λ u=>u=cond (!(!q||(!n&& !t))&&p) (.agg #[.string y.f0.f0,.int .i64 y.f0.f1,.bool y.f0.f2]) undef,
 λ u=>u=cond (!(!q||(!n&& !t))&&p) (.pointer (some ⟨g,0,none⟩)) undef,
 λ u=>u=cond (!(!q||(!n&& !t))&&p) (.agg #[.string x.f0.f0,.int .i64 x.f0.f1,.bool x.f0.f2]) undef,
 λ u=>u=cond (!(!q||(!n&& !t))&&p) (.bool b) undef,
 λ u=>u=cond (!(!q||(!n&& !t))&&p) (.bool (!b)) undef,
 λ u=>u=cond (!(!q||(!n&& !t))) (.bool (p&& !b)) undef,
 λ u=>u= .bool ((!q||(!n&& !t))||(p&& !b))]:List (Value->Prop)).getD i (λ _=>True) s
set_option maxHeartbeats 20000000 in
set_option maxRecDepth 100000 in
theorem Ye(g e:Nat)(x y:f_)(ad:Addr)(N c j:Nat)(q n t p b:Bool)(HU:Hid (ny x.f0.f0 x.f0.f1 x.f0.f2=q))(HN:Hid (dW x.f1=n))(HT:Hid (ou x.f1=t))(J:Hid (x.f1.size≤9223372036854775807))(hp:decide (0<j)=p)
  (HB:Hid (jc y.f0.f0 y.f0.f1 y.f0.f2 x.f0.f0 x.f0.f1 x.f0.f2=b))(hsub:p=true->IntKind.i64.wrap ((j:Int)-1)=((j-1:Nat):Int))(hin:p=true->j-1<N)
  (W0:World)(hx0:W0.cell? ⟨g,0,none⟩=some (.string x.f0.f0))(hx1:W0.cell? ⟨g,1,none⟩=some (.int .i64 x.f0.f1))(hx2:W0.cell? ⟨g,2,none⟩=some (.bool x.f0.f2))(hx3:W0.cell? ⟨g,3,none⟩=some (.string x.f1))(hsl:W0.cell? ⟨e,2,none⟩=some (.slice (some ad) N c))
  (hpr:p=true->W0.cell? (ad.add ((j-1)*4))=some (.string y.f0.f0)∧W0.cell? ⟨(ad.add ((j-1)*4)).block,(ad.add ((j-1)*4)).off+1,none⟩=some (.int .i64 y.f0.f1)∧W0.cell? ⟨(ad.add ((j-1)*4)).block,(ad.add ((j-1)*4)).off+2,none⟩=some (.bool y.f0.f2))
  (a0:Act)(ha1:a0.eval (.tmp 1)= .pointer (some ⟨e,0,none⟩))(I:a0.eval (.tmp 3)= .int .i64 j)(F:a0.eval (.tmp 4)= .pointer (some ⟨g,0,none⟩)):
  aJ Tryz.prog (opsOf Tryz.f29 9) (TG g e x y ad N c j q n t p b) W0 a0 0 (opsOf Tryz.f29 9).toList:=by
 have hu25:=Tryz.underlying25;have hu56:=Tryz.underlying56;have hu31:=Tryz.underlying31;refine aJ.cons (λ a w' hS hr=>?_) ?_
 .have h4:=gw hr F
  exact dN
 refine aJ.cons (λ a w' hS hr=>?_) ?_
 .have h25:=gQ hr 25 0
  (have hc0:=au hS hx0;have hc1:=au hS hx1;have hc2:=au hS hx2;exact dN)
 refine aJ.cons (λ a w' hS hr=>?_) ?_
 .cases q<;>(have L:=gQ hr 26 1;refine gU #[.agg #[.string x.f0.f0,.int .i64 x.f0.f1,.bool x.f0.f2]] (dL rfl) Tryz.func30 (by kernel_rfl) rfl rfl (by simp only[List.map_toArray,List.map_cons,List.map_nil,bT,L,cond_true,cond_false,Bool.not_true,Bool.not_false,Bool.and_true,Bool.and_false,Bool.true_and,Bool.false_and,Bool.or_true,Bool.or_false,Bool.true_or,Bool.false_or]) ?_;exact(BI _ _ _ _).mono λ e w2 h=>⟨_,h.1,congrArg Value.bool HU.out,h.2⟩)
 refine aJ.cons (λ a w' hS hr=>?_) ?_
 .cases q<;>(have h27:=gQ hr 27 2;exact dN)
 refine aJ.cons (λ a w' hS hr=>?_) ?_
 .cases q<;>(have h28:=gQ hr 28 3;exact dN)
 refine aJ.cons (λ a w' hS hr=>?_) ?_
 .cases q<;>(have z:=gQ hr 29 4;have h4:=gw hr F;exact sx z)
 refine aJ.cons (λ a w' hS hr=>?_) ?_
 .cases q<;>(have z:=gQ hr 29 4;have h30:=gQ hr 30 5;(first|exact jD z|exact jE z|(have hc:=au hS hx3;exact nO z)))
 refine aJ.cons (λ a w' hS hr=>?_) ?_
 .cases q<;>cases n<;>(have z:=gQ hr 29 4;have h31:=gQ hr 31 6;(first|exact jD z|exact jE z|(refine gU #[.string x.f1,.int .i64 0] ((eO rfl rfl rfl z).trans rfl) Tryz.func23 (by kernel_rfl) rfl rfl (by simp only[List.map_toArray,List.map_cons,List.map_nil,bT,z,h31,cond_true,cond_false,Bool.not_true,Bool.not_false,Bool.and_true,Bool.and_false,Bool.true_and,Bool.false_and,Bool.or_true,Bool.or_false,Bool.true_or,Bool.false_or]) ?_;exact(BJ _ J.out _).mono λ e w2 h=>⟨_,h.1,congrArg Value.bool HN.out,h.2⟩)))
 refine aJ.cons (λ a w' hS hr=>?_) ?_
 .cases q<;>cases n<;>(have z:=gQ hr 29 4;have h32:=gQ hr 32 7;exact sx z)
 refine aJ.cons (λ a w' hS hr=>?_) ?_
 .cases q<;>cases n<;>(have z:=gQ hr 29 4;have h33:=gQ hr 33 8;exact sx z)
 refine aJ.cons (λ a w' hS hr=>?_) ?_
 .cases q<;>cases n<;>(have D:=gQ hr 34 9;have h4:=gw hr F;exact sx D)
 refine aJ.cons (λ a w' hS hr=>?_) ?_
 .cases q<;>cases n<;>(have D:=gQ hr 34 9;have h35:=gQ hr 35 10;(first|exact jD D|exact jE D|(have hc:=au hS hx3;exact nO D)))
 refine aJ.cons (λ a w' hS hr=>?_) ?_
 .cases q<;>cases n<;>cases t<;>(have D:=gQ hr 34 9;have O:=gQ hr 36 11;(first|exact jD D|exact jE D|(refine gU #[.string x.f1,.int .i64 1] ((eO rfl rfl rfl D).trans rfl) Tryz.func23 (by kernel_rfl) rfl rfl (by simp only[List.map_toArray,List.map_cons,List.map_nil,bT,D,O,cond_true,cond_false,Bool.not_true,Bool.not_false,Bool.and_true,Bool.and_false,Bool.true_and,Bool.false_and,Bool.or_true,Bool.or_false,Bool.true_or,Bool.false_or]) ?_;exact(BL _ _).mono λ e w2 h=>⟨_,h.1,congrArg Value.bool HT.out,h.2⟩)))
 refine aJ.cons (λ a w' hS hr=>?_) ?_
 .cases q<;>cases n<;>cases t<;>(have D:=gQ hr 34 9;have h37:=gQ hr 37 12;exact sx D)
 refine aJ.cons (λ a w' hS hr=>?_) ?_
 .cases q<;>cases n<;>cases t<;>(have z:=gQ hr 29 4;have D:=gQ hr 34 9;have h38:=gQ hr 38 13;exact sx z)
 refine aJ.cons (λ a w' hS hr=>?_) ?_
 .cases q<;>cases n<;>cases t<;>(have z:=gQ hr 29 4;have h39:=gQ hr 39 14;exact dN)
 refine aJ.cons (λ a w' hS hr=>?_) ?_
 .cases q<;>cases n<;>cases t<;>(have h40:=gQ hr 40 15;exact dN)
 refine aJ.cons (λ a w' hS hr=>?_) ?_
 .cases q<;>cases n<;>cases t<;>(have E:=gQ hr 41 16;have h3:=gw hr I;exact sx E)
 refine aJ.cons (λ a w' hS hr=>?_) ?_
 .cases q<;>cases n<;>cases t<;>cases p<;>(have E:=gQ hr 41 16;have h42:=gQ hr 42 17;(first|exact jD E|exact jE E|((exact nO E))))
 refine aJ.cons (λ a w' hS hr=>?_) ?_
 .cases q<;>cases n<;>cases t<;>cases p<;>(have E:=gQ hr 41 16;have h43:=gQ hr 43 18;exact sx E)
 refine aJ.cons (λ a w' hS hr=>?_) ?_
 .cases q<;>cases n<;>cases t<;>cases p<;>(have s:=gQ hr 44 19;have h1:=gw hr ha1;exact sx s)
 refine aJ.cons (λ a w' hS hr=>?_) ?_
 .cases q<;>cases n<;>cases t<;>cases p<;>(have s:=gQ hr 44 19;have h45:=gQ hr 45 20;(first|exact jD s|exact jE s|(have hc:=au hS hsl;exact nO s)))
 refine aJ.cons (λ a w' hS hr=>?_) ?_
 .cases q<;>cases n<;>cases t<;>cases p<;>(have s:=gQ hr 44 19;have h3:=gw hr I;exact sx s)
 refine aJ.cons (λ a w' hS hr=>?_) ?_
 .cases q<;>cases n<;>cases t<;>cases p<;>(have s:=gQ hr 44 19;have h47:=gQ hr 47 22;(first|exact jD s|exact jE s|((have hs:=hsub rfl;exact nO s<;>simpa using hs))))
 refine aJ.cons (λ a w' hS hr=>?_) ?_
 .cases q<;>cases n<;>cases t<;>cases p<;>(have s:=gQ hr 44 19;have h46:=gQ hr 46 21;have h48:=gQ hr 48 23;(first|exact jD s|exact jE s|((have hi:=hin rfl;have p1:((0:Int)≤((j-1:Nat):Int))=True:=eq_true (by omega);have q1:(((j-1:Nat):Int)<(N:Int))=True:=eq_true (by omega);exact nO s))))
 refine aJ.cons (λ a w' hS hr=>?_) ?_
 .cases q<;>cases n<;>cases t<;>cases p<;>(have s:=gQ hr 44 19;have h49:=gQ hr 49 24;exact sx s)
 refine aJ.cons (λ a w' hS hr=>?_) ?_
 .cases q<;>cases n<;>cases t<;>cases p<;>(have s:=gQ hr 44 19;have h50:=gQ hr 50 25;(first|exact jD s|exact jE s|((have hp:=hpr rfl;have hc0:=au hS hp.1;have hc1:=au hS hp.2.1;have hc2:=au hS hp.2.2;clear hp;exact nO s))))
 refine aJ.cons (λ a w' hS hr=>?_) ?_
 .cases q<;>cases n<;>cases t<;>cases p<;>(have s:=gQ hr 44 19;have h4:=gw hr F;exact sx s)
 refine aJ.cons (λ a w' hS hr=>?_) ?_
 .cases q<;>cases n<;>cases t<;>cases p<;>(have s:=gQ hr 44 19;have h52:=gQ hr 52 27;(first|exact jD s|exact jE s|((have hc0:=au hS hx0;have hc1:=au hS hx1;have hc2:=au hS hx2;exact nO s))))
 refine aJ.cons (λ a w' hS hr=>?_) ?_
 .cases q<;>cases n<;>cases t<;>cases p<;>cases b<;>(have s:=gQ hr 44 19;have T:=gQ hr 51 26;have U:=gQ hr 53 28;(first|exact jD s|exact jE s|(refine gU #[.agg #[.string y.f0.f0,.int .i64 y.f0.f1,.bool y.f0.f2],.agg #[.string x.f0.f0,.int .i64 x.f0.f1,.bool x.f0.f2]] ((eO rfl rfl rfl s).trans rfl) Tryz.func69 (by kernel_rfl) rfl rfl (by simp only[List.map_toArray,List.map_cons,List.map_nil,bT,s,T,U,cond_true,cond_false,Bool.not_true,Bool.not_false,Bool.and_true,Bool.and_false,Bool.true_and,Bool.false_and,Bool.or_true,Bool.or_false,Bool.true_or,Bool.false_or]) ?_;exact(Nw _ _ _ _ _ _ _).mono λ e w2 h=>⟨_,h.1,congrArg Value.bool HB.out,h.2⟩)))
 refine aJ.cons (λ a w' hS hr=>?_) ?_
 .cases q<;>cases n<;>cases t<;>cases p<;>cases b<;>(have s:=gQ hr 44 19;have h54:=gQ hr 54 29;exact sx s)
 refine aJ.cons (λ a w' hS hr=>?_) ?_
 .cases q<;>cases n<;>cases t<;>cases p<;>cases b<;>(have E:=gQ hr 41 16;have s:=gQ hr 44 19;have h55:=gQ hr 55 30;exact sx E)
 refine aJ.cons (λ a w' hS hr=>?_) ?_
 .cases q<;>cases n<;>cases t<;>cases p<;>cases b<;>(have E:=gQ hr 41 16;have h56:=gQ hr 56 31;exact dN)
 exact aJ.nil
end Go.Proofs.Ct.Q
