/- Part of the proof of CheckTexts (see the last text). -/
import Derived.Test.YtcclielbggpoaaaGreatDoorA11
set_option linter.all false
namespace Go.Proofs.Ct.Q
open Go.RowKit Go.Proofs.aA.ak Go.Proofs.aA.aC Go.Proofs.aA.aG Go.Proofs.bO
theorem N9{a b:Nat}(h:a+b<4611686018427387904):wrap64 ((a:Int)+b)=((a+b:Nat):Int):=by rw[eG (by omega) (by omega)];omega
theorem oh{a:Nat}(h:a<4611686018427387904):wrap64 ((a:Int)+1)=((a+1:Nat):Int):=by rw[eG (by omega) (by omega)];omega
def xH(b:Int)(x y:List Int)(i:Nat)(o:List Int):Prop:=
 o.length=x.length+y.length+1∧inr b o∧val b o=val b (x.take i)*val b y
def sO(b:Int)(x y:List Int)(i j:Nat)(xi:Int)(o:List Int)(c:Int):Prop:=
 o.length=x.length+y.length+1∧inr b o∧(0≤c∧c<b)∧val b o+c*b^(i+j)=val b (x.take i)*val b y+b^i*xi*val b (y.take j)
theorem xH.start{b:Int}(hb:0<b){x y:List Int}{i:Nat}{o:List Int}(h:xH b x y i o)(xi:Int):sO b x y i 0 xi o 0:=by
 obtain⟨h1,h2,h3⟩:=h;refine⟨h1,h2,⟨Int.le_refl _,hb⟩,?_⟩;rw[h3,List.take_zero,val,Int.mul_zero,Int.zero_mul]
theorem sO.step{b:Int}(hb:0<b){x y:List Int}{i j:Nat}{xi:Int}{o:List Int}{c:Int}(h:sO b x y i j xi o c)(hij:i+j<o.length)(s:Int)(hy:val b (y.take (j+1))=val b (y.take j)+b^j*s)
  (v:Int)(hv:v=o[i+j]+c+xi*s)(hv0:0≤v)(hv1:v<b*b):sO b x y i (j+1) xi (o.set (i+j) (v% b)) (v/b):=by
 obtain⟨h1,h2,h3,h4⟩:=h;refine⟨by simpa using h1,zJ h2 _ ⟨Int.emod_nonneg _ (by omega),Int.emod_lt_of_pos _ hb⟩,⟨Int.ediv_nonneg hv0 (by omega),Int.ediv_lt_of_lt_mul hb hv1⟩,?_⟩;rw[Df b o (i+j) _ hij,hy];have e1:=Int.emod_add_mul_ediv v b;have e2:b^(i+(j+1))=b^(i+j)*b:=Int.pow_succ ..;have e3:b^(i+j)=b^i*b^j:=Int.pow_add ..;rw[e2];have e4:v% b=v-b*(v/b):=by omega
 rw[e4,hv];have e5:b^i*xi*(val b (y.take j)+b^j*s)=b^i*xi*val b (y.take j)+b^(i+j)*(xi*s):=by rw[e3];grind
 rw[e5,<-Int.add_assoc,<-h4];clear e5 e4 e3 e2 e1 h4 hy
 grind
theorem sO.done{b:Int}(hb:0<b){x y:List Int}{i j:Nat}(hi:i<x.length){o:List Int}(h:sO b x y i j x[i] o 0)(hj:y.length≤j):xH b x y (i+1) o:=by
 obtain⟨h1,h2,h3,h4⟩:=h;refine⟨h1,h2,?_⟩;rw[List.take_of_length_le hj,Int.zero_mul,Int.add_zero]at h4;rw[h4,jh b x i hi]
 grind
theorem sO.zero{b:Int}(hb:1<b){x y:List Int}(hx:inr b x)(hy:inr b y){i:Nat}(hi:i<x.length){o:List Int}{c:Int}(h:sO b x y i (y.length+1) x[i] o c):c=0:=by
 obtain⟨h1,h2,h3,h4⟩:=h;rw[List.take_of_length_le (l:=y) (by clear h4;omega)]at h4;have e:val b (x.take i)*val b y+b^i*x[i]*val b y=val b (x.take (i+1))*val b y:=by rw[jh b x i hi];grind
 rw[e]at h4;have r1:=kF (by omega) (tT hx (i+1));have r2:=kF (by omega) hy;have r3:=qb (by omega) h2;have e1:(x.take (i+1)).length=i+1:=by rw[List.length_take];clear h4 e r1 r2 r3;omega
 rw[e1]at r1;have p1:=pow_pos (by omega:0<b) y.length;have p2:=pow_pos (by omega:0<b) (i+1);have m1:val b (x.take (i+1))*val b y≤b^(i+1)*val b y:=Int.mul_le_mul_of_nonneg_right (by omega) r2.1;have m2:b^(i+1)*val b y<b^(i+1)*b^y.length:=Int.mul_lt_mul_of_pos_left r2.2 p2;have e2:b^(i+(y.length+1))=b^(i+1)*b^y.length:=by rw[<-Int.pow_add];congr 1;clear h4 e r1 r2 r3 p1 p2 m1 m2;omega
 rw[e2]at h4;rcases Int.lt_or_le 0 c with hc|hc
 .have m3:1*(b^(i+1)*b^y.length)≤c*(b^(i+1)*b^y.length):=Int.mul_le_mul_of_nonneg_right (by omega) (Int.le_of_lt (Int.mul_pos p2 p1))
  rw[Int.one_mul]at m3;exfalso;generalize b^(i+1)*b^y.length=P at*
  generalize c*P=Q at*
  generalize val b (x.take (i+1))*val b y=S at*
  generalize b^(i+1)*val b y=T at*
  clear e e2 r1 r2 p1 p2;omega
 .omega
theorem Xx(x y:List Int)(hx:inr 10000 x)(hy:inr 10000 y)(hlx:x.length<1000000)(hly:y.length<1000000)(i:Nat)(hi:i<x.length)(n:Nat):∀(k j:Nat)(o:List Int)(c:Int),
  y.length+1-j=n->j≤y.length+1->sO 10000 x y i j x[i] o c->2*n+2<k->
  ∃o' k',k≤k'+2*n+2∧xH 10000 x y (i+1) o'∧aN.l1 k x y o (i:Int) c (j:Int)=aN.l0 k' x y o' ((i+1:Nat):Int):=by
 have hxi:=fI hx hi;have fin:∀(k j:Nat)(o:List Int),sO 10000 x y i j x[i] o 0->y.length≤j->2<k->∃o' k',k≤k'+2∧xH 10000 x y (i+1) o'∧aN.l1 k x y o (i:Int) 0 (j:Int)=aN.l0 k' x y o' ((i+1:Nat):Int):=by
  intro k j o h hj hk;obtain⟨k,rfl⟩:∃m,k=m+2:=⟨k-2,by omega⟩;refine⟨o,k,by omega,h.done (by decide) hi hj,?_⟩;simp only[aN.l1];rw[if_neg (by omega)];simp only[aN.j2];rw[if_neg (by simp),oh (by omega)]
 induction n with
 |zero=>
  intro k j o c hn hj h hk;obtain rfl:j=y.length+1:=by omega
  have hc:=h.zero (by decide) hx hy hi;subst hc;obtain⟨o',k',h1,h2⟩:=fin k _ o h (by omega) (by omega);exact⟨o',k',by omega,h2⟩
 |succ n ih=>
  intro k j o c hn hj h hk;have hol:=h.1;have hoj:=fI h.2.1 (i:=i+j) (by omega);have hc:=h.2.2.1
  have tail:∀(k:Nat)(v:Int),2*n+2<k->sO 10000 x y i (j+1) x[i] (o.set (i+j) (v% 10000)) (v/10000)->0≤v->v<100000000->
    ∃o' k',k≤k'+2*n+2∧xH 10000 x y (i+1) o'∧aN.l1 k x y (o.set (i+j) (Int.tmod v 10000)) (i:Int) (wrap64 (Int.tdiv v 10000)) (wrap64 ((j:Int)+1))=aN.l0 k' x y o' ((i+1:Nat):Int):=by
   intro k v hk hm h0 h1;rw[oh (by omega),Int.tmod_eq_emod_of_nonneg h0,Int.tdiv_eq_ediv_of_nonneg h0,eG (by omega) (by omega)];exact ih k (j+1) _ _ (by omega) (by omega) hm hk
  by_cases s:j<y.length
  .have hyj:=fI hy s
   obtain⟨k,rfl⟩:∃m,k=m+2:=⟨k-2,by omega⟩;have hm0:0≤x[i]*y[j]:=Int.mul_nonneg hxi.1 hyj.1;have hm1:x[i]*y[j]≤9999*9999:=Int.mul_le_mul (by omega) (by omega) hyj.1 (by decide);simp only[aN.l1];rw[if_pos (by omega)];simp only[aN.j2];rw[if_pos trivial,N9 (by omega),if_pos (by omega),if_pos (by omega),if_pos (by omega),if_pos (by omega),if_pos (by omega),if_pos (by omega),Int.toNat_natCast,iw (by omega:i+j<o.length),iw hi,iw s,
    eG (x:=o[i+j]+c) (by omega) (by omega),eG (x:=x[i]*y[j]) (by omega) (by omega),eG (x:=o[i+j]+c+x[i]*y[j]) (by omega) (by omega)]
   obtain⟨o',k',h1,h2⟩:=tail k _ (by omega) (h.step (by decide) (by omega) y[j] (jh 10000 y j s) _ rfl (by omega) (by omega)) (by omega) (by omega);exact⟨o',k',by omega,h2⟩
  .by_cases hc0:c=0
   .subst hc0
    obtain⟨o',k',h1,h2⟩:=fin k j o h (by omega) (by omega);exact⟨o',k',by omega,h2⟩
   .obtain⟨k,rfl⟩:∃m,k=m+2:=⟨k-2,by omega⟩
    simp only[aN.l1];rw[if_neg (by omega),decide_eq_true (by omega)];simp only[aN.j2];rw[if_pos trivial,N9 (by omega),if_pos (by omega),if_pos (by omega),if_neg (by omega),Int.toNat_natCast,iw (by omega:i+j<o.length),
     eG (x:=o[i+j]+c) (by omega) (by omega)]
    obtain⟨o',k',h1,h2⟩:=tail k _ (by omega) (h.step (by decide) (by omega) 0 (by rw[List.take_of_length_le (by omega),List.take_of_length_le (by omega),Int.mul_zero,Int.add_zero]) _ (by rw[Int.mul_zero,Int.add_zero]) (by omega) (by omega)) (by omega) (by omega);exact⟨o',k',by omega,h2⟩
theorem Xy(x y:List Int)(hx:inr 10000 x)(hy:inr 10000 y)(hlx:x.length<1000000)(s:y.length<1000000)(W:Nat)(hW:W=2*y.length+8)(n:Nat):∀(k i:Nat)(o:List Int),
  x.length-i=n->i≤x.length->xH 10000 x y i o->n*W+x.length+y.length+5<k->
  aN.l0 k x y o (i:Int)=some (limbs R (val 10000 x*val 10000 y).toNat):=by
 induction n with
 |zero=>
  intro k i o hn hi h hk;obtain⟨k,rfl⟩:∃m,k=m+1:=⟨k-1,by omega⟩;simp only[aN.l0];obtain rfl:i=x.length:=by omega
  have hol:=h.1;have hv:=h.2.2;rw[List.take_length]at hv;rw[if_neg (by omega),wE o (by omega) k (by omega),Option.bind_some,Ck h.2.1,hv]
 |succ n ih=>
  intro k i o hn hi h hk;obtain⟨k,rfl⟩:∃m,k=m+1:=⟨k-1,by omega⟩;rw[Nat.succ_mul]at hk;simp only[aN.l0];rw[if_pos (by omega)];obtain⟨o',k',h1,h2,h3⟩:=Xx x y hx hy hlx s i (by omega) (y.length+1) k 0 o 0 (by omega) (by omega) (h.start (by decide) _) (by omega);have e0:((0:Nat):Int)=0:=rfl;rw[e0]at h3;rw[h3];exact ih k' (i+1) o' (by omega) (by omega) h2 (by omega)
theorem QI(m n:Nat)(hm:(limbs R m).length<1000000)(hn:(limbs R n).length<1000000)(k:Nat)(hk:(limbs R m).length*(2*(limbs R n).length+8)+(limbs R m).length+(limbs R n).length+5<k):
  aN.f k (limbs R m) (limbs R n)=some (limbs R (m*n)):=by
 unfold aN.f;have e:wrap64 (wrap64 (((limbs R m).length:Int)+(limbs R n).length)+1)=(((limbs R m).length+(limbs R n).length+1:Nat):Int):=by
  clear hk;rw[eG (x:=((limbs R m).length:Int)+(limbs R n).length) (by omega) (by omega),eG (by omega) (by omega)];omega
 rw[e,if_pos (by omega),if_pos (by clear hk;omega)];have:=Xy (limbs R m) (limbs R n) (vL m) (vL n) hm hn _ rfl (limbs R m).length k 0 (List.replicate ((limbs R m).length+(limbs R n).length+1) 0) (by omega) (by omega)
  ⟨by simp,oz (by decide) _,by simp[mE,val]⟩ hk
 rw[xL,xL]at this;exact this
abbrev B9:Nat:=1000000000
theorem iq:2≤B9:=by decide
theorem pI(n:Nat):val 1000000000 (limbs B9 n)=n:=uZ iq n
theorem nW(n:Nat):inr 1000000000 (limbs B9 n):=yD iq n
theorem sH{l:List Int}(h:inr 1000000000 l):dU l=limbs B9 (val 1000000000 l).toNat:=sF iq h
def AB(c a b:Int):Prop:=(c<0↔a<b)∧(c>0↔a>b)
theorem Xa(x y:List Int)(hx:inr 1000000000 x)(hy:inr 1000000000 y)(hl:x.length=y.length)(hn:x.length<1000000)(n:Nat):∀k,n<k->n≤x.length->
  ∃c,dK.l0 k x y ((n:Int)-1)=some c∧AB c (val 1000000000 (x.take n)) (val 1000000000 (y.take n)):=by
 induction n with
 |zero=>
  intro k hk _;obtain⟨k,rfl⟩:∃m,k=m+1:=⟨k-1,by omega⟩;simp only[dK.l0];exact⟨0,by rw[if_neg (by omega)],by simp[AB]⟩
 |succ n ih=>
  intro k hk hm;obtain⟨k,rfl⟩:∃m,k=m+1:=⟨k-1,by omega⟩;simp only[dK.l0];have e:((n+1:Nat):Int)-1=(n:Int):=by omega
  have hxt:=tT hx n;have s:=tT hy n;have ht:(x.take n).length=(y.take n).length:=by rw[List.length_take,List.length_take,hl]
  have hxn:=fI hx (by omega:n<x.length);have hyn:=fI hy (by omega:n<y.length);rw[e,if_pos (by omega),if_pos (by omega),if_pos (by omega),if_pos (by omega),iw (by omega:n<x.length),iw (by omega:n<y.length),List.take_succ_eq_append_getElem (by omega),List.take_succ_eq_append_getElem (by omega)];by_cases h1:x[n]=y[n]
  .obtain⟨c,h2,h3⟩:=ih k (by omega) (by omega)
   rw[if_pos h1,eG (by omega) (by omega)];refine⟨c,h2,?_⟩;unfold AB at h3|-
   rw[kT,kT,h1,ht];omega
  .refine⟨x[n]-y[n],by rw[if_neg h1,eG (x:=x[n]) (by omega) (by omega),eG (x:=y[n]) (by omega) (by omega),eG (by omega) (by omega)],?_⟩
   rcases Int.lt_or_gt_of_ne h1 with h2|h2
   .have h3:=wh (by decide) ht hxt s h2
    unfold AB;omega
   .have h3:=wh (by decide) ht.symm s hxt h2
    unfold AB;omega
theorem Aj(m n:Nat)(hm:(limbs B9 m).length<1000000)(hn:(limbs B9 n).length<1000000)(k:Nat)(hk:(limbs B9 m).length<k):
  ∃c,dK.f k (limbs B9 m) (limbs B9 n)=some c∧AB c m n:=by
 unfold dK.f;by_cases h:(limbs B9 m).length=(limbs B9 n).length
 .obtain⟨c,h1,h2⟩:=Xa _ _ (nW m) (nW n) h hm _ k hk (Nat.le_refl _)
  rw[List.take_length,h,List.take_length,pI,pI]at h2;exact⟨c,by rw[if_pos (by omega),eG (by omega) (by omega),h1],h2⟩
 .refine⟨((limbs B9 m).length:Int)-(limbs B9 n).length,by rw[if_neg (by omega),eG (by omega) (by omega)],?_⟩
  by_cases h2:(limbs B9 m).length<(limbs B9 n).length
  .have:=nH iq h2
   unfold AB;omega
  .have:=nH iq (by omega:(limbs B9 n).length<(limbs B9 m).length)
   unfold AB;omega
def AJ(b:Int)(x y:List Int)(i:Nat)(o:List Int)(c:Int):Prop:=
 o.length=x.length∧inr b o∧(∀j (h:j<o.length)(h':j<x.length),i≤j->o[j]=x[j])∧(c=0∨c=1)∧val b o=val b x-val b (y.take i)+c*b^i
theorem AJ.set{b:Int}{x y:List Int}{i:Nat}{o:List Int}{c:Int}(h:AJ b x y i o c)(hi:i<x.length)(yi:Int)(hy:val b (y.take (i+1))=val b (y.take i)+b^i*yi)
  (d c':Int)(hd:0≤d∧d<b)(hc':c'=0∨c'=1)(he:x[i]-c-yi=d-c'*b):AJ b x y (i+1) (o.set i d) c':=by
 obtain⟨ho,hro,hz,hc,s⟩:=h;have hoi:i<o.length:=by rw[ho];exact hi
 refine⟨by simpa using ho,zJ hro i hd,?_,hc',?_⟩
 .intro j hj hj' hij
  rw[List.getElem_set_ne (by clear hy he s hd;omega)];exact hz j (by simpa using hj) hj' (Nat.le_of_succ_le hij)
 .rw[Df b o i d hoi,hz i hoi hi (Nat.le_refl _),s,hy,Int.pow_succ]
  clear s hy
  grind
theorem AJ.last{b:Int}(hb:0<b){x y:List Int}{o:List Int}{c:Int}(h:AJ b x y x.length o c)(hl:y.length≤x.length)(hv:val b y≤val b x):val b o=val b x-val b y:=by
 obtain⟨ho,hro,hz,hc,s⟩:=h;rw[List.take_of_length_le hl]at s;have hr:=kF hb hro;rw[ho]at hr;rcases hc with h|h
 .rw[h,Int.zero_mul]at s;omega
 .rw[h,Int.one_mul]at s;omega
theorem Xb(x y:List Int)(hx:inr 1000000000 x)(hy:inr 1000000000 y)(hl:y.length≤x.length)(hn:x.length<1000000)(hv:val 1000000000 y≤val 1000000000 x)(n:Nat):∀(k i:Nat)(o:List Int)(c:Int),
  x.length-i=n->i≤x.length->AJ 1000000000 x y i o c->n<k->
  ∃L,dX.l0 k y o c (x.length:Int) (i:Int)=some L∧L.length=x.length∧inr 1000000000 L∧val 1000000000 L=val 1000000000 x-val 1000000000 y:=by
 induction n with
 |zero=>
  intro k i o c hi hil ho hk;obtain⟨k,rfl⟩:∃m,k=m+1:=⟨k-1,by omega⟩;simp only[dX.l0];obtain rfl:i=x.length:=by omega
  exact⟨o,by rw[if_neg (by omega)],ho.1,ho.2.1,ho.last (by decide) hl hv⟩
 |succ n ih=>
  intro k i o c hi hil ho hk;obtain⟨k,rfl⟩:∃m,k=m+1:=⟨k-1,by omega⟩;have hi3:i<x.length:=by omega
  have hoo:=ho.1;have hcc:=ho.2.2.2.1;have hoi:=ho.2.2.1 i (by omega) hi3 (Nat.le_refl _);have hxi:=fI hx hi3
  have step:∀(d c':Int),AJ 1000000000 x y (i+1) (o.set i d) c'->
    ∃L,dX.l0 k y (o.set i d) c' (x.length:Int) (wrap64 ((i:Int)+1))=some L∧L.length=x.length∧inr 1000000000 L∧val 1000000000 L=val 1000000000 x-val 1000000000 y:=by
   intro d c' h';rw[oh (by omega)];exact ih k (i+1) (o.set i d) c' (by omega) (by omega) h' (by omega)
  have hpos:(0:Int)≤i:=by omega
  have hix:(i:Int)<x.length:=by omega
  have s:(i:Int)<o.length:=by omega
  simp only[dX.l0];rw[if_pos hix,if_pos hpos,if_pos s,iw (by omega:i<o.length),hoi,Int.toNat_natCast,eG (x:=x[i]) (by omega) (by omega)];by_cases hy1:i<y.length
  .have hyi:=fI hy hy1
   have hs:=ho.set hi3 _ (jh 1000000000 y i hy1);rw[if_pos (by omega:(i:Int)<y.length),iw hy1,eG (x:=x[i]-c) (by omega) (by omega),eG (x:=y[i]) (by omega) (by omega),eG (x:=x[i]-c-y[i]) (by omega) (by omega)];by_cases hneg:x[i]-c-y[i]<0
   .rw[if_pos hneg,eG (x:=x[i]-c-y[i]+1000000000) (by omega) (by omega),Int.emod_eq_of_lt (by omega) (by omega)];exact step _ _ (hs _ _ (by omega) (.inr rfl) (by omega))
   .rw[if_neg hneg,Int.emod_eq_of_lt (by omega) (by omega)];exact step _ _ (hs _ _ (by omega) (.inl rfl) (by omega))
  .have hs:=ho.set hi3 0 (by rw[List.take_of_length_le (by omega),List.take_of_length_le (by omega),Int.mul_zero,Int.add_zero])
   rw[if_neg (by omega:¬(i:Int)<y.length),eG (x:=x[i]-c) (by omega) (by omega)];by_cases hneg:x[i]-c<0
   .rw[if_pos hneg,eG (x:=x[i]-c+1000000000) (by omega) (by omega),Int.emod_eq_of_lt (by omega) (by omega)];exact step _ _ (hs _ _ (by omega) (.inr rfl) (by omega))
   .rw[if_neg hneg,Int.emod_eq_of_lt (by omega) (by omega)];exact step _ _ (hs _ _ (by omega) (.inl rfl) (by omega))
theorem Db(m n:Nat)(h:n≤m)(hm:(limbs B9 m).length<1000000)(k:Nat)(hk:(limbs B9 m).length<k):
  ∃L,dX.f k (limbs B9 m) (limbs B9 n)=some L∧L.length=(limbs B9 m).length∧inr 1000000000 L∧val 1000000000 L=((m-n:Nat):Int):=by
 have hl:=fU iq h;unfold dX.f cZ.f;rw[if_pos (by omega),Option.bind_some];obtain⟨L,h1,h2,h3,h4⟩:=Xb (limbs B9 m) (limbs B9 n) (nW m) (nW n) hl hm (by rw[pI,pI];omega) (limbs B9 m).length k 0 (limbs B9 m) 0 (by omega) (by omega)
  ⟨rfl,nW m,λ j _ _ _=>rfl,.inl rfl,by simp[val]⟩ hk
 rw[pI,pI]at h4;exact⟨L,h1,h2,h3,by rw[h4];omega⟩
theorem tZ(n:Nat)(hn:n<18446744073709551616)(k:Nat)(hk:6≤k):bq.f k (n:Int)=some (limbs R n):=by
 have:=yG n hn;unfold bq.f;rw[U5 n k [] hn (by omega) (by simp;omega)];rfl
theorem Mc(n q:Nat)(hn:(limbs R n).length<1000000)(hq:q<9000000000000000000)(k:Nat)(hk:30000000<k):
  gI.f k (limbs R n) (q:Int)=some (limbs R (n*q)):=by
 unfold gI.f;have hl:=yG q (by omega);rw[jB (by omega) (by omega),tZ q (by omega) k (by omega),Option.bind_some,QI n q hn (by omega) k,Option.bind_some];have:(limbs R n).length*(2*(limbs R q).length+8)≤1000000*(2*5+8):=Nat.mul_le_mul (by omega) (by omega);omega
theorem QJ(A:List Int)(v:Int)(n:Nat):(A++List.replicate (n+1) 0).set A.length v=A++[v]++List.replicate n 0:=by
 rw[List.set_append_right _ _ (Nat.le_refl _),Nat.sub_self,List.replicate_succ,List.set_cons_zero];simp
theorem Xz(x0 x1 Q rest:List Int)(x8 s x10 xi:Int)(hr:rest.length<1000000)(n:Nat):∀k j,rest.length-j=n->j≤rest.length->n<k->
  aK.l1 k x0 x1 Q rest x8 s x10 ((xi::rest.take j)++List.replicate (rest.length-j) 0) (j:Int)=aK.l1 (k-n) x0 x1 Q rest x8 s x10 (xi::rest) (rest.length:Int):=by
 induction n with
 |zero=>
  intro k j hn hj hk;obtain rfl:j=rest.length:=by omega
  rw[List.take_length,Nat.sub_self,List.replicate_zero,List.append_nil];rfl
 |succ n ih=>
  intro k j hn hj hk;obtain⟨k,rfl⟩:∃m,k=m+1:=⟨k-1,by omega⟩;have hl:((xi::rest.take j)++List.replicate (rest.length-j) 0).length=rest.length+1:=by
   rw[List.length_append,List.length_cons,List.length_take,List.length_replicate];omega
  have hA:(xi::rest.take j).length=j+1:=by rw[List.length_cons,List.length_take];omega
  simp only[aK.l1];rw[if_pos (by omega),if_pos (by omega),oh (by omega),if_pos (by omega),hl,if_pos (by omega),Int.toNat_natCast,iw (by omega:j<rest.length)];have e1:rest.length-j=n+1:=hn;have e2:rest.length-(j+1)=n:=by omega
  have e3:=QJ (xi::rest.take j) (rest[j]'(by omega)) n;rw[hA]at e3;rw[e1,e3];have:=ih k (j+1) e2 (by omega) (by omega);rw[e2,List.take_succ_eq_append_getElem (by omega),<-List.cons_append]at this;rw[this,show k+1-(n+1)=k-n by omega]
theorem XA(x0 Q:List Int)(n:Nat)(hn:0<n)(x8 s:Int)(i:Nat)(hi:i<Q.length)(hi2:i<1000000)(hy:(limbs R n).length<1000000)(c:Nat):∀(rv k q:Nat),rv/n=c->(limbs R rv).length<1000000->
  q+c<1000000000->30000000+c+1<k->∃k',k≤k'+c+1∧
  aK.l2 k x0 (limbs R n) Q (limbs R rv) x8 s (i:Int) (q:Int)=aK.l0 k' x0 (limbs R n) (Q.set i ((q+c:Nat):Int)) (limbs R (rv% n)) x8 s ((i:Int)-1):=by
 induction c with
 |zero=>
  intro rv k q hd hl hq hk;obtain⟨k,rfl⟩:∃m,k=m+1:=⟨k-1,by omega⟩;simp only[aK.l2];have h:rv<n:=by
   rcases Nat.lt_or_ge rv n with h|h
   .exact h
   .have:=Nat.div_pos h hn;omega
  clear hd;rw[rD rv n hl hy k (by omega),Option.bind_some];have hc:¬jA (rv:Int) n≥0:=by unfold jA;rw[if_pos (by omega)];omega
  refine⟨k,by omega,?_⟩;rw[if_neg hc,if_pos (by omega),if_pos (by omega),eG (by omega) (by omega),Nat.mod_eq_of_lt (by omega)];rfl
 |succ c ih=>
  intro rv k q hd hl hq hk;obtain⟨k,rfl⟩:∃m,k=m+1:=⟨k-1,by omega⟩;simp only[aK.l2];have h:n≤rv:=by
   rcases Nat.lt_or_ge rv n with h|h
   .have:=Nat.div_eq_of_lt h;omega
   .exact h
  have hd':(rv-n)/n=c:=by
   have:=Nat.add_div_right (rv-n) hn;rw[Nat.sub_add_cancel h]at this;omega
  clear hd;rw[rD rv n hl hy k (by omega),Option.bind_some];have hc:jA (rv:Int) n≥0:=by unfold jA;rw[if_neg (by omega)];split<;>omega
  have hl2:=fU R2 (Nat.sub_le rv n);have hl3:(limbs R (rv-n)).length<1000000:=by omega
  rw[if_pos hc,IU rv n h hl k (by omega),Option.bind_some,oh (by omega)];obtain⟨k',h1,h2⟩:=ih (rv-n) k (q+1) hd' hl3 (by omega) (by omega);refine⟨k',by omega,?_⟩;rw[h2,<-Nat.mod_eq_sub_mod h,show q+1+c=q+(c+1) by omega]
def KZ(x:List Int)(n:Nat)(i:Nat)(Q:List Int)(rv:Nat):Prop:=
 Q.length=x.length∧inr 10000 Q∧(∀j (h:j<Q.length),j<i->Q[j]=0)∧rv<n∧val 10000 (x.drop i)=n*val 10000 (Q.drop i)+rv
theorem KZ.step{x:List Int}(hx:inr 10000 x){n i:Nat}{Q:List Int}{rv:Nat}(h:KZ x n (i+1) Q rv)(hi:i<x.length)(r:Nat)(hr:(r:Int)=x[i]+10000*rv):
  r/n<10000∧KZ x n i (Q.set i ((r/n:Nat):Int)) (r% n):=by
 obtain⟨h1,h2,h3,h4,h5⟩:=h;have hn:0<n:=by omega
 have hxi:=fI hx hi;have hlt:r/n<10000:=Nat.div_lt_of_lt_mul (by rw[Nat.mul_comm];omega);have z:i<Q.length:=by omega
 refine⟨hlt,by simpa using h1,zJ h2 i ⟨Int.natCast_nonneg _,Int.ofNat_lt.2 hlt⟩,?_,Nat.mod_lt _ hn,?_⟩
 .intro j hj hij
  rw[List.getElem_set_ne (by omega)];exact h3 j (by simpa using hj) (by omega)
 .have e1:(Q.set i ((r/n:Nat):Int)).drop i=((r/n:Nat):Int)::Q.drop (i+1):=by
   rw[List.drop_eq_getElem_cons (by simpa using z),List.getElem_set_self,List.drop_set_of_lt (by omega)]
  rw[e1,List.drop_eq_getElem_cons hi,val,val,h5];have e2:(r:Int)=n*((r/n:Nat):Int)+((r% n:Nat):Int):=by have:=Nat.div_add_mod r n;exact_mod_cast this.symm
  rw[Int.mul_add,Int.mul_add,<-Int.add_assoc];generalize ((r/n:Nat):Int)=q at*
  generalize ((r% n:Nat):Int)=s at*
  grind
theorem SV(y t P r:Nat)(ht:0<t)(hP:0<P)(h:y≤t*P):y*(r/P/t)≤r:=by
 have h1:=Nat.div_mul_le_self (r/P) t;have h2:=Nat.div_mul_le_self r P
 calc y*(r/P/t)≤t*P*(r/P/t):=Nat.mul_le_mul_right _ h
  _=(r/P/t*t)*P:=by rw[Nat.mul_comm (t*P),Nat.mul_assoc]
  _≤r/P*P:=Nat.mul_le_mul_right _ h1
  _≤r:=h2
theorem uo(n a:Nat):val 10000 ((limbs R n).drop a)=((n/R^a:Nat):Int):=by
 induction a generalizing n with
 |zero=>rw[List.drop_zero,xL,Nat.pow_zero,Nat.div_one]
 |succ a ih=>
  by_cases h:n=0
  .subst h;rw[bZ,List.drop_nil,Nat.zero_div];rfl
  .rw[iL R2 h,List.drop_succ_cons,ih,Nat.pow_succ,Nat.mul_comm,Nat.div_div_eq_div_mul]
theorem F8(r xi:Nat)(hx:xi<R):dU (((xi:Nat):Int)::limbs R r)=limbs R (xi+R*r):=by
 have hi:inr 10000 (((xi:Nat):Int)::limbs R r):=kX.2 ⟨⟨Int.natCast_nonneg _,Int.ofNat_lt.2 hx⟩,vL r⟩;rw[Ck hi,val,xL];congr 1
theorem XB(x:List Int)(hx:inr 10000 x)(hlx:x.length<1000000)(n:Nat)(hy:(limbs R n).length<900000)(a t:Nat)(ht:0<t)(D:n≤t*R^a)(hla:(limbs R n).length≤a+2)(i:Nat):∀(k rv:Nat)(Q:List Int),
  KZ x n i Q rv->i≤x.length->40000000+i*2000000<k->
  ∃(q:Nat)(rv':Nat),rv'<n∧val 10000 x=n*q+rv'∧aK.l0 k x (limbs R n) Q (limbs R rv) (a:Int) (t:Int) ((i:Int)-1)=some (limbs R q,limbs R rv'):=by
 induction i with
 |zero=>
  intro k rv Q h hi hk;obtain⟨k,rfl⟩:∃m,k=m+1:=⟨k-1,by omega⟩;have hQ:=h.1;have hv:=h.2.2.2.2;rw[List.drop_zero,List.drop_zero]at hv;have hq:=qb (by decide) h.2.1;simp only[aK.l0];rw[if_neg (by omega),wE Q (by omega) k (by omega),Option.bind_some,Ck h.2.1];refine⟨(val 10000 Q).toNat,rv,h.2.2.2.1,?_,rfl⟩;rw[Int.toNat_of_nonneg hq];exact hv
 |succ i ih=>
  intro k rv Q h hi hk;obtain⟨k,rfl⟩:∃m,k=m+1:=⟨k-1,by omega⟩;obtain⟨B,hB⟩:∃B:Nat,B=40000000+i*2000000:=⟨_,rfl⟩;have hkB:B+2000000≤k:=by omega
  have hB0:40000000≤B:=by omega
  rw[<-hB]at ih;clear hk hB;have E:=h.2.2.2.1;have hn:0<n:=by omega
  have hQ:=h.1;have hlr:=fU R2 (Nat.le_of_lt E);have hxi:=fI hx (by omega:i<x.length);obtain⟨xi,hxe⟩:∃xi:Nat,(xi:Int)=x[i]'(by omega):=⟨(x[i]'(by omega)).toNat,by omega⟩;have e:((i+1:Nat):Int)-1=(i:Int):=by omega
  simp only[aK.l0];rw[e,if_pos (by omega),oh (by omega),if_pos (by omega),if_pos (by omega),Option.bind_some,if_pos (by omega),if_pos (by omega),if_pos (by rw[List.length_replicate];omega),iw (by omega:i<x.length),<-hxe];have e1:(List.replicate (((limbs R rv).length+1:Nat):Int).toNat (0:Int)).set (0:Int).toNat (xi:Int)=((xi:Int)::(limbs R rv).take 0)++List.replicate ((limbs R rv).length-0) 0:=by
   rw[Int.toNat_natCast,List.replicate_succ];rfl
  rw[e1];have h1:=Xz x (limbs R n) Q (limbs R rv) a t i xi (by omega) (limbs R rv).length k 0 (by omega) (by omega) (by omega);have e0:((0:Nat):Int)=0:=rfl;rw[e0]at h1;rw[h1];obtain⟨k2,hk2⟩:∃m,k-(limbs R rv).length=m+1:=⟨k-(limbs R rv).length-1,by omega⟩;rw[hk2]
  have s:xi<R:=by have:(xi:Int)<10000:=by omega
                  exact Int.ofNat_lt.1 this
  have hrl:(limbs R (xi+R*rv)).length≤(limbs R rv).length+1:=by
   rw[<-F8 rv xi s];exact Nat.le_trans (mq _) (by simp)
  have hst:=h.step hx (by omega:i<x.length) (xi+R*rv) (by rw[<-hxe];rfl);have hdl:=SV n t (R^a) (xi+R*rv) ht (Nat.pow_pos (by decide)) D;generalize hr:xi+R*rv=r at*
  simp only[aK.l1];rw[if_neg (by omega),wE _ (by rw[List.length_cons];omega) k2 (by rw[List.length_cons];omega),Option.bind_some,F8 rv xi s,hr,
   QH _ (vL r) (by omega) a (by omega) k2 (by omega),Option.bind_some,if_neg (by omega),uo,Int.tdiv_eq_ediv_of_nonneg (Int.natCast_nonneg _),<-Int.natCast_ediv]
  have F:r/R^a/t<10000:=by
   have h2:r/R^a/t≤r/n:=(Nat.le_div_iff_mul_le hn).2 (by rw[Nat.mul_comm];exact hdl);exact Nat.lt_of_le_of_lt h2 hst.1
  generalize r/R^a/t=q at*
  rw[eG (by omega) (by omega),Mc n q (by omega) (by omega) k2 (by omega),Option.bind_some,IU r (n*q) hdl (by omega) k2 (by omega),Option.bind_some];have hlm:=fU R2 (Nat.sub_le r (n*q));have hc:(r-n*q)/n=r/n-q:=Nat.sub_mul_div ..;have hm:(r-n*q)% n=r% n:=Nat.sub_mul_mod hdl;have hqr:q≤r/n:=(Nat.le_div_iff_mul_le hn).2 (by rw[Nat.mul_comm];exact hdl);have hst1:=hst.1;have z:=hst.2;generalize hcc:r/n=c at*
  obtain⟨k',g1,g2⟩:=XA x Q n hn a t i (by omega) (by omega) (by omega) (c-q) (r-n*q) k2 q hc (by omega) (by omega) (by omega);rw[g2,hm,show q+(c-q)=c by omega];have hk3:B<k':=by omega
  have hi3:i≤x.length:=by omega
  clear hdl g1 hlm hc hm hqr F hr hrl hk2;exact ih k' (r% n) (Q.set i (c:Int)) z hi3 hk3
theorem QK(m n:Nat)(i:Nat)(hi:i≤(limbs R m).length)(h:m/R^i<n):KZ (limbs R m) n i (List.replicate (limbs R m).length 0) (m/R^i):=by
 refine⟨by simp,oz (by decide) _,by simp,h,?_⟩;rw[List.drop_replicate,mE,uo];simp
theorem yH(m n:Nat)(hn:0<n)(hm:(limbs R m).length<900000)(hl':(limbs R n).length<900000)(k:Nat)(hk:40000000+(limbs R m).length*2000000+3<k):
  aK.f k (limbs R m) (limbs R n)=some (limbs R (m/n),limbs R (m% n)):=by
 unfold aK.f;rw[rD m n (by omega) (by omega) k (by omega),Option.bind_some];by_cases h:m<n
 .have hc:jA (m:Int) n<0:=by unfold jA;rw[if_pos (by omega)];omega
  rw[if_pos hc,Nat.div_eq_of_lt h,Nat.mod_eq_of_lt h,bZ]
 .have hc:¬jA (m:Int) n<0:=by unfold jA;rw[if_neg (by omega)];split<;>omega
  have hl:=fU R2 (by omega:n≤m);have hly:(limbs R n).length≠0:=by
   intro h0;have:=(gK R2).1 (List.eq_nil_of_length_eq_zero h0);omega
  obtain⟨k,rfl⟩:∃m,k=m+1:=⟨k-1,by omega⟩;obtain⟨i,hi⟩:∃i,i=(limbs R m).length-(limbs R n).length+1:=⟨_,rfl⟩;have ei:wrap64 (wrap64 (((limbs R m).length:Int)-(limbs R n).length)+1)=(i:Int):=by
   rw[eG (x:=((limbs R m).length:Int)-(limbs R n).length) (by omega) (by omega),eG (by omega) (by omega)];omega
  rw[if_neg hc,if_pos (by clear ei;omega),if_pos (by clear ei;omega),Option.bind_some,Option.bind_some,ei,if_pos (by clear ei;omega),if_pos (by clear ei;omega),Option.bind_some];clear ei;rw[Int.toNat_natCast,Int.toNat_natCast,List.nil_append,List.length_drop,if_pos (by rw[List.length_nil];omega)];have hst:dU ((limbs R m).drop i)=limbs R (m/R^i):=by
   rw[Ck (xu (vL m) i),uo];rfl
  have hlt:m/R^i<n:=by
   apply nH R2;rw[<-hst];have:=mq ((limbs R m).drop i);rw[List.length_drop]at this;omega
  have hstart:=QK m n i (by omega) hlt;rw[wE _ (by rw[List.length_drop];omega) (k+1) (by rw[List.length_drop];omega),Option.bind_some,hst];have fin:∀a t:Nat,0<t->n≤t*R^a->(limbs R n).length≤a+2->aK.j0 (k+1) (limbs R m) (limbs R n) (List.replicate (limbs R m).length 0) (limbs R (m/R^i)) (a:Int) (t:Int)=some (limbs R (m/n),limbs R (m% n)):=by
   intro a t ht s hla;simp only[aK.j0];have e:wrap64 (((limbs R m).length:Int)-(limbs R n).length)=(i:Int)-1:=by rw[eG (by omega) (by omega)];omega
   rw[e];clear e;obtain⟨q,rv',h1,h2,h3⟩:=XB (limbs R m) (vL m) (by omega) n (by omega) a t ht s hla i k (m/R^i) _ hstart (by omega) (by omega);rw[h3];rw[xL]at h2;have h4:m=rv'+n*q:=by rw[Nat.add_comm];exact_mod_cast h2
   have h5:m/n=q:=by rw[h4,Nat.add_mul_div_left _ _ hn,Nat.div_eq_of_lt h1,Nat.zero_add]
   have h6:m% n=rv':=by rw[h4,Nat.add_mul_mod_self_left,Nat.mod_eq_of_lt h1]
   rw[h5,h6]
  have ea:mx 0 (wrap64 (((limbs R n).length:Int)-2))=(((limbs R n).length-2:Nat):Int):=by
   rw[eG (by omega) (by omega)];unfold mx;split<;>omega
  rw[ea];clear ea;rw[QH (limbs R n) (vL n) (by omega) ((limbs R n).length-2) (by omega) (k+1) (by omega),Option.bind_some,uo];by_cases h3:(limbs R n).length≤2
  .have e0:(limbs R n).length-2=0:=by omega
   rw[e0,if_neg (by omega),Nat.pow_zero,Nat.div_one];exact fin 0 n hn (by rw[Nat.pow_zero,Nat.mul_one];exact Nat.le_refl _) (by omega)
  .have hP:0<R^((limbs R n).length-2):=Nat.pow_pos (by decide)
   have hb:n/R^((limbs R n).length-2)<100000000:=by
    rw[Nat.div_lt_iff_lt_mul hP];have h4:=nV R2 n;have e:(limbs R n).length=2+((limbs R n).length-2):=by omega
    rw[e,Nat.pow_add]at h4;have e2:R^2=100000000:=by decide
    rw[e2]at h4;exact h4
   have hlt2:n≤(n/R^((limbs R n).length-2)+1)*R^((limbs R n).length-2):=by
    rw[Nat.mul_comm];exact Nat.le_of_lt (Nat.lt_mul_div_succ n hP)
   rw[if_pos (by omega)];generalize n/R^((limbs R n).length-2)=t at*
   rw[oh (by omega)];exact fin _ (t+1) (by omega) hlt2 (by omega)
theorem XC(b:Nat):∀(k m n:Nat),n≤m->m*n<2^b->(limbs R m).length<900000->2000000000000+b+2<k->
  bV.l0 k (limbs R m) (limbs R n)=some (limbs R (Nat.gcd m n)):=by
 induction b with
 |zero=>
  intro k m n hle hb hl hk;obtain⟨k,rfl⟩:∃m,k=m+1:=⟨k-1,by omega⟩;simp only[bV.l0];have hn:n=0:=by
   rcases Nat.eq_zero_or_pos n with h|h
   .exact h
   .have:=Nat.mul_pos (by omega:0<m) h
    rw[Nat.pow_zero]at hb;omega
  subst hn;rw[bZ,if_neg (by simp),Nat.gcd_zero_right]
 |succ b ih=>
  intro k m n hle hb hl hk;obtain⟨k,rfl⟩:∃m,k=m+1:=⟨k-1,by omega⟩;simp only[bV.l0];rcases Nat.eq_zero_or_pos n with h|h
  .subst h
   rw[bZ,if_neg (by simp),Nat.gcd_zero_right]
  .have hl2:=fU R2 hle
   have hne:(limbs R n).length≠0:=by
    intro h0;have:=(gK R2).1 (List.eq_nil_of_length_eq_zero h0);omega
   rw[if_pos (by omega),yH m n h hl (by omega) k (by omega),Option.bind_some];have h1:m% n<n:=Nat.mod_lt _ h;have h2:2*(m% n)≤m:=by
    have h3:=Nat.div_add_mod m n;have h4:1≤m/n:=Nat.div_pos hle h;have h5:n*1≤n*(m/n):=Nat.mul_le_mul_left _ h4;omega
   have h6:n*(m% n)<2^b:=by
    have h7:n*(2*(m% n))≤n*m:=Nat.mul_le_mul_left _ h2;rw[Nat.mul_comm n m]at h7;rw[Nat.pow_succ]at hb;have h8:n*(2*(m% n))=2*(n*(m% n)):=by rw[<-Nat.mul_assoc,Nat.mul_comm n 2,Nat.mul_assoc]
    omega
   rw[ih k n (m% n) (by omega) h6 (by omega) (by omega),Nat.gcd_comm m n,Nat.gcd_rec n m,Nat.gcd_comm]
theorem F9(m:Nat):m<2^(14*(limbs R m).length):=by
 have h:=nV R2 m;rw[Nat.pow_mul];exact Nat.lt_of_lt_of_le h (Nat.pow_le_pow_left (by decide) _)
theorem Iw(m n:Nat)(hm:(limbs R m).length<900000)(hn:(limbs R n).length<900000)(k:Nat)(hk:3000000000000<k):
  bV.f k (limbs R m) (limbs R n)=some (limbs R (Nat.gcd m n)):=by
 have key:∀(m n k:Nat),(limbs R m).length<900000->(limbs R n).length<900000->2900000000000<k->n≤m->bV.l0 k (limbs R m) (limbs R n)=some (limbs R (Nat.gcd m n)):=by
  intro m n k hm hn hk hle;refine XC (14*(limbs R m).length+14*(limbs R n).length) k m n hle ?_ hm (by omega);rw[Nat.pow_add];exact Nat.mul_lt_mul'' (F9 m) (F9 n)
 unfold bV.f;rcases Nat.lt_or_ge m n with h|h
 .obtain⟨k,rfl⟩:∃m,k=m+1:=⟨k-1,by omega⟩
  have hne:(limbs R n).length≠0:=by
   intro h0;have:=(gK R2).1 (List.eq_nil_of_length_eq_zero h0);omega
  simp only[bV.l0];rw[if_pos (by omega),yH m n (by omega) hm hn k (by omega),Option.bind_some,Nat.mod_eq_of_lt h];have:=key n m k hn hm (by omega) (Nat.le_of_lt h);rw[this,Nat.gcd_comm]
 .exact key m n k hm hn (by omega) h
def FV(b:Int)(x y:List Int)(i:Nat)(o:List Int)(c:Int):Prop:=
 o.length=i∧inr b o∧(c=0∨c=1)∧val b o+c*b^i=val b (x.take i)+val b (y.take i)
theorem FV.step{b:Int}{x y:List Int}{i:Nat}{o:List Int}{c:Int}(h:FV b x y i o c)(hi:i<x.length)(yi:Int)(hy:val b (y.take (i+1))=val b (y.take i)+b^i*yi)
  (d c':Int)(hd:0≤d∧d<b)(hc':c'=0∨c'=1)(he:x[i]+c+yi=d+c'*b):FV b x y (i+1) (o++[d]) c':=by
 obtain⟨ho,hro,hc,s⟩:=h;refine⟨by rw[List.length_append,ho];rfl,nT.2 ⟨hro,kX.2 ⟨hd,lQ _⟩⟩,hc',?_⟩;rw[kT,ho,jh b x i hi,hy,Int.pow_succ];have:val b o=val b (x.take i)+val b (y.take i)-c*b^i:=by clear he hy;omega
 rw[this];clear s hy this
 grind
theorem Qy(x y:List Int)(hx:inr 1000000000 x)(hy:inr 1000000000 y)(hl:y.length≤x.length)(hn:x.length<1000000)(n:Nat):∀(k i:Nat)(o:List Int)(c:Int),
  x.length-i=n->i≤x.length->FV 1000000000 x y i o c->n<k->
  ∃L,dG.l0 k y o c x (x.length:Int) (i:Int)=some L∧L.length=x.length+1∧inr 1000000000 L∧val 1000000000 L=val 1000000000 x+val 1000000000 y:=by
 induction n with
 |zero=>
  intro k i o c hi hil ho hk;obtain⟨k,rfl⟩:∃m,k=m+1:=⟨k-1,by omega⟩;simp only[dG.l0];obtain rfl:i=x.length:=by omega
  obtain⟨h1,h2,h3,h4⟩:=ho;rw[if_neg (by omega),if_pos (by clear h4;omega)];refine⟨_,rfl,by rw[List.length_append,h1];rfl,nT.2 ⟨h2,kX.2 ⟨by clear h4;omega,lQ _⟩⟩,?_⟩;rw[kT,h1,Int.mul_comm,h4,List.take_length,List.take_of_length_le hl]
 |succ n ih=>
  intro k i o c hi hil ho hk;obtain⟨k,rfl⟩:∃m,k=m+1:=⟨k-1,by omega⟩;have hi3:i<x.length:=by omega
  have hoo:=ho.1;have hcc:=ho.2.2.1;have hxi:=fI hx hi3
  have step:∀(d c':Int),FV 1000000000 x y (i+1) (o++[d]) c'->
    ∃L,dG.l0 k y (o++[d]) c' x (x.length:Int) (wrap64 ((i:Int)+1))=some L∧L.length=x.length+1∧inr 1000000000 L∧val 1000000000 L=val 1000000000 x+val 1000000000 y:=by
   intro d c' h';rw[oh (by omega)];exact ih k (i+1) (o++[d]) c' (by omega) (by omega) h' (by omega)
  simp only[dG.l0];rw[if_pos (by omega),if_pos (by omega),if_pos (by omega),iw hi3];by_cases hy1:i<y.length
  .have hyi:=fI hy hy1
   have hs:=ho.step hi3 _ (jh 1000000000 y i hy1);rw[if_pos (by omega:(i:Int)<y.length),iw hy1,if_pos (by omega),Int.emod_eq_of_lt (a:=x[i]+c+y[i]) (b:=4294967296) (by omega) (by omega)];exact step _ _ (hs _ _ (by omega) (by omega) (by omega))
  .have hs:=ho.step hi3 0 (by rw[List.take_of_length_le (by omega),List.take_of_length_le (by omega),Int.mul_zero,Int.add_zero])
   rw[if_neg (by omega:¬(i:Int)<y.length),if_pos (by omega),Int.emod_eq_of_lt (a:=x[i]+c) (b:=4294967296) (by omega) (by omega)];exact step _ _ (hs _ _ (by omega) (by omega) (by omega))
theorem UU(m n:Nat)(hm:(limbs B9 m).length<1000000)(hn:(limbs B9 n).length<1000000)(k:Nat)(hk:1000000<k):
  ∃L,dG.f k (limbs B9 m) (limbs B9 n)=some L∧L.length<1000002∧inr 1000000000 L∧val 1000000000 L=((m+n:Nat):Int):=by
 unfold dG.f;rw[if_pos ⟨by omega,by omega⟩];by_cases h:(limbs B9 m).length<(limbs B9 n).length
 .obtain⟨L,h1,h2,h3,h4⟩:=Qy (limbs B9 n) (limbs B9 m) (nW n) (nW m) (by omega) hn (limbs B9 n).length k 0 [] 0 (by omega) (by omega) ⟨rfl,lQ _,.inl rfl,by simp[val]⟩ (by omega)
  rw[pI,pI]at h4;exact⟨L,by rw[if_pos h];exact h1,by omega,h3,by rw[h4];omega⟩
 .obtain⟨L,h1,h2,h3,h4⟩:=Qy (limbs B9 m) (limbs B9 n) (nW m) (nW n) (by omega) hm (limbs B9 m).length k 0 [] 0 (by omega) (by omega) ⟨rfl,lQ _,.inl rfl,by simp[val]⟩ (by omega)
  rw[pI,pI]at h4;exact⟨L,by rw[if_neg h];exact h1,by omega,h3,by rw[h4];omega⟩
theorem UW(ax s:Bool)(x y:List Int)(hx:inr 1000000000 x)(hy:inr 1000000000 y)(hlx:x.length<1000000)(hly:y.length<1000000)(i:Nat)(hi:i<x.length)(k:Nat)(o:List Int)(c:Int)
  (h:sO 1000000000 x y i y.length x[i] o c)(hk:2<k):∃o' k',k≤k'+2∧xH 1000000000 x y (i+1) o'∧
  bD.l2 k o c (wrap64 ((i:Int)+(y.length:Int))) x (x.length:Int) (i:Int) ax x s y=bD.l0 k' o' x (x.length:Int) ((i+1:Nat):Int) ax x s y:=by
 have fin:∀(k j:Nat)(o:List Int)(v:Int),sO 1000000000 x y i j x[i] o 0->y.length≤j->0<k->∃o' k',k≤k'+1∧xH 1000000000 x y (i+1) o'∧bD.l2 k o 0 v x (x.length:Int) (i:Int) ax x s y=bD.l0 k' o' x (x.length:Int) ((i+1:Nat):Int) ax x s y:=by
  intro k j o v h hj hk;obtain⟨k,rfl⟩:∃m,k=m+1:=⟨k-1,by omega⟩;refine⟨o,k,by omega,h.done (by decide) hi hj,?_⟩;simp only[bD.l2];rw[if_neg (by omega),oh (by omega)]
 by_cases hc0:c=0
 .subst hc0
  obtain⟨o',k',h1,h2⟩:=fin k _ o _ h (Nat.le_refl _) (by omega);exact⟨o',k',by omega,h2⟩
 .obtain⟨k,rfl⟩:∃m,k=m+1:=⟨k-1,by omega⟩
  have hol:=h.1;have hoj:=fI h.2.1 (i:=i+y.length) (by omega);have hc:=h.2.2.1;have hst:=h.step (by decide) (by omega) 0 (by rw[List.take_of_length_le (by omega),List.take_of_length_le (by omega),Int.mul_zero,Int.add_zero]) (o[i+y.length]+c) (by rw[Int.mul_zero,Int.add_zero]) (by omega) (by omega);have hz:=hst.zero (by decide) hx hy hi;simp only[bD.l2];rw[if_pos (by omega),N9 (by omega),if_pos (by omega),if_pos (by omega),iw (by omega:i+y.length<o.length),Int.toNat_natCast,jB (x:=o[i+y.length]) (by omega) (by omega),jB (x:=o[i+y.length]+c) (by omega) (by omega),
   Int.tmod_eq_emod_of_nonneg (by omega),Int.tdiv_eq_ediv_of_nonneg (by omega),jB (by omega) (by omega),Int.emod_eq_of_lt (a:=(o[i+y.length]+c)% 1000000000) (b:=4294967296) (by omega) (by omega),hz]
  rw[hz]at hst;obtain⟨o',k',h1,h2⟩:=fin k _ _ (wrap64 (((i+y.length:Nat):Int)+1)) hst (by omega) (by omega);exact⟨o',k',by omega,h2⟩
theorem UY(ax z:Bool)(x y:List Int)(hx:inr 1000000000 x)(hy:inr 1000000000 y)(hlx:x.length<1000000)(D:y.length<1000000)(i:Nat)(hi:i<x.length)(n:Nat):∀(k j:Nat)(o:List Int)(c:Int),
  y.length-j=n->j≤y.length->sO 1000000000 x y i j x[i] o c->n+3<k->∃o' k',k≤k'+n+3∧xH 1000000000 x y (i+1) o'∧
  bD.l1 k o (i:Int) x[i] c x (x.length:Int) (i:Int) y (y.length:Int) (j:Int) ax x z y=bD.l0 k' o' x (x.length:Int) ((i+1:Nat):Int) ax x z y:=by
 induction n with
 |zero=>
  intro k j o c hn hj h hk;obtain⟨k,rfl⟩:∃m,k=m+1:=⟨k-1,by omega⟩;obtain rfl:j=y.length:=by omega
  simp only[bD.l1];rw[if_neg (by omega)];obtain⟨o',k',h1,h2⟩:=UW ax z x y hx hy hlx D i hi k o c h (by omega);exact⟨o',k',by omega,h2⟩
 |succ n ih=>
  intro k j o c hn hj h hk;obtain⟨k,rfl⟩:∃m,k=m+1:=⟨k-1,by omega⟩;have s:j<y.length:=by omega
  have hol:=h.1;have hxi:=fI hx hi;have hyj:=fI hy s;have hoj:=fI h.2.1 (i:=i+j) (by omega);have hc:=h.2.2.1;have hm0:0≤x[i]*y[j]:=Int.mul_nonneg hxi.1 hyj.1;have hm1:x[i]*y[j]≤999999999*999999999:=Int.mul_le_mul (by omega) (by omega) hyj.1 (by decide);have hst:=h.step (by decide) (by omega) y[j] (jh 1000000000 y j s) (o[i+j]+c+x[i]*y[j]) rfl (by omega) (by omega);obtain⟨o',k',h1,h2⟩:=ih k (j+1) _ _ (by omega) (by omega) hst (by omega);refine⟨o',k',by omega,h2.1,?_⟩;have h3:=h2.2;have e:x[i]*y[j]+o[i+j]+c=o[i+j]+c+x[i]*y[j]:=by omega
  simp only[bD.l1];rw[if_pos (by omega),if_pos (by omega),if_pos (by omega),N9 (by omega),if_pos (by omega),if_pos (by omega),iw s,iw (by omega:i+j<o.length),Int.toNat_natCast,jB (x:=x[i]) (by omega) (by omega),jB (x:=y[j]) (by omega) (by omega),
   jB (x:=o[i+j]) (by omega) (by omega),jB (x:=x[i]*y[j]) (by omega) (by omega),jB (x:=x[i]*y[j]+o[i+j]) (by omega) (by omega),jB (x:=x[i]*y[j]+o[i+j]+c) (by omega) (by omega),e,
   Int.tmod_eq_emod_of_nonneg (by omega),Int.tdiv_eq_ediv_of_nonneg (by omega),jB (by omega) (by omega),Int.emod_eq_of_lt (a:=(o[i+j]+c+x[i]*y[j])% 1000000000) (b:=4294967296) (by omega) (by omega),oh (by omega)]
  exact h3
theorem UZ(ax s:Bool)(x y:List Int)(hx:inr 1000000000 x)(hy:inr 1000000000 y)(hlx:x.length<1000000)(z:y.length<1000000)(W:Nat)(hW:W=y.length+8)(n:Nat):∀(k i:Nat)(o:List Int),
  x.length-i=n->i≤x.length->xH 1000000000 x y i o->n*W+x.length+y.length+5<k->
  bD.l0 k o x (x.length:Int) (i:Int) ax x s y=some ((ax !=s)&&decide (0<(limbs B9 (val 1000000000 x*val 1000000000 y).toNat).length),limbs B9 (val 1000000000 x*val 1000000000 y).toNat):=by
 induction n with
 |zero=>
  intro k i o hn hi h hk;obtain⟨k,rfl⟩:∃m,k=m+1:=⟨k-1,by omega⟩;simp only[bD.l0];obtain rfl:i=x.length:=by omega
  have hol:=h.1;have hv:=h.2.2;rw[List.take_length]at hv;rw[if_neg (by omega),Ak o _ k (by omega) (by omega),Option.bind_some,sH h.2.1,hv]
 |succ n ih=>
  intro k i o hn hi h hk;obtain⟨k,rfl⟩:∃m,k=m+1:=⟨k-1,by omega⟩;rw[Nat.succ_mul]at hk;have hix:i<x.length:=by omega
  simp only[bD.l0];rw[if_pos (by omega),if_pos (by omega),if_pos (by omega),iw hix];obtain⟨o',k',h1,h2,h3⟩:=UY ax s x y hx hy hlx z i hix y.length k 0 o 0 (by omega) (by omega) (h.start (by decide) _) (by omega);have e0:((0:Nat):Int)=0:=rfl;rw[e0]at h3;rw[h3];exact ih k' (i+1) o' (by omega) (by omega) h2 (by omega)
theorem Xd(ax s:Bool)(m n:Nat)(hm:(limbs B9 m).length<1000000)(hn:(limbs B9 n).length<1000000)(k:Nat)(hk:(limbs B9 m).length*((limbs B9 n).length+8)+(limbs B9 m).length+(limbs B9 n).length+5<k):
  bD.f k ax (limbs B9 m) s (limbs B9 n)=some ((ax !=s)&&decide (m*n≠0),limbs B9 (m*n)):=by
 unfold bD.f;have e:wrap64 (wrap64 (((limbs B9 m).length:Int)+(limbs B9 n).length)+1)=(((limbs B9 m).length+(limbs B9 n).length+1:Nat):Int):=by
  clear hk;rw[eG (x:=((limbs B9 m).length:Int)+(limbs B9 n).length) (by omega) (by omega),eG (by omega) (by omega)];omega
 rw[e,if_pos (by omega),if_pos (by clear hk;omega)];have:=UZ ax s (limbs B9 m) (limbs B9 n) (nW m) (nW n) hm hn _ rfl (limbs B9 m).length k 0 (List.replicate ((limbs B9 m).length+(limbs B9 n).length+1) 0) (by omega) (by omega)
  ⟨by simp,oz (by decide) _,by simp[mE,val]⟩ hk
 rw[pI,pI]at this;have e2:((m:Int)*n).toNat=m*n:=rfl;have e3:decide (0<(limbs B9 (m*n)).length)=decide (m*n≠0):=by
  apply Bool.eq_iff_iff.2;rw[decide_eq_true_eq,decide_eq_true_eq];constructor
  .intro h1 h2;rw[h2,bZ]at h1;simp at h1
  .intro h1
   rcases Nat.eq_zero_or_pos (limbs B9 (m*n)).length with h2|h2
   .exact absurd ((gK iq).1 (List.eq_nil_of_length_eq_zero h2)) h1
   .exact h2
 rw[e2,e3]at this;exact this
theorem Ec(n q:Nat)(hn:(limbs B9 n).length<1000000)(hq:q<1000000000)(k:Nat)(hk:30000000<k):lF.f k (limbs B9 n) (q:Int)=some (limbs B9 (n*q)):=by
 unfold lF.f;have hi:inr 1000000000 [(q:Int)]:=kX.2 ⟨⟨Int.natCast_nonneg _,Int.ofNat_lt.2 hq⟩,lQ _⟩;have hs:dU [(q:Int)]=limbs B9 q:=by rw[sH hi];simp[val]
 have hl:(limbs B9 q).length≤1:=gB iq 1 q (by omega);rw[tY _ k (by simp) (by simp;omega),Option.bind_some,hs,Xd false false n q hn (by omega) k,Option.bind_some];have:(limbs B9 n).length*((limbs B9 q).length+8)≤1000000*9:=Nat.mul_le_mul (by omega) (by omega);omega
theorem vk(n a:Nat):val 1000000000 ((limbs B9 n).drop a)=((n/B9^a:Nat):Int):=by
 induction a generalizing n with
 |zero=>rw[List.drop_zero,pI,Nat.pow_zero,Nat.div_one]
 |succ a ih=>
  by_cases h:n=0
  .subst h;rw[bZ,List.drop_nil,Nat.zero_div];rfl
  .rw[iL iq h,List.drop_succ_cons,ih,Nat.pow_succ,Nat.mul_comm,Nat.div_div_eq_div_mul]
def TN(b:Int)(x:List Int)(n:Int)(i:Nat)(Q:List Int)(rv:Int):Prop:=
 Q.length=x.length∧inr b Q∧(∀j (h:j<Q.length),j<i->Q[j]=0)∧(0≤rv∧rv<n)∧val b (x.drop i)=n*val b (Q.drop i)+rv
theorem TN.step{b:Int}{x:List Int}(hx:inr b x){n:Int}{i:Nat}{Q:List Int}{rv:Int}(h:TN b x n (i+1) Q rv)(hi:i<x.length)(r:Int)(hr:r=rv*b+x[i]):
  (0≤r/n∧r/n<b)∧TN b x n i (Q.set i (r/n)) (r% n):=by
 obtain⟨h1,h2,h3,h4,h5⟩:=h;have hn:0<n:=by omega
 have hxi:=fI hx hi;have hb:0<b:=by omega
 have hr0:0≤r:=by have:=Int.mul_nonneg h4.1 (by omega:0≤b);omega
 have hrl:r<b*n:=by
  have h6:(rv+1)*b≤n*b:=Int.mul_le_mul_of_nonneg_right (by omega) (by omega);rw[Int.add_mul,Int.one_mul,Int.mul_comm n b]at h6;omega
 have hq:0≤r/n∧r/n<b:=⟨Int.ediv_nonneg hr0 (by omega),Int.ediv_lt_of_lt_mul hn hrl⟩;have z:i<Q.length:=by rw[h1];exact hi
 refine⟨hq,by simpa using h1,zJ h2 i hq,?_,⟨Int.emod_nonneg _ (by omega),Int.emod_lt_of_pos _ hn⟩,?_⟩
 .intro j hj hij
  rw[List.getElem_set_ne (by clear hrl hr h5;omega)];exact h3 j (by simpa using hj) (Nat.lt_succ_of_lt hij)
 .have e1:(Q.set i (r/n)).drop i=r/n::Q.drop (i+1):=by
   rw[List.drop_eq_getElem_cons (by simpa using z),List.getElem_set_self,List.drop_set_of_lt (Nat.lt_succ_self i)]
  rw[e1,List.drop_eq_getElem_cons hi,val,val,h5];have e2:=Int.mul_ediv_add_emod r n;generalize r/n=q at*
  generalize r% n=s at*
  clear hrl hr0
  grind
theorem U1(x:List Int)(hx:inr 1000000000 x)(hn:x.length<1000000)(n:Int)(h0:0<n)(h1:n<4294967296)(i:Nat):∀(k:Nat)(Q:List Int)(rv:Int),i≤x.length->TN 1000000000 x n i Q rv->i<k->
  ∃L,fH.l0 k x n Q rv ((i:Int)-1)=some (L,val 1000000000 x% n)∧L.length=x.length∧inr 1000000000 L∧val 1000000000 L=val 1000000000 x/n:=by
 induction i with
 |zero=>
  intro k Q rv hi h hk;obtain⟨k,rfl⟩:∃m,k=m+1:=⟨k-1,by omega⟩;simp only[fH.l0];obtain⟨g1,g2,g3,g4,g5⟩:=h;rw[List.drop_zero,List.drop_zero]at g5;have e1:val 1000000000 x/n=val 1000000000 Q:=by
   rw[g5,Int.add_comm,Int.add_mul_ediv_left _ _ (by omega),Int.ediv_eq_zero_of_lt g4.1 g4.2,Int.zero_add]
  have e2:val 1000000000 x% n=rv:=by
   rw[g5,Int.add_comm,Int.add_mul_emod_self_left,Int.emod_eq_of_lt g4.1 g4.2]
  exact⟨Q,by rw[if_neg (by omega),e2,Int.emod_eq_of_lt g4.1 (by clear g5 e1 e2;omega)],g1,g2,e1.symm⟩
 |succ i ih=>
  intro k Q rv hi h hk;obtain⟨k,rfl⟩:∃m,k=m+1:=⟨k-1,by omega⟩;have hix:i<x.length:=by omega
  have hxi:=fI hx hix;have hQ:=h.1;have h4:=h.2.2.2.1;obtain⟨hq,hst⟩:=h.step hx hix _ rfl;have hr0:0≤rv*1000000000+x[i]:=by omega
  have e:((i+1:Nat):Int)-1=(i:Int):=by omega
  simp only[fH.l0];rw[e,if_pos (by omega),if_pos (by omega),if_pos (by omega),jB (x:=n) (by omega) (by omega),if_neg (by omega),if_pos (by omega),iw hix,Int.toNat_natCast,jB (x:=rv*1000000000) (by omega) (by omega),jB (x:=x[i]) (by omega) (by omega),
   jB (x:=rv*1000000000+x[i]) (by omega) (by omega),Int.tdiv_eq_ediv_of_nonneg hr0,Int.tmod_eq_emod_of_nonneg hr0,jB (by omega) (by omega),Int.emod_eq_of_lt (a:=(rv*1000000000+x[i])/n) (b:=4294967296) (by omega) (by omega),eG (by omega) (by omega)]
  exact ih k _ _ (by omega) hst (by omega)
theorem Ki(m n:Nat)(hm:(limbs B9 m).length<1000000)(h0:0<n)(h1:n<4294967296)(k:Nat)(hk:(limbs B9 m).length<k):
  ∃L,fH.f k (limbs B9 m) (n:Int)=some (L,((m% n:Nat):Int))∧L.length=(limbs B9 m).length∧dU L=limbs B9 (m/n):=by
 unfold fH.f;rw[if_pos (by omega),if_pos (by omega),eG (by omega) (by omega),Int.toNat_natCast];obtain⟨L,g1,g2,g3,g4⟩:=U1 (limbs B9 m) (nW m) hm n (by omega) (by omega) (limbs B9 m).length k (List.replicate (limbs B9 m).length 0) 0 (Nat.le_refl _)
  ⟨by simp,oz (by decide) _,by simp,by omega,by rw[List.drop_length,List.drop_replicate,mE];simp[val]⟩ hk
 rw[pI]at g1 g4;refine⟨L,g1,g2,?_⟩;rw[sH g3,g4];rfl
theorem R6(m n:Nat)(hn:0<n)(hlt:m<B9*n)(hln:(limbs B9 n).length<1000000):∃q:Nat,oJ.f (limbs B9 m) (limbs B9 n)=some (q:Int)∧m/n≤q∧q<1000000000:=by
 have hlm:(limbs B9 m).length≤(limbs B9 n).length+1:=by
  apply gB iq;rw[Nat.pow_succ,Nat.mul_comm];exact Nat.lt_of_lt_of_le hlt (Nat.mul_le_mul_left _ (Nat.le_of_lt (nV iq n)))
 have hne:(limbs B9 n).length≠0:=by
  intro h0;have:=(gK iq).1 (List.eq_nil_of_length_eq_zero h0);omega
 unfold oJ.f;by_cases h:(limbs B9 m).length<(limbs B9 n).length
 .have:=nH iq h
  exact⟨0,by rw[if_pos (by omega)];rfl,by rw[Nat.div_eq_of_lt this];exact Nat.le_refl _,by omega⟩
 .obtain⟨a,ha⟩:∃a,(limbs B9 n).length=a+1:=⟨(limbs B9 n).length-1,by omega⟩
  have hP:0<B9^a:=Nat.pow_pos (by decide);have hgn:=fI (nW n) (by omega:a<(limbs B9 n).length);have hgm:=fI (nW m) (by omega:a<(limbs B9 m).length);have htop:rd (limbs B9 n) (a:Int)=((n/B9^a:Nat):Int):=by
   have h1:=vk n a;rw[List.drop_eq_getElem_cons (by omega:a<(limbs B9 n).length),val,List.drop_eq_nil_of_le (by omega),val,Int.mul_zero,Int.add_zero]at h1;rw[iw (by omega:a<(limbs B9 n).length),h1]
  have ht0:0<n/B9^a:=by
   have h1:=Kk iq n (by omega);rw[ha,Nat.add_sub_cancel]at h1;exact Nat.div_pos h1 hP
  have htl:n/B9^a<1000000000:=by
   rw[iw (by omega:a<(limbs B9 n).length)]at htop;have:((n/B9^a:Nat):Int)<1000000000:=by rw[<-htop];exact hgn.2
   exact Int.ofNat_lt.1 this
  have key:∀H:Nat,H=m/B9^a->m/n≤min (H/(n/B9^a)) 999999999:=by
   intro H hH;refine Nat.le_min.2 ⟨?_,?_⟩
   .rw[Nat.le_div_iff_mul_le ht0,hH,Nat.le_div_iff_mul_le hP,Nat.mul_assoc]
    exact Nat.le_trans (Nat.mul_le_mul_left _ (Nat.div_mul_le_self _ _)) (Nat.div_mul_le_self m n)
   .have:m/n<B9:=Nat.div_lt_of_lt_mul (by rw[Nat.mul_comm];exact hlt)
    unfold B9 at this;omega
  have fin:∀H:Nat,H<18446744073709551616->mn (IntKind.u64.wrap (Int.tdiv (H:Int) ((n/B9^a:Nat):Int))) 999999999% 4294967296=((min (H/(n/B9^a)) 999999999:Nat):Int):=by
   intro H hH;have h1:H/(n/B9^a)≤H:=Nat.div_le_self _ _;rw[Int.tdiv_eq_ediv_of_nonneg (by omega),<-Int.natCast_ediv];generalize H/(n/B9^a)=q at*
   clear key htop htl ht0;rw[jB (by omega) (by omega)];unfold mn;split<;>omega
  have s:wrap64 (((limbs B9 n).length:Int)-1)=(a:Int):=by rw[eG (by omega) (by omega)];omega
  rw[if_neg (by clear s;omega),s];clear s;rw[if_pos (by omega),if_pos (by omega)];by_cases h2:(limbs B9 m).length>(limbs B9 n).length
  .have hgm1:=fI (nW m) (by omega:a+1<(limbs B9 m).length)
   have hH:(limbs B9 m)[a]'(by omega)+(limbs B9 m)[a+1]'(by omega)*1000000000=((m/B9^a:Nat):Int):=by
    have h1:=vk m a;rw[List.drop_eq_getElem_cons (by omega:a<(limbs B9 m).length),val,List.drop_eq_getElem_cons (by omega:a+1<(limbs B9 m).length),val,List.drop_eq_nil_of_le (by omega),val]at h1;rw[<-h1];omega
   have z:m/B9^a<18446744073709551616:=by
    have:((m/B9^a:Nat):Int)<18446744073709551616:=by rw[<-hH];clear fin key;omega
    exact Int.ofNat_lt.1 this
   have e1:((limbs B9 n).length:Int)=((a+1:Nat):Int):=by rw[ha]
   rw[if_pos (by omega),if_pos (by omega),if_pos (by omega),if_pos (by omega),htop,jB (x:=((n/B9^a:Nat):Int)) (Int.natCast_nonneg _) (by clear fin key;omega),if_neg (by clear fin key;omega),iw (by omega:a<(limbs B9 m).length),e1,iw (by omega:a+1<(limbs B9 m).length)];rw[jB (x:=(limbs B9 m)[a]'(by omega)) (by omega) (by omega),jB (x:=(limbs B9 m)[a+1]'(by omega)) (by omega) (by omega),jB (x:=(limbs B9 m)[a+1]'(by omega)*1000000000) (by omega) (by omega),jB (x:=(limbs B9 m)[a]'(by omega)+(limbs B9 m)[a+1]'(by omega)*1000000000) (by omega) (by omega),hH,fin _ z];exact⟨_,rfl,key _ rfl,by omega⟩
  .have hH:(limbs B9 m)[a]'(by omega)=((m/B9^a:Nat):Int):=by
    have h1:=vk m a;rw[List.drop_eq_getElem_cons (by omega:a<(limbs B9 m).length),val,List.drop_eq_nil_of_le (by omega),val,Int.mul_zero,Int.add_zero]at h1;exact h1
   have z:m/B9^a<18446744073709551616:=by
    have:((m/B9^a:Nat):Int)<18446744073709551616:=by rw[<-hH];clear fin key;omega
    exact Int.ofNat_lt.1 this
   rw[if_neg (by omega),if_pos (by omega),htop,jB (x:=((n/B9^a:Nat):Int)) (Int.natCast_nonneg _) (by clear fin key;omega),if_neg (by clear fin key;omega),iw (by omega:a<(limbs B9 m).length),
    jB (x:=(limbs B9 m)[a]'(by omega)) (by omega) (by omega),hH,fin _ z]
   exact⟨_,rfl,key _ rfl,by omega⟩
def vJ(N M:Nat)(U D:List Int)(t:Nat):Prop:=
 inr 1000000000 U∧inr 1000000000 D∧t≤U.length∧U.length≤600000∧D.length+t≤600001∧val 1000000000 (U.drop t)<N∧val 1000000000 U+1000000000^t*(N*val 1000000000 D.reverse)=M
theorem Kj(D:List Int)(q:Int):val 1000000000 (D++[q]).reverse=q+1000000000*val 1000000000 D.reverse:=by
 rw[List.reverse_append];rfl
theorem vJ.start(N M:Nat)(hN:0<N)(h:N≤M)(hl:(limbs B9 M).length<600000):
  vJ N M (limbs B9 M++[0]) [] ((limbs B9 M).length+1-(limbs B9 N).length+1):=by
 have hm:=fU iq h;have hne:(limbs B9 N).length≠0:=λ e=>by
  have:=gK iq (m:=N);rw[List.length_eq_zero_iff]at e;have:=this.1 e;omega
 have hU:inr 1000000000 (limbs B9 M++[0]):=nT.2 ⟨nW M,kX.2 ⟨⟨by decide,by decide⟩,lQ _⟩⟩;refine⟨hU,lQ _,by rw[List.length_append,List.length_singleton];omega,by rw[List.length_append,List.length_singleton];omega,by rw[List.length_nil];omega,?_,?_⟩
 .have h1:=(kF (b:=1000000000) (by decide) (xu hU ((limbs B9 M).length+1-(limbs B9 N).length+1))).2
  have h2:((limbs B9 M++[0]).drop ((limbs B9 M).length+1-(limbs B9 N).length+1)).length=(limbs B9 N).length-1:=by
   rw[List.length_drop,List.length_append,List.length_singleton];omega
  rw[h2]at h1;have h3:=Kk iq N (by omega);refine Int.lt_of_lt_of_le h1 ?_;have h4:((B9^((limbs B9 N).length-1):Nat):Int)≤N:=Int.ofNat_le.2 h3;rw[Int.natCast_pow]at h4;exact h4
 .rw[kT,pI]
  simp[val]
theorem vJ.look{N M:Nat}{U D:List Int}{t:Nat}(h:vJ N M U D (t+1))(hN:0<N):∃W:Nat,dU (U.drop t)=limbs B9 W∧val 1000000000 (U.drop t)=W∧W<B9*N∧t<U.length∧(limbs B9 W).length≤U.length-t:=by
 obtain⟨h1,h2,h3,h4,h5,h6,h7⟩:=h;have ht:t<U.length:=by omega
 obtain⟨W,hW⟩:=Int.eq_ofNat_of_zero_le (qb (b:=1000000000) (by decide) (xu h1 t));have hs:=sH (xu h1 t);rw[hW,Int.toNat_natCast]at hs;refine⟨W,hs,hW,?_,ht,?_⟩
 .have hd:U.drop t=U[t]::U.drop (t+1):=List.drop_eq_getElem_cons ht
  have hg:=(fI h1 ht);rw[hd]at hW;have e:val 1000000000 (U[t]::U.drop (t+1))=U[t]+1000000000*val 1000000000 (U.drop (t+1)):=rfl;rw[e]at hW;generalize val 1000000000 (U.drop (t+1))=v at*
  have:(W:Int)<((1000000000*N:Nat):Int):=by omega
  exact Int.ofNat_lt.1 this
 .rw[<-hs]
  refine Nat.le_trans (mq _) ?_;rw[List.length_drop];omega
theorem vJ.next{N M:Nat}{U D R:List Int}{t W q:Nat}(h:vJ N M U D (t+1))(hN:0<N)(hW:val 1000000000 (U.drop t)=W)(hq:q=W/N)(s:q<1000000000)(hR:inr 1000000000 R)(hv:val 1000000000 R=((W-N*q:Nat):Int))(hl:R.length≤U.length-t):
  vJ N M (U.take t++R) (D++[(q:Int)]) t:=by
 obtain⟨h1,h2,h3,h4,h5,h6,h7⟩:=h;have ht:t≤U.length:=by omega
 have hlt:(U.take t).length=t:=by rw[List.length_take];omega
 have hdm:=Nat.div_add_mod W N;have hml:=Nat.mod_lt W hN;have hsub:W-N*q=W% N:=by rw[hq];omega
 refine⟨nT.2 ⟨tT h1 t,hR⟩,nT.2 ⟨h2,kX.2 ⟨⟨Int.natCast_nonneg _,Int.ofNat_lt.2 s⟩,lQ _⟩⟩,by rw[List.length_append,hlt];omega,by rw[List.length_append,hlt];omega,by rw[List.length_append,List.length_singleton];omega,?_,?_⟩
 .rw[List.drop_left' hlt,hv,hsub]
  exact Int.ofNat_lt.2 hml
 .rw[val_append,hlt,Kj,hv]
  rw[I9 1000000000 U t ht,hW]at h7;have e:(W:Int)=((W-N*q:Nat):Int)+N*q:=by rw[<-Int.natCast_mul,<-Int.natCast_add];congr 1;rw[hsub,hq];omega
  rw[e,Int.pow_succ]at h7;rw[<-h7]
  grind
theorem vJ.done{N M:Nat}{U D:List Int}(h:vJ N M U D 0)(hN:0<N):dU D.reverse=limbs B9 (M/N)∧dU U=limbs B9 (M% N)∧D.length<4611686018427387904∧U.length≤600000:=by
 obtain⟨h1,h2,h3,h4,h5,h6,h7⟩:=h;have hr:inr 1000000000 D.reverse:=λ x hx=>h2 x (List.mem_reverse.1 hx);obtain⟨u,hu⟩:=Int.eq_ofNat_of_zero_le (qb (b:=1000000000) (by decide) h1);obtain⟨d,hd⟩:=Int.eq_ofNat_of_zero_le (qb (b:=1000000000) (by decide) hr);rw[List.drop_zero,hu]at h6;rw[hu,hd,Int.pow_zero,Int.one_mul]at h7;have h8:u+N*d=M:=by
  have:((u+N*d:Nat):Int)=M:=by rw[Int.natCast_add,Int.natCast_mul];exact h7
  exact Int.ofNat_inj.1 this
 have h9:u<N:=Int.ofNat_lt.1 h6;rw[sH hr,sH h1,hu,hd,Int.toNat_natCast,Int.toNat_natCast];refine⟨?_,?_,by omega,h4⟩
 .rw[<-h8,Nat.add_mul_div_left _ _ hN,Nat.div_eq_of_lt h9,Nat.zero_add]
 .rw[<-h8,Nat.add_mul_mod_self_left,Nat.mod_eq_of_lt h9]
theorem P6(n:Nat)(hn:0<n):∃x:Nat,(limbs B9 n)[(limbs B9 n).length-1]? =some (x:Int)∧x<1000000000∧0<1000000000/(x+1)∧1000000000/(x+1)<1000000000:=by
 have hne:limbs B9 n≠[]:=nC iq (by omega);have hl:(limbs B9 n).length-1<(limbs B9 n).length:=by
  have:(limbs B9 n).length≠0:=λ e=>hne (List.length_eq_zero_iff.1 e);omega
 have hg:=fI (nW n) hl;have hlast:=Fh iq n;rw[List.getLast?_eq_getElem?,List.getElem?_eq_getElem hl]at hlast;obtain⟨x,hx⟩:=Int.eq_ofNat_of_zero_le hg.1;rw[hx]at hg hlast;have hx0:x≠0:=λ e=>hlast (by rw[e];rfl);have s:x<1000000000:=Int.ofNat_lt.1 hg.2;refine⟨x,by rw[List.getElem?_eq_getElem hl,hx],s,?_,?_⟩
 .exact Nat.div_pos (by omega) (by omega)
 .exact Nat.div_lt_of_lt_mul (by
   have:2≤x+1:=by omega
   have:=Nat.mul_le_mul_right 1000000000 this;omega)
theorem scaled(m n s:Nat)(hs:0<s):(m*s)/(n*s)=m/n∧(m*s)% (n*s)/s=m% n:=by
 refine⟨Nat.mul_div_mul_right _ _ hs,?_⟩;rw[Nat.mul_mod_mul_right,Nat.mul_div_cancel _ hs]
theorem Am(m s:Nat)(hs:s<1000000000):(limbs B9 (m*s)).length≤(limbs B9 m).length+1:=by
 apply gB iq;rw[Nat.pow_succ];exact Nat.mul_lt_mul_of_lt_of_le (nV iq m) (Nat.le_of_lt hs) (by decide)
theorem MW(X:List Int)(i:Nat)(h:i<X.length):some (rd X (i:Int))=X[i]? :=by
 simp[rd,h]
theorem YA(n:Nat)(hn:n<1000000):∀k i (X:List Int),X.length=n->i≤n->n-i<k->
  ∃Z,aZ.l0 k X (i:Int) ((n:Int)-1-i)=some Z∧Z.length=n∧∀p,p<n->Z[p]? =if i≤p∧p+i<n then X[n-1-p]? else X[p]? :=by
 intro k;induction k with
 |zero=>intro i X _ _ h;omega
 |succ k ih=>
  intro i X hX hi hk;unfold aZ.l0;by_cases hlt:(i:Int)<(n:Int)-1-i
  .obtain⟨j,hj⟩:∃j:Nat,(n:Int)-1-i=j:=⟨n-1-i,by omega⟩
   rw[hj]at hlt|-
   rw[if_pos hlt,if_pos (by omega),if_pos (by omega),if_pos (by omega),if_pos (by omega),eG (by omega) (by omega),eG (by omega) (by omega),Int.toNat_natCast,Int.toNat_natCast];have z:=MW X i (by omega);have D:=MW X j (by omega);generalize rd X (i:Int)=a at*
   generalize rd X (j:Int)=b at*
   obtain⟨Z,h1,h2,h3⟩:=ih (i+1) ((X.set i b).set j a) (by simp[hX]) (by omega) (by omega);refine⟨Z,by rw[<-h1];congr 1;omega,h2,λ p hp=>?_⟩;rw[h3 p hp];have hx:∀q,q<n->((X.set i b).set j a)[q]? =if q=j then X[i]? else if q=i then X[j]? else X[q]? :=by
    intro q hq;rw[List.getElem?_set];by_cases e1:j=q
    .rw[if_pos e1,if_pos (by rw[List.length_set];omega),if_pos e1.symm,z]
    .rw[if_neg e1,if_neg (λ e=>e1 e.symm),List.getElem?_set]
     by_cases e2:i=q
     .rw[if_pos e2,if_pos (by omega),if_pos e2.symm,D]
     .rw[if_neg e2,if_neg (λ e=>e2 e.symm)]
   rw[hx (n-1-p) (by omega),hx p hp];by_cases hpi:p=i
   .rw[if_neg (show¬(i+1≤p∧p+(i+1)<n) by omega),if_neg (show¬p=j by omega),if_pos hpi,if_pos (show i≤p∧p+i<n by omega)]
    congr 1;omega
   .by_cases s:p=j
    .rw[if_neg (show¬(i+1≤p∧p+(i+1)<n) by omega),if_pos s,if_pos (show i≤p∧p+i<n by omega)]
     congr 1;omega
    .by_cases hc:i≤p∧p+i<n
     .rw[if_pos (show i+1≤p∧p+(i+1)<n by omega),if_neg (show¬n-1-p=j by omega),if_neg (show¬n-1-p=i by omega),if_pos hc]
     .rw[if_neg (show¬(i+1≤p∧p+(i+1)<n) by omega),if_neg s,if_neg hpi,if_neg hc]
  .rw[if_neg hlt]
   refine⟨X,rfl,hX,λ p hp=>?_⟩;by_cases hc:i≤p∧p+i<n
   .rw[if_pos hc];congr 1;omega
   .rw[if_neg hc]
theorem V9(l:List Int)(k:Nat)(hl:l.length<1000000)(hk:l.length<k):aZ.f k l=some l.reverse:=by
 unfold aZ.f;rw[eG (by omega) (by omega)];obtain⟨Z,h1,h2,h3⟩:=YA l.length hl k 0 l rfl (by omega) (by omega);have e:((l.length:Int)-1-(0:Nat))=(l.length:Int)-1:=by omega
 rw[e]at h1;rw[show((0:Nat):Int)=0 from rfl]at h1;rw[h1];congr 1;refine List.ext_getElem? λ p=>?_;by_cases hp:p<l.length
 .rw[h3 p hp,if_pos (by omega),List.getElem?_reverse hp]
 .rw[List.getElem?_eq_none (by omega),List.getElem?_eq_none (by simp;omega)]
end Go.Proofs.Ct.Q
