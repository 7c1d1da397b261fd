/- Part of the proof of CheckTexts (see the last text). -/
import Derived.Test.YtcclielbggpoaaaGreatDoorA12
set_option linter.all false
namespace Go.Proofs.Ct.Q
open Go.RowKit Go.Proofs.aA.ak Go.Proofs.aA.aC Go.Proofs.aA.aG Go.Proofs.bO Go.Lib
def jR:Nat->Nat->List Int
 |0,_=>[]
 |p+1,n=>((48+n/10^p% 10:Nat):Int)::jR p n
theorem Co:∀p n,(jR p n).length=p
 |0,_=>rfl
 |p+1,n=>by rw[jR,List.length_cons,Co p n]
theorem sN(b n:Nat):∀a,jR (a+b) n=jR a (n/10^b)++jR b n
 |0=>by rw[Nat.zero_add];rfl
 |a+1=>by
  rw[Nat.add_right_comm,jR,jR,sN b n a,List.cons_append,Nat.div_div_eq_div_mul,<-Nat.pow_add,Nat.add_comm b a]
def dec(n:Nat):ByteArray:=⟨(decDigits n).toArray⟩
theorem yF(n:Nat):strOfNums (jR (nDigits n) n)=dec n:=by
 have h:∀p,(jR p n).map (λ m=>UInt8.ofNat m.toNat)=(List.range p).map λ t=>dg n (p-1-t):=by
  intro p;induction p with
  |zero=>rfl
  |succ p ih=>
   rw[jR,List.map_cons,ih,List.range_succ_eq_map,List.map_cons,List.map_map];congr 1;refine List.map_congr_left λ t ht=>?_;show dg n (p-1-t)=dg n (p+1-1-(t+1));congr 1;omega
 unfold strOfNums dec;rw[h,<-decDigits_eq]
theorem Oa(u:Nat)(h:u≠0):10^(nDigits u-1)≤u:=by
 induction u using Nat.strongRecOn with
 |_ u ih=>
  by_cases h1:u<10
  .rw[nDigits_small h1];simp;omega
  .rw[nDigits_big h1]
   have h2:=ih (u/10) (by omega) (by omega);have h3:=nDigits_pos (u/10);obtain⟨d,hd⟩:∃d,nDigits (u/10)=d+1:=⟨nDigits (u/10)-1,by omega⟩;rw[hd]at h2|-
   rw[show d+1+1-1=d+1 by omega,Nat.pow_succ];rw[show d+1-1=d by omega]at h2;omega
theorem QM(n:Nat)(h:¬n<10000):nDigits n=nDigits (n/R)+4:=by
 rw[nDigits_big (by omega),nDigits_big (by omega),nDigits_big (by omega),nDigits_big (by omega)];have:n/10/10/10/10=n/R:=by unfold R;omega
 rw[this]
theorem IV(n:Nat):n≠0->∃t:Nat,0<t∧t<10000∧rd (limbs R n) (((limbs R n).length-1:Nat):Int)=t∧nDigits n=4*((limbs R n).length-1)+nDigits t:=by
 induction n using Nat.strongRecOn with
 |_ n ih=>
  intro h;rw[iL R2 h];by_cases h1:n<10000
  .have e:n/R=0:=Nat.div_eq_of_lt h1
   have e2:n% R=n:=Nat.mod_eq_of_lt h1;rw[e,e2,bZ];exact⟨n,by omega,h1,rfl,by simp⟩
  .have hne:n/R≠0:=by unfold R;omega
   obtain⟨t,h2,h3,h4,h5⟩:=ih (n/R) (Nat.div_lt_self (by omega) (by decide)) hne;have hl:(limbs R (n/R)).length≠0:=by
    intro h0;exact hne ((gK R2).1 (List.eq_nil_of_length_eq_zero h0))
   refine⟨t,h2,h3,?_,?_⟩
   .rw[List.length_cons,Nat.add_sub_cancel]
    obtain⟨l,hl2⟩:∃l,(limbs R (n/R)).length=l+1:=⟨(limbs R (n/R)).length-1,by omega⟩;rw[hl2]at h4|-
    rw[<-h4,KY,KY];rfl
   .rw[QM n h1,h5,List.length_cons];omega
theorem QN(v:Nat):∀(k:Nat)(a:Nat),v<k->a+v<4611686018427387904->dD.l0 k (a:Int) (v:Int)=some (((a+if v=0 then 0 else nDigits v:Nat):Int)):=by
 induction v using Nat.strongRecOn with
 |_ v ih=>
  intro k a hk ha;obtain⟨k,rfl⟩:∃m,k=m+1:=⟨k-1,by omega⟩;simp only[dD.l0];by_cases h:v=0
  .subst h;rw[if_neg (by omega)];simp
  .rw[if_pos (by omega),oh (by omega),Int.tdiv_eq_ediv_of_nonneg (by omega),eG (by omega) (by omega)]
   have e:(v:Int)/10=((v/10:Nat):Int):=rfl;rw[e,ih (v/10) (by omega) k (a+1) (by omega) (by omega),if_neg h];congr 2;by_cases h1:v<10
   .rw[nDigits_small h1,if_pos (by omega)]
   .rw[nDigits_big h1,if_neg (by omega)];omega
theorem Oe(n:Nat)(hn:(limbs R n).length<900000)(k:Nat)(hk:10000<k):dD.f k (limbs R n)=some ((nDigits n:Nat):Int):=by
 unfold dD.f;by_cases h:n=0
 .subst h;rw[bZ,if_pos (by simp),nDigits_small (by omega)];rfl
 .have hl:(limbs R n).length≠0:=by
   intro h0;exact h ((gK R2).1 (List.eq_nil_of_length_eq_zero h0))
  obtain⟨t,h2,h3,h4,h5⟩:=IV n h;have e:wrap64 (((limbs R n).length:Int)-1)=(((limbs R n).length-1:Nat):Int):=by rw[eG (by omega) (by omega)];omega
  rw[if_neg (by clear e;omega),e];clear e;have e2:wrap64 (4*(((limbs R n).length-1:Nat):Int))=((4*((limbs R n).length-1):Nat):Int):=by rw[eG (by omega) (by omega)];omega
  rw[e2];clear e2;rw[if_pos (by omega),if_pos (by omega),h4,QN t k _ (by omega) (by omega),if_neg (by omega),h5]
def vM(N p n:Nat):List Int:=List.replicate (N-p) 48++jR p n
theorem Md{N p n:Nat}(h:p≤N):(vM N p n).length=N:=by unfold vM;rw[List.length_append,List.length_replicate,Co];omega
theorem SX{N p n:Nat}(h:p<N):(vM N p n).set (N-p-1) ((48+n/10^p% 10:Nat):Int)=vM N (p+1) n:=by
 unfold vM;have e:N-p=(N-(p+1))+1:=by omega
 rw[List.set_append_left _ _ (by rw[List.length_replicate];omega),e,List.replicate_succ',List.set_append_right _ _ (by rw[List.length_replicate];omega),List.length_replicate,
  show N-(p+1)+1-1-(N-(p+1))=0 by omega,List.set_cons_zero,List.append_assoc]
 rfl
theorem U6(l:List Int)(n N i:Nat)(hi:i<900000)(hN:N<4000000)(e:Nat):∀(k c p d:Nat),c+e=4->p=4*i+c->p≤N->d=n/10^p% 10^e->e+1<k->
  ∃k',k≤k'+e+1∧aQ.l2 k l (vM N p n) ((N:Int)-p-1) (i:Int) (d:Int) (c:Int)=
   aQ.l1 k' l (vM N (min (4*(i+1)) N) n) ((N:Int)-(min (4*(i+1)) N:Nat)-1) ((i+1:Nat):Int):=by
 induction e with
 |zero=>
  intro k c p d hc hp s hd hk;obtain⟨k,rfl⟩:∃m,k=m+1:=⟨k-1,by omega⟩;simp only[aQ.l2];refine⟨k,by omega,?_⟩;have hm:min (4*(i+1)) N=p:=by omega
  rw[if_neg (by omega),oh (by omega),hm]
 |succ e ih=>
  intro k c p d hc hp s hd hk;obtain⟨k,rfl⟩:∃m,k=m+1:=⟨k-1,by omega⟩;have hde:d% 10=n/10^p% 10:=by
   rw[hd,Nat.pow_succ,Nat.mod_mul_left_mod]
  have hdd:d/10=n/10^(p+1)% 10^e:=by
   rw[hd,Nat.pow_succ,Nat.mul_comm,Nat.mod_mul_right_div_self,Nat.div_div_eq_div_mul,Nat.pow_succ]
  have hdb:d<10000:=by
   rw[hd];refine Nat.lt_of_lt_of_le (Nat.mod_lt _ (Nat.pow_pos (by decide))) ?_;exact Nat.pow_le_pow_right (by decide:0<10) (by omega:e+1≤4)
  clear hd;simp only[aQ.l2];rw[if_pos (by omega)];by_cases z:p<N
  .have hol:=Md (n:=n) s
   have ht:((N:Int)-p-1).toNat=N-p-1:=by clear hde hdd;omega
   have hset:=SX (n:=n) z;obtain⟨k',h1,h2⟩:=ih k (c+1) (p+1) (d/10) (by omega) (by omega) (by omega) hdd (by omega);have e1:wrap64 (48+Int.tmod (d:Int) 10)% 256=((48+n/10^p% 10:Nat):Int):=by
    clear h2 hset ih hdd;rw[Int.tmod_eq_emod_of_nonneg (by omega),eG (by omega) (by omega),<-hde];omega
   have e2:wrap64 (Int.tdiv (d:Int) 10)=((d/10:Nat):Int):=by
    clear h2 hset ih hdd hde e1;rw[Int.tdiv_eq_ediv_of_nonneg (by omega),eG (by omega) (by omega)];rfl
   have e3:wrap64 ((N:Int)-p-1-1)=(N:Int)-((p+1:Nat):Int)-1:=by
    clear h2 hset ih hdd hde e1 e2;rw[eG (by omega) (by omega)];omega
   refine⟨k',by clear h2 hset ih hdd hde e1 e2 e3;omega,?_⟩;rw[if_pos (by clear h2 hset ih hdd hde e1 e2 e3;omega),if_pos (by clear h2 hset ih hdd hde e1 e2 e3;omega),if_pos (by clear h2 hset ih hdd hde e1 e2 e3;omega),ht,e1,hset,e2,e3,oh (by clear h2 hset ih hdd hde e1 e2 e3;omega)];exact h2
  .refine⟨k,by omega,?_⟩
   have hm:min (4*(i+1)) N=p:=by omega
   rw[if_neg (by omega),oh (by omega),hm]
theorem U7(n N:Nat)(hl:(limbs R n).length<900000)(hN:N<4000000)(h4:4*(limbs R n).length<N+4)(m:Nat):∀(k i:Nat),(limbs R n).length-i=m->i≤(limbs R n).length->m*6+10<k->
  aQ.l1 k (limbs R n) (vM N (min (4*i) N) n) ((N:Int)-(min (4*i) N:Nat)-1) (i:Int)=some (strOfNums (vM N (min (4*(limbs R n).length) N) n)):=by
 induction m with
 |zero=>
  intro k i hm hi hk;obtain⟨k,rfl⟩:∃m,k=m+1:=⟨k-1,by omega⟩;obtain rfl:i=(limbs R n).length:=by omega
  simp only[aQ.l1];rw[if_neg (by omega)]
 |succ m ih=>
  intro k i hm hi hk;obtain⟨k,rfl⟩:∃m,k=m+1:=⟨k-1,by omega⟩;simp only[aQ.l1];have hw:rd (limbs R n) (i:Int)=((n/10^(4*i)% 10^4:Nat):Int):=by
   have h1:=uo n i;have h2:=uo n (i+1);rw[List.drop_eq_getElem_cons (by omega:i<(limbs R n).length),val,h2]at h1;rw[iw (by omega:i<(limbs R n).length)];rw[Nat.pow_succ,<-Nat.div_div_eq_div_mul]at h1;have e:R^i=10^(4*i):=by rw[Nat.pow_mul]
   rw[e]at h1;have e2:10^4=R:=rfl;rw[e2];generalize n/10^(4*i)=M at*
   have h3:=fI (vL n) (by omega:i<(limbs R n).length);have h4:((M/R:Nat):Int)=(M:Int)/10000:=rfl;have h5:((M% R:Nat):Int)=(M:Int)% 10000:=rfl;rw[h5];rw[h4]at h1;clear h2 e e2 h4 h5 ih;omega
  obtain⟨k',h1,h2⟩:=U6 (limbs R n) n N i (by omega) hN 4 k 0 (4*i) (n/10^(4*i)% 10^4) rfl (by omega) (by omega) rfl (by omega);have s:min (4*i) N=4*i:=by omega
  have e0:((0:Nat):Int)=0:=rfl;rw[e0]at h2;rw[if_pos (by omega),if_pos (by omega),hw,s,h2];exact ih k' (i+1) (by omega) (by omega) (by omega)
theorem U8(l:List Int)(N:Nat)(hN:N<4000000)(m:Nat):∀(k i:Nat),N-i=m->i≤N->m<k->
  aQ.l0 k l (List.replicate i 48++List.replicate (N-i) 0) (i:Int)=aQ.l1 (k-m-1) l (List.replicate N 48) ((N:Int)-1) 0:=by
 induction m with
 |zero=>
  intro k i hm hi hk;obtain⟨k,rfl⟩:∃m,k=m+1:=⟨k-1,by omega⟩;obtain rfl:i=N:=by omega
  simp only[aQ.l0];rw[Nat.sub_self,List.replicate_zero,List.append_nil,List.length_replicate,if_neg (by omega),eG (by omega) (by omega)];rfl
 |succ m ih=>
  intro k i hm hi hk;obtain⟨k,rfl⟩:∃m,k=m+1:=⟨k-1,by omega⟩;have hll:(List.replicate i (48:Int)++List.replicate (N-i) 0).length=N:=by rw[List.length_append,List.length_replicate,List.length_replicate];omega
  have e2:N-(i+1)=m:=by omega
  have hs:(List.replicate i (48:Int)++List.replicate (N-i) 0).set i 48=List.replicate (i+1) 48++List.replicate (N-(i+1)) 0:=by
   have:=QJ (List.replicate i 48) 48 m;rw[List.length_replicate]at this;rw[hm,this,e2,<-List.replicate_succ']
  simp only[aQ.l0];rw[hll,if_pos (by omega),if_pos (by omega),Int.toNat_natCast,hs,oh (by omega),ih k (i+1) e2 (by omega) (by omega),show k+1-(m+1)-1=k-m-1 by omega]
theorem yZ(n:Nat):nDigits n≤4*(limbs R n).length+1∧4*(limbs R n).length<nDigits n+4∧(n≠0->nDigits n≤4*(limbs R n).length):=by
 by_cases h:n=0
 .subst h;rw[bZ,nDigits_small (by omega)];simp
 .obtain⟨t,h2,h3,h4,h5⟩:=IV n h
  have hl:(limbs R n).length≠0:=by
   intro h0;exact h ((gK R2).1 (List.eq_nil_of_length_eq_zero h0))
  have h6:=nDigits_pos t;have h7:nDigits t≤4:=by
   by_cases a:t<10
   .rw[nDigits_small a];omega
   by_cases b:t<100
   .rw[nDigits_big a,nDigits_small (by omega)];omega
   by_cases c:t<1000
   .rw[nDigits_big a,nDigits_big (by omega),nDigits_small (by omega)];omega
   rw[nDigits_big a,nDigits_big (by omega),nDigits_big (by omega),nDigits_small (by omega)];omega
  omega
theorem Ga(n:Nat)(hl:(limbs R n).length<900000)(k:Nat)(hk:30000000<k):aQ.f k (limbs R n)=some (dec n):=by
 have hd:=yZ n;have hp:=nDigits_pos n;unfold aQ.f;rw[Oe n hl k (by omega),Option.bind_some,if_pos (by omega),if_pos (by omega),Int.toNat_natCast];have h0:=U8 (limbs R n) (nDigits n) (by omega) (nDigits n) k 0 (by omega) (by omega) (by omega);have e0:((0:Nat):Int)=0:=rfl;rw[e0,List.replicate_zero,List.nil_append,Nat.sub_zero]at h0;rw[h0];have h1:=U7 n (nDigits n) hl (by omega) hd.2.1 (limbs R n).length (k-nDigits n-1) 0 (by omega) (by omega) (by omega);rw[e0,show 4*0=0 from rfl,Nat.zero_min]at h1;have e1:vM (nDigits n) 0 n=List.replicate (nDigits n) 48:=by unfold vM;rw[Nat.sub_zero];exact List.append_nil _
 rw[e1,show((nDigits n:Nat):Int)-((0:Nat):Int)-1=((nDigits n:Nat):Int)-1 by omega]at h1;rw[h1];congr 1;by_cases h:nDigits n≤4*(limbs R n).length
 .rw[Nat.min_eq_right h,<-yF]
  unfold vM;rw[Nat.sub_self];rfl
 .have hz:(limbs R n).length=0:=by
   by_cases hn:n=0
   .subst hn;rw[bZ];rfl
   .exact absurd (hd.2.2 hn) h
  have hn:=(gK R2).1 (List.eq_nil_of_length_eq_zero hz);subst hn;rw[bZ,nDigits_small (by omega),<-yF,nDigits_small (by omega)];rfl
theorem yB:limbs R 1=[1]:=by rw[iL R2 (by decide)];rw[show 1/R=0 from by decide,bZ];rfl
theorem QO(a:Bool)(m n:Nat)(hn:0<n)(hm:(limbs R m).length<900000)(hl:(limbs R n).length<900000)(k:Nat)(hk:3000000000000<k):
  eF.f k a (limbs R m) (limbs R n)=some (a&&decide (m≠0),limbs R (m/Nat.gcd m n),limbs R (n/Nat.gcd m n)):=by
 unfold eF.f;by_cases h:m=0
 .subst h
  rw[bZ,if_pos (by simp),show bq.f k 1=some (limbs R 1)from tZ 1 (by decide) k (by omega),Option.bind_some,Nat.gcd_zero_left,Nat.zero_div,Nat.div_self hn,bZ];simp
 .have hne:(limbs R m).length≠0:=by
   intro h0;exact h ((gK R2).1 (List.eq_nil_of_length_eq_zero h0))
  have hg:0<Nat.gcd m n:=Nat.gcd_pos_of_pos_right m hn;have hgl:(limbs R (Nat.gcd m n)).length≤(limbs R n).length:=fU R2 (Nat.gcd_le_right m hn);rw[if_neg (by omega),Iw m n hm hl k hk,Option.bind_some,yH m _ hg hm (by omega) k (by omega),Option.bind_some,yH n _ hg hl (by omega) k (by omega),Option.bind_some];simp[h]
theorem Yz(a:Int)(h0: -9223372036854775808≤a)(h1:a≤9223372036854775807)(k:Nat)(hk:3000000000000<k):
  jm.f k a=some (decide (a<0),limbs R a.natAbs,limbs R 1):=by
 have hn1:bq.f k 1=some (limbs R 1):=tZ 1 (by decide) k (by omega);have hl1:(limbs R 1).length<900000:=by rw[yB];decide
 have hl:(limbs R a.natAbs).length≤5:=yG _ (by omega);have hlow:∀b:Bool,eF.f k b (limbs R a.natAbs) (limbs R 1)=some (b&&decide (a.natAbs≠0),limbs R a.natAbs,limbs R 1):=by
  intro b;rw[QO b _ 1 (by omega) (by omega) hl1 k hk,Nat.gcd_one_right,Nat.div_one,Nat.div_one]
 unfold jm.f;by_cases h:a<0
 .have e:IntKind.u64.wrap (IntKind.u64.wrap (wrap64 (-(wrap64 (a+1))))+1)=((a.natAbs:Nat):Int):=by
   rw[eG (x:=a+1) (by omega) (by omega),eG (by omega) (by omega),jB (x:= -(a+1)) (by omega) (by omega),jB (by omega) (by omega)];omega
  rw[if_pos h,e];clear e;rw[tZ _ (by omega) k (by omega),Option.bind_some,hn1,Option.bind_some,hlow,Option.bind_some];simp[h];omega
 .have e:IntKind.u64.wrap a=((a.natAbs:Nat):Int):=by rw[jB (by omega) (by omega)];omega
  rw[if_neg h,e];clear e;rw[tZ _ (by omega) k (by omega),Option.bind_some,hn1,Option.bind_some,hlow,Option.bind_some];simp[h]
theorem xI(n:Nat):(dec n).size=nDigits n:=by
 show(decDigits n).toArray.size=_;rw[List.size_toArray,decDigits_length]
def wm(s:Bool)(m n:Nat):ByteArray:=(if s=true then(⟨#[45]⟩:ByteArray)++dec m else dec m)++(if n=1 then(⟨#[]⟩:ByteArray)else(⟨#[47]⟩:ByteArray)++dec n)
theorem qg(a b:ByteArray):(a++b).size=a.size+b.size:=ByteArray.size_append
theorem qQ(a:ByteArray):a++(⟨#[]⟩:ByteArray)=a:=ByteArray.append_empty
theorem QT(s:Bool)(m n:Nat)(hl:(limbs R n).length<900000)(k:Nat)(hk:30000000<k):fQ.f k s (limbs R m) (limbs R n)=some (decide (n=1)):=by
 unfold fQ.f;have hl1:(limbs R 1).length<1000000:=by rw[yB];decide
 rw[show bq.f k 1=some (limbs R 1)from tZ 1 (by decide) k (by omega),Option.bind_some,rD n 1 (by omega) hl1 k (by omega),Option.bind_some];congr 1;unfold jA;by_cases h:n=1
 .subst h;rfl
 .rw[decide_eq_false h]
  split
  .rfl
  .rw[if_pos (by omega)];rfl
theorem QU(s:Bool)(m n:Nat)(hm:(limbs R m).length<900000)(hl:(limbs R n).length<900000)(k:Nat)(hk:40000000<k):dB.f k s (limbs R m) (limbs R n)=some (wm s m n):=by
 have hd1:=yZ m;have hd2:=yZ n;have hs1:=xI m;have hs2:=xI n;have j:∀t:ByteArray,t.size≤100000000->dB.j0 k t s (limbs R m) (limbs R n)=some (t++(if n=1 then(⟨#[]⟩:ByteArray)else(⟨#[47]⟩:ByteArray)++dec n)):=by
  intro t ht;obtain⟨k,rfl⟩:∃m,k=m+1:=⟨k-1,by omega⟩;simp only[dB.j0];rw[QT s m n hl k (by omega),Option.bind_some];by_cases h:n=1
  .rw[if_pos h,if_pos (decide_eq_true h),qQ]
  .have hsz:(t++(⟨#[47]⟩:ByteArray)).size=t.size+1:=by rw[qg];rfl
   rw[if_neg h,if_neg (by simpa using h),if_pos (by omega),Ga n hl k (by omega),Option.bind_some,if_pos (by omega),ByteArray.append_assoc]
 unfold dB.f wm;rw[Ga m hm k (by omega),Option.bind_some];have hsz:((⟨#[45]⟩:ByteArray)++dec m).size=1+(dec m).size:=by rw[qg];rfl
 by_cases h:s=true
 .rw[if_pos h,if_pos h,if_pos (by omega)];exact j _ (by omega)
 .rw[if_neg h,if_neg h];exact j _ (by omega)
theorem O6(a:Int)(h0: -9223372036854775808≤a)(h1:a≤9223372036854775807)(k:Nat)(hk:3000000000000<k):iO.f k a=some ⟨(itoa a).toArray⟩:=by
 unfold iO.f;have hl:(limbs R a.natAbs).length≤5:=yG _ (by omega);rw[Yz a h0 h1 k hk,Option.bind_some,QU _ _ _ (by omega) (by rw[yB];decide) k (by omega),Option.bind_some];congr 1;unfold wm itoa;rw[if_pos rfl,qQ];by_cases h:a<0
 .rw[if_pos (decide_eq_true h),if_pos h]
  unfold dec;apply ByteArray.ext;simp[ByteArray.data_append]
 .have e:a.toNat=a.natAbs:=by omega
  rw[if_neg (by simpa using h),if_neg h,e];rfl
def sv(s:Bool)(m:Nat):Int:=if s=true then -(m:Int)else m
theorem Ei(m:Nat):sv true m= -(m:Int):=rfl
theorem Ay(m:Nat):sv false m=(m:Int):=rfl
theorem KQ(m:Nat):decide (0<(limbs B9 m).length)=decide (m≠0):=by
 apply Bool.eq_iff_iff.2;rw[decide_eq_true_eq,decide_eq_true_eq];constructor
 .intro h1 h2;rw[h2,bZ]at h1;simp at h1
 .intro h1
  rcases Nat.eq_zero_or_pos (limbs B9 m).length with h2|h2
  .exact absurd ((gK iq).1 (List.eq_nil_of_length_eq_zero h2)) h1
  .exact h2
theorem wu(L:List Int)(hi:inr 1000000000 L)(s:Bool)(v:Nat)(hv:val 1000000000 L=v)(k:Nat)(hl:L.length<2000000)(hk:2000000≤k):
  dJ.f k L s=some (s&&decide (v≠0),limbs B9 v):=by
 have e:dU L=limbs B9 v:=by rw[sH hi,hv];rfl
 rw[Ak L s k (by omega) (by omega),e,KQ]
theorem KR(s:Bool)(v:Nat)(k:Nat)(hl:(limbs B9 v).length<2000000)(hk:2000000≤k):dJ.f k (limbs B9 v) s=some (s&&decide (v≠0),limbs B9 v):=
 wu _ (nW v) s v (pI v) k hl hk
theorem Xe(s t:Bool)(m n:Nat)(hm:(limbs B9 m).length<1000000)(hn:(limbs B9 n).length<1000000)(k:Nat)(hk:3000000<k):
  bK.f k s (limbs B9 m) t (limbs B9 n)=some (decide (sv s m+sv t n<0),limbs B9 (sv s m+sv t n).natAbs):=by
 unfold bK.f;by_cases hst:s=t
 .subst hst
  obtain⟨L,h1,h2,h3,h4⟩:=UU m n hm hn k (by omega);rw[if_pos (by simp),h1,Option.bind_some,wu L h3 s (m+n) h4 k (by omega) (by omega),Option.bind_some];have e:(sv s m+sv s n).natAbs=m+n:=by unfold sv;split<;>omega
  have e2:(s&&decide (m+n≠0))=decide (sv s m+sv s n<0):=by
   cases s
   .rw[Ay,Ay,Bool.false_and];exact(decide_eq_false (by omega)).symm
   .rw[Ei,Ei,Bool.true_and];exact decide_eq_decide.2 (by omega)
  rw[e,e2]
 .obtain⟨c,h1,h2⟩:=Aj m n hm hn k (by omega)
  have hne:¬(s==t)=true:=by simpa using hst
  rw[if_neg hne,h1,Option.bind_some];have hts:t= !s:=by cases s<;>cases t<;>simp_all
  subst hts;unfold AB at h2;by_cases hc:c≥0
  .obtain⟨L,g1,g2,g3,g4⟩:=Db m n (by omega) hm k (by omega)
   rw[if_pos hc,g1,Option.bind_some,wu L g3 s (m-n) g4 k (by omega) (by omega),Option.bind_some];have e:(sv s m+sv (!s) n).natAbs=m-n:=by cases s<;>simp[sv]<;>omega
   have e2:(s&&decide (m-n≠0))=decide (sv s m+sv (!s) n<0):=by
    cases s
    .rw[Ay,show(!false)=true from rfl,Ei,Bool.false_and];exact(decide_eq_false (by omega)).symm
    .rw[Ei,show(!true)=false from rfl,Ay,Bool.true_and];exact decide_eq_decide.2 (by omega)
   rw[e,e2]
  .obtain⟨L,g1,g2,g3,g4⟩:=Db n m (by omega) hn k (by omega)
   rw[if_neg hc,g1,Option.bind_some,wu L g3 (!s) (n-m) g4 k (by omega) (by omega),Option.bind_some];have e:(sv s m+sv (!s) n).natAbs=n-m:=by cases s<;>simp[sv]<;>omega
   have e2:((!s)&&decide (n-m≠0))=decide (sv s m+sv (!s) n<0):=by
    cases s
    .rw[Ay,show(!false)=true from rfl,Ei,Bool.true_and];exact decide_eq_decide.2 (by omega)
    .rw[Ei,show(!true)=false from rfl,Ay,Bool.false_and];exact(decide_eq_false (by omega)).symm
   rw[e,e2]
theorem Xf(s:Bool)(m:Nat):sv (!s&&decide (m≠0)) m= -sv s m:=by
 by_cases h:m=0
 .subst h;cases s<;>simp[sv]
 .cases s<;>simp[sv,h]
theorem Xg(s t:Bool)(m n:Nat)(hm:(limbs B9 m).length<1000000)(hn:(limbs B9 n).length<1000000)(k:Nat)(hk:3000000<k):
  jH.f k s (limbs B9 m) t (limbs B9 n)=some (decide (sv s m-sv t n<0),limbs B9 (sv s m-sv t n).natAbs):=by
 unfold jH.f kM.f;rw[KR (!t) n k (by omega) (by omega),Option.bind_some,Option.bind_some,Xe s _ m n hm hn k hk,Option.bind_some,Xf];rfl
theorem WX(s t:Bool)(m n:Nat)(hm:(limbs B9 m).length<1000000)(hn:(limbs B9 n).length<1000000)(k:Nat)(hk:3000000<k):
  jI.f k s (limbs B9 m) t (limbs B9 n)=some (jA (sv s m) (sv t n)):=by
 unfold jI.f jX.f dZ.f;rw[Xg s t m n hm hn k hk,Option.bind_some,Option.bind_some];by_cases h:sv s m-sv t n=0
 .rw[h]
  show(if(((limbs B9 0).length:Int)==0)=true then some (0:Int)else _).bind _=_;rw[bZ,if_pos (by simp),Option.bind_some];unfold jA;rw[if_neg (by omega),if_neg (by omega)]
 .have hne:(limbs B9 (sv s m-sv t n).natAbs).length≠0:=by
   intro h0;have:=(gK iq).1 (List.eq_nil_of_length_eq_zero h0);omega
  rw[if_neg (by simpa using hne)];by_cases h2:sv s m-sv t n<0
  .rw[if_pos (decide_eq_true h2),Option.bind_some];unfold jA;rw[if_pos (by omega)]
  .rw[if_neg (by simpa using h2),Option.bind_some];unfold jA;rw[if_neg (by omega),if_pos (by omega)]
theorem Qq(s:Bool)(m:Nat):gX.f s (limbs B9 m)=some (!s&&decide (m=1)):=by
 unfold gX.f;cases s
 .rw[if_neg (by simp)]
  by_cases h:m=0
  .subst h;rw[bZ];simp
  .by_cases h1:m<B9
   .have e:limbs B9 m=[(m:Int)]:=by rw[iL iq h,Nat.mod_eq_of_lt h1,Nat.div_eq_of_lt h1,bZ]
    rw[e,if_pos (by simp),if_pos (by simp)];simp[rd];exact Bool.eq_iff_iff.2 (by simp;omega)
   .have hl:(limbs B9 m).length≠1:=by
     intro h2;have:=nV iq m;rw[h2,Nat.pow_one]at this;omega
    rw[if_neg (by omega)];have:¬m=1:=by unfold B9 at h1;omega
    simp[this]
 .rw[if_pos rfl];simp
theorem N_(N:Nat):nine ((N% B9:Nat):Int)=jR 9 N:=by
 unfold nine;have e:((N% B9:Nat):Int)=(N:Int)% 1000000000:=rfl;rw[e];simp only[jR];have c:∀a b:Nat,((48+N/a% b:Nat):Int)=48+(N:Int)/(a:Int)% (b:Int):=λ a b=>by rw[Int.natCast_add,Int.natCast_emod,Int.natCast_ediv];rfl
 simp only[c];congr 1
 .omega
 congr 1
 .omega
 congr 1
 .omega
 congr 1
 .omega
 congr 1
 .omega
 congr 1
 .omega
 congr 1
 .omega
 congr 1
 .omega
 congr 1;omega
theorem FY(n:Nat)(h:inr 1000000000 (limbs B9 n)):∀j,j≤(limbs B9 n).length->jW (upto (m_ (limbs B9 n) h) j)=jR (9*j) (n/B9^((limbs B9 n).length-j))
 |0,_=>rfl
 |j+1,hj=>by
  rw[BX,Iy,FY n h j (by omega),Nat.mul_succ,sN];obtain⟨i,hi⟩:∃i,(limbs B9 n).length-j=i+1:=⟨(limbs B9 n).length-j-1,by omega⟩;have e1:(limbs B9 n).length-(j+1)=i:=by omega
  have e2:(m_ (limbs B9 n) h j).1.2=((n/B9^i% B9:Nat):Int):=by
   show rd (limbs B9 n) (((limbs B9 n).length-1-j:Nat):Int)=_;rw[show(limbs B9 n).length-1-j=i by omega,iw (by omega:i<(limbs B9 n).length)];have h1:=vk n i;have h2:=vk n (i+1);rw[List.drop_eq_getElem_cons (by omega:i<(limbs B9 n).length),val,h2,Nat.pow_succ,<-Nat.div_div_eq_div_mul]at h1;have h3:=fI h (by omega:i<(limbs B9 n).length);generalize n/B9^i=M at*
   have h4:((M/B9:Nat):Int)=(M:Int)/1000000000:=rfl;have h5:((M% B9:Nat):Int)=(M:Int)% 1000000000:=rfl;rw[h5];rw[h4]at h1;clear h2 h4 h5;omega
  rw[e2,N_,e1,hi,Nat.pow_succ,<-Nat.div_div_eq_div_mul]
theorem FZ:∀p,jR p 0=List.replicate p 48
 |0=>rfl
 |p+1=>by rw[jR,FZ p,Nat.zero_div];rfl
theorem SC(n:Nat):n≠0->∃c l,decDigits n=c::l∧c≠48:=by
 induction n using Nat.strongRecOn with
 |_ n ih=>
  intro h;rw[decDigits];by_cases h1:n<10
  .rw[dif_pos h1]
   refine⟨_,[],rfl,?_⟩;have:∀k:Fin 10,k.val≠0->UInt8.ofNat (48+k.val)≠48:=by decide
   exact this ⟨n,h1⟩ h
  .rw[dif_neg h1]
   obtain⟨c,l,h2,h3⟩:=ih (n/10) (by omega) (by omega);exact⟨c,l++[UInt8.ofNat (48+n% 10)],by rw[h2];rfl,h3⟩
theorem L9(n:Nat)(h:n≠0):nDigits n≤9*(limbs B9 n).length:=by
 have h1:=Oa n h;have h2:=nV iq n;have e:B9^(limbs B9 n).length=10^(9*(limbs B9 n).length):=by rw[Nat.pow_mul]
 rw[e]at h2;rcases Nat.lt_or_ge (9*(limbs B9 n).length) (nDigits n)with h3|h3
 .have h4:10^(9*(limbs B9 n).length)≤10^(nDigits n-1):=Nat.pow_le_pow_right (by decide) (by omega)
  omega
 .exact h3
theorem SE(n:Nat)(h:inr 1000000000 (limbs B9 n))(hn:n≠0):vW (limbs B9 n) h=dec n:=by
 unfold vW trimLeftS;rw[FY n h _ (Nat.le_refl _),Nat.sub_self,Nat.pow_zero,Nat.div_one];obtain⟨z,hz⟩:∃z,9*(limbs B9 n).length=z+nDigits n:=⟨9*(limbs B9 n).length-nDigits n,by have:=L9 n hn;omega⟩;rw[hz,sN,Nat.div_eq_of_lt (lt_pow_nDigits n),FZ];have e:(strOfNums (List.replicate z 48++jR (nDigits n) n)).data.toList=List.replicate z (48:UInt8)++(strOfNums (jR (nDigits n) n)).data.toList:=by
  unfold strOfNums;rw[List.map_append,List.map_replicate];rfl
 rw[e,yF];obtain⟨c,l,h2,h3⟩:=SC n hn;have e2:(dec n).data.toList=c::l:=h2;rw[e2];have e3:∀z,List.dropWhile (λ x=>[(48:UInt8)].contains x) (List.replicate z (48:UInt8)++c::l)=c::l:=by
  intro z;induction z with
  |zero=>
   rw[List.replicate_zero,List.nil_append,List.dropWhile_cons_of_neg];simpa using h3
  |succ z ih=>rw[List.replicate_succ,List.cons_append,List.dropWhile_cons_of_pos (by simp)];exact ih
 rw[e3 z,<-h2];rfl
def oV(s:Bool)(m:Nat):ByteArray:=if s=true then(⟨#[45]⟩:ByteArray)++dec m else dec m
theorem vo(s:Bool)(m:Nat)(hs:s=true->m≠0)(hl:(limbs B9 m).length<1000000000):dz.f s (limbs B9 m)=some (oV s m):=by
 unfold dz.f;rw[dif_pos ⟨nW m,hl⟩];by_cases h:m=0
 .subst h
  rw[if_pos (by rw[bZ];rfl)];cases s
  .unfold oV dec;rw[if_neg (by simp),decDigits_one (by omega)];rfl
  .exact absurd rfl (hs rfl)
 .have hne:(limbs B9 m).length≠0:=λ h0=>h ((gK iq).1 (List.eq_nil_of_length_eq_zero h0))
  rw[if_neg hne,SE m _ h];rfl
theorem Cg(s:Bool)(m:Nat)(hl:(limbs B9 m).length<1000000000):eu.f s (limbs B9 m)=some ((nDigits m:Nat):Int):=by
 unfold eu.f gF.f;rw[Option.bind_some,vo false m (by simp) hl,Option.bind_some];unfold oV;rw[if_neg (by simp),xI]
theorem Sr(s t:Bool)(m n:Nat)(hm:(limbs B9 m).length<1000000000)(hn:(limbs B9 n).length<1000000000):iZ.f s (limbs B9 m) t (limbs B9 n)=some (decide (nDigits m≤300)&&decide (nDigits n≤300)):=by
 unfold iZ.f;rw[Cg s m hm,Option.bind_some];by_cases h:nDigits m≤300
 .rw[if_pos (by omega),Cg t n hn,Option.bind_some,decide_eq_true h,Bool.true_and]
  congr 1;exact decide_eq_decide.2 (by omega)
 .rw[if_neg (by omega),decide_eq_false h,Bool.false_and]
theorem Oc(s:Bool)(m n:Nat)(hs:s=true->m≠0)(hm:nDigits m≤300)(hn:nDigits n≤300)(hlm:(limbs B9 m).length<1000000000)(hln:(limbs B9 n).length<1000000000):
  dS.f s (limbs B9 m) false (limbs B9 n)=some (wm s m n):=by
 have hs1:=xI m;have hs2:=xI n;have hsz:(oV s m).size≤301:=by
  unfold oV;split
  .rw[qg,hs1];show 1+_≤_;omega
  .omega
 unfold dS.f;rw[Qq,Option.bind_some,vo s m hs hlm,Option.bind_some];by_cases h:n=1
 .rw[if_pos (by simp[h])]
  unfold wm;rw[if_pos h,qQ];rfl
 .have h1:(oV s m++(⟨#[47]⟩:ByteArray)).size=(oV s m).size+1:=by rw[qg];rfl
  have h2:oV false n=dec n:=rfl;rw[if_neg (by simp[h]),Option.bind_some,if_pos (by omega),vo false n (by simp) hln,Option.bind_some,if_pos (by rw[h2];omega)];unfold wm;rw[if_neg h,h2,ByteArray.append_assoc];rfl
theorem Xh(t:ByteArray):∀j,pw t j=uT 9 t j:=by
 have hc:∀lo m,lY t lo m=fG t lo m:=by
  intro lo m;induction m with
  |zero=>rfl
  |succ m ih=>rw[lY,fG,ih]
 intro j;induction j with
 |zero=>rfl
 |succ j ih=>rw[pw,uT,ih,hc]
theorem KI(a:ByteArray)(hs:(fK a).size<4294967281):iC.f a=some (gD (fK a) (iF a)&&(iF a&&decide (bX (fK a)≠0)),if gD (fK a) (iF a)then limbs B9 (bX (fK a))else [],gD (fK a) (iF a)):=by
 unfold iC.f;rw[if_pos hs];by_cases h:gD (fK a) (iF a)=true
 .have hd:qY (fK a):=λ i hi=>Kq h i hi
  have e:dU (pw (fK a) (((fK a).size+8)/9))=limbs B9 (bX (fK a)):=by
   rw[Xh,Im hd 9 _ (by decide) (by omega)]
  rw[e,h,KQ]
 .rw[Bool.not_eq_true]at h
  rw[h];rfl
theorem Qp(k:Nat)(hk:3<k):fM.f k 1=some (false,limbs B9 1):=by
 obtain⟨k,rfl⟩:∃m,k=m+3:=⟨k-3,by omega⟩;have e:limbs B9 1=[1]:=by rw[iL iq (by decide)];rw[show 1/B9=0 from by decide,bZ];rfl
 unfold fM.f;rw[if_neg (by omega),jB (by omega) (by omega),e];simp only[fM.j0,fM.l0];rw[if_pos (by omega),if_pos (by simp),show Int.tdiv 1 1000000000=0 from rfl,jB (by omega) (by omega),if_neg (by omega)];rfl
end Go.Proofs.Ct.Q
section
namespace Go.Proofs.g_
open Go Go.RowKit
variable {P:Program} {ops:Array Oper} {F:Nat->Value->World->Prop} {i:Nat} {o:Oper} {a:Act} {w:World}
theorem Uu{v:Value}{w1:World}(hw:Region.wanted o (yielded ops a.tmps)=true)(hF:F i v w1)(hb:Below w.heap.size w w1)(hrun:(execOp a.eval o).run P w= .ok (.value v) w1):
  if Region.wanted o (yielded ops a.tmps)=true then o.wp P a w (λ a' w'=>∃v,a'=a.put o.dst v∧F i v w'∧Below w.heap.size w w') (λ _ _ _=>False)else F i undef w:=by
 rw[if_pos hw];unfold Oper.wp;rw[hrun];exact⟨v,rfl,hF,hb⟩
end Go.Proofs.g_
namespace Go.Proofs.Ct.Q
open Go.Proofs.g_ Go.RowKit Go.Proofs.aA.ak Go.Proofs.aA.aC Go.Proofs.aA.aG Go.Proofs.bO
theorem RU(A:Option Addr)(n c:Nat)(j:Nat)(hj:j≤c)(W:World):(Instr.slice 62 (.slice A n c) none (some (.int .i64 (j:Int))) (some (.int .i64 (j:Int)))).run Tryz.prog W= .ok (.slice A j j) W:=by
 obtain⟨i,hi,hs⟩:=Option.map_eq_some_iff.1 iR;have hel:Tryz.prog.elem 62=328:=by simp[Program.elem,Tryz.underlying62]
 have ha:(A.map λ x=>x.add 0)=A:=by cases A<;>simp[Addr.add]
 have hu:=Tryz.underlying62;go_simp
theorem RV(A:Addr)(at_:Nat)(xs ys:List Int)(B:Option Addr)(c:Nat)(base:Nat)(ok:Nat->Prop)(W:World)(hX:Kd.V (Kd.int .u32) 328 W base ok (.slice (some A) at_ at_) xs)(hY:Kd.C (Kd.int .u32) W B ys.length ys)(hl:at_+ys.length≤1000000)(hok:∀k,W.heap.size≤k->ok k):
  ∃v1 W1,(Builtin.append_ #[62,62] 62 #[.slice (some A) at_ at_,.slice B ys.length c]).run Tryz.prog W= .ok v1 W1∧Kd.V (Kd.int .u32) 328 W1 base ok v1 (xs++ys)∧Below W.heap.size W W1:=by
 obtain⟨i,hi,hs⟩:=Option.map_eq_some_iff.1 iR;simp only[Prod.mk.injEq]at hs;obtain⟨hz,hsz,hby⟩:=hs;obtain⟨h1,h2,h3⟩:=Kd.aH hX;cases ys with
 |nil=>
  refine⟨.slice (some A) at_ at_,W,?_,by rw[List.append_nil];exact hX,Below.refl _ _⟩;have hu:=Tryz.underlying62;have hu2:=Tryz.underlying328;cases B with
  |none=>simp[Builtin.append_,run_underlying hu,sizeOf,typeInfo,hi,hsz,Builtin.lenOf,Builtin.firstCells,storeCells,loadCells,loadCellsFrom,Result.andThen]
  |some B=>simp[Builtin.append_,run_underlying hu,sizeOf,typeInfo,hi,hsz,Builtin.lenOf,Builtin.firstCells,storeCells,loadCells,loadCellsFrom,Result.andThen]
 |cons y ys=>
  obtain⟨hy1,hy2,hy3⟩:=Kd.lC (d:=0) hY;obtain⟨hx1,hx2,hx3⟩:=Kd.lC (d:=0) h3;obtain⟨ad,rfl,hcy⟩:=hy3 (by simp);have hcx:∀j u,(nums .u32 xs)[j]? =some u->W.cell? (A.add j)=some u:=by
   intro j u hj;have hjl:j<xs.length:=by
    have:=(List.getElem?_eq_some_iff.1 hj).1;rwa[nums_length]at this
   obtain⟨ad2,e2,hc2⟩:=hx3 (by omega);cases e2;rw[hc2 j hjl];simp only[nums,List.getElem?_map,List.getElem?_eq_getElem hjl,Option.map_some]at hj;rw[List.getD_eq_getElem?_getD,List.getElem?_eq_getElem hjl];exact hj
  have s:∀j u,(nums .u32 (y::ys))[j]? =some u->W.cell? (ad.add j)=some u:=by
   intro j u hj;have hjl:j<(y::ys).length:=by
    have:=(List.getElem?_eq_some_iff.1 hj).1;rwa[nums_length]at this
   rw[hcy j hjl];simp only[nums,List.getElem?_map,List.getElem?_eq_getElem hjl,Option.map_some]at hj;rw[List.getD_eq_getElem?_getD,List.getElem?_eq_getElem hjl];exact hj
  have hly:0<(y::ys).length:=by simp
  obtain⟨v',w',hr,ho,hg⟩:=run_append_arg_grows (P:=Tryz.prog) (w:=W) 62 62 328 i (.int .u32 0) 1 4 Tryz.underlying62 hi hz hsz hby rfl (by decide) A at_ at_ (nums .u32 xs) (by rw[nums_length,h1];omega) hcx ad (y::ys).length c (nums .u32 (y::ys)) (by rw[nums_length];omega) s (by omega) (by simp only[maxLen];omega) (by omega);refine⟨v',w',hr,?_,⟨hg.os,hg.tape,hg.output,hg.size,λ k hk=>hg.block k hk (by simp)⟩⟩;rw[<-nums_append,h1,<-List.length_append]at ho;refine Kd.kC (base:=W.heap.size) (Kd.Ah (ok:=ok) ho ?_);intro k hk;exact hok k (tQ ho k hk)
end Go.Proofs.Ct.Q
end
namespace Go.Proofs.Ct.Q
open Go.Proofs.g_ Go.RowKit Go.Proofs.aA.ak Go.Proofs.aA.aC Go.Proofs.aA.aG Go.Proofs.bO
attribute [local go_sem] aW aX bA bB
def Fg(u7 u12 u14:Value)(A:Addr)(t:Nat)(base:Nat)(ok:Nat->Prop)(U R:List Int):Nat->Value->World->Prop:=λ i=>([
 λ u _=>u=u7,
 λ u _=>u= .int .i64 (t:Int),
 λ u _=>u= .int .i64 (t:Int),
 λ u _=>u= .slice (some A) t t,
 λ u _=>u=u12,
 λ u _=>u=u14,
 λ u w=>Kd.V (Kd.int .u32) 328 w base (λ _=>True) u R,
 λ u w=>Kd.V (Kd.int .u32) 328 w base ok u (U.take t++R),
 λ u w=>Kd.V (Kd.int .u32) 328 w base ok u (U.take t++R)]:List (Value->World->Prop)).getD i (λ _ _=>True)
theorem LK(u7 u12 u14:Value)(A:Addr)(t:Nat)(base:Nat)(ok:Nat->Prop)(U R:List Int):∀w w' j u,Below w.heap.size w w'->Fg u7 u12 u14 A t base ok U R j u w->Fg u7 u12 u14 A t base ok U R j u w':=by
 refine ig.get ?_;repeat(first|exact ig.nil|refine ig.cons (λ _ _ _ _ h=>h) ?_|refine ig.cons (λ u w w' hb h=>Kd.iA h hb) ?_)
set_option maxHeartbeats 20000000 in
set_option maxRecDepth 100000 in
theorem V6(A:Addr)(F c7:Nat)(z:Option Addr)(PW:List Int)(c12:Nat)(D:Option Addr)(s:List Int)(c14:Nat)(t:Nat)(base:Nat)(ok:Nat->Prop)(U R:List Int)(W0:World)
  (htc:t≤c7)(htU:t≤U.length)(hsum:t+R.length≤1000000)
  (HU:Kd.V (Kd.int .u32) 328 W0 base ok (.slice (some A) t t) (U.take t))(HP:Kd.V (Kd.int .u32) 328 W0 base (λ _=>True) (.slice z PW.length c12) PW)(HQ:Kd.V (Kd.int .u32) 328 W0 base (λ _=>True) (.slice D s.length c14) s)
  (HL:dX.f 1000000 PW s=some R)(hok:∀k,W0.heap.size≤k->ok k)
  (a0:Act)(L:a0.eval (.tmp 7)= .slice (some A) F c7)(E:a0.eval (.tmp 11)= .int .i64 (t:Int))(I:a0.eval (.tmp 12)= .slice z PW.length c12)(J:a0.eval (.tmp 14)= .slice D s.length c14):
  aJ Tryz.prog (opsOf Tryz.f322 15) (Fg (.slice (some A) F c7) (.slice z PW.length c12) (.slice D s.length c14) A t base ok U R) W0 a0 0 (opsOf Tryz.f322 15).toList:=by
 refine aJ.cons (λ a w' hS hr=>?_) ?_
 .have h:=gw hr L
  exact dN
 refine aJ.cons (λ a w' hS hr=>?_) ?_
 .have h:=gw hr E
  exact dN
 refine aJ.cons (λ a w' hS hr=>?_) ?_
 .have h:=gw hr E
  exact dN
 refine aJ.cons (λ a w' hS hr=>?_) ?_
 .have h1:=gQ hr 67 0
  have h2:=gQ hr 68 1;have h3:=gQ hr 69 2;have hsl:=RU (some A) F c7 t htc w';have hsl2:Sem.run Tryz.prog (Instr.sliceAt 62 (.slice (some A) F c7) none (some (.int .i64 (t:Int))) (some (.int .i64 (t:Int)))) w'= .ok (.slice (some A) t t) w':=by first|exact hsl|simpa[Instr.slice]using hsl
  have e2:=xq h2;have e3:=xq h3;refine gu (dL rfl) rfl ?_;simp only[execOp,bT,h1,Option.map_some,Option.map_none,h2,h3];simp[hsl2,h1,h2,h3,e2,e3,Sem.run_bind,Result.andThen]
 refine aJ.cons (λ a w' hS hr=>?_) ?_
 .have h:=gw hr I
  exact dN
 refine aJ.cons (λ a w' hS hr=>?_) ?_
 .have h:=gw hr J
  exact dN
 refine aJ.cons (λ a w' hS hr=>?_) ?_
 .have h1:=gQ hr 71 4
  have h2:=gQ hr 72 5;refine gU #[.slice z PW.length c12,.slice D s.length c14] (dL rfl) Tryz.func405 (by kernel_rfl) rfl rfl (by simp only[List.map_toArray,List.map_cons,List.map_nil,h1,h2]) ?_;have kP:=Kd.aH (Kd.iA HP hS);have O:=Kd.aH (Kd.iA HQ hS);refine(dX.calls 1000000 _ _ PW _ _ s R _ kP.2.2 kP.2.1 O.2.2 O.2.1 HL).mono ?_;rintro e w2 ⟨v,rfl,hv,hb⟩;exact⟨v,rfl,Kd.kC (base':=base) hv,hb⟩
 refine aJ.cons (λ a w' hS hr=>?_) ?_
 .have h1:=gQ hr 70 3
  have h2:Kd.V (Kd.int .u32) 328 w' base (λ _=>True) _ R:=gq hr 73 6;obtain⟨B,c,e⟩:=Kd.aY h2;rw[e]at h2;obtain⟨v1,W1,hrun,hv,hb⟩:=RV A t (U.take t) R B c base ok w' (Kd.iA HU hS) (Kd.aH h2).2.2 hsum (λ k hk=>hok k (Nat.le_trans hS.size hk));refine Uu (dL rfl) hv hb ?_;simp only[execOp,bT];have e1:=xq h1;have e2:=xq e;simp[resolve,invoke,h1,e,e1,e2,hrun,Result.andThen,builtin]
  done
 refine aJ.cons (λ a w' hS hr=>?_) ?_
 .have h1:Kd.V (Kd.int .u32) 328 w' base ok _ (U.take t++R):=gq hr 74 7
  refine gu (v:=a.eval (.tmp 74)) (dL rfl) h1 ?_;simp only[execOp,bT];go_simp
 exact aJ.nil
def Jr(g2 g3:Nat)(s z:Value)(ad:Addr)(y r:Int)(base:Nat)(ok:Nat->Prop)(L:List Int):Nat->Value->World->Prop:=λ i=>([
 λ u _=>u= .pointer (some ⟨g2,1,none⟩),
 λ u _=>u=s,
 λ u _=>u= .pointer (some ⟨g3,1,none⟩),
 λ u _=>u=z,
 λ u _=>u= .pointer (some ad),
 λ u _=>u= .int .u32 y,
 λ u w=>∃v,u= .tuple #[v,.int .u32 r]∧Kd.V (Kd.int .u32) 328 w base ok v L,
 λ u w=>∃v,u= .tuple #[v,.int .u32 r]∧Kd.V (Kd.int .u32) 328 w base ok v L,
 λ u w=>Kd.V (Kd.int .u32) 328 w base ok u L,
 λ u _=>u= .int .u32 r,
 λ u w=>Kd.V (Kd.int .u32) 328 w base ok u L,
 λ u _=>u= .int .u32 r]:List (Value->World->Prop)).getD i (λ _ _=>True)
theorem NH(g2 g3:Nat)(s z:Value)(ad:Addr)(y r:Int)(base:Nat)(ok:Nat->Prop)(L:List Int):∀w w' j u,Below w.heap.size w w'->Jr g2 g3 s z ad y r base ok L j u w->Jr g2 g3 s z ad y r base ok L j u w':=by
 refine ig.get ?_;repeat(first|exact ig.nil|refine ig.cons (λ _ _ _ _ h=>h) ?_|refine ig.cons (λ u w w' hb h=>Kd.iA h hb) ?_|refine ig.cons (λ u w w' hb h=>by obtain⟨v,h1,h2⟩:=h;exact⟨v,h1,Kd.iA h2 hb⟩) ?_)
set_option maxHeartbeats 20000000 in
set_option maxRecDepth 100000 in
theorem Yf(g2 g3:Nat)(A0:Option Addr)(X:List Int)(c0:Nat)(ad:Addr)(c1:Nat)(y r:Int)(base:Nat)(ok:Nat->Prop)(L:List Int)(W0:World)
  (h21:W0.cell? ⟨g2,1,none⟩=some (.slice A0 X.length c0))(h31:W0.cell? ⟨g3,1,none⟩=some (.slice (some ad) 1 c1))(hy:W0.cell? ad=some (.int .u32 y))
  (HX:Kd.C (Kd.int .u32) W0 A0 X.length X)(s:X.length≤c0)(HS:fH.f 1000000 X y=some (L,r))(hok:∀k,W0.heap.size≤k->ok k)
  (a0:Act)(ha2:a0.eval (.tmp 2)= .pointer (some ⟨g2,0,none⟩))(z:a0.eval (.tmp 3)= .pointer (some ⟨g3,0,none⟩)):
  aJ Tryz.prog (opsOf Tryz.f234 7) (Jr g2 g3 (.slice A0 X.length c0) (.slice (some ad) 1 c1) ad y r base ok L) W0 a0 0 (opsOf Tryz.f234 7).toList:=by
 have hu64:=Tryz.underlying64;refine aJ.cons (λ a w' hS hr=>?_) ?_
 .have h:=gw hr ha2
  exact dN
 refine aJ.cons (λ a w' hS hr=>?_) ?_
 .have h:=gQ hr 34 0
  have hc:=au hS h21;exact dN
 refine aJ.cons (λ a w' hS hr=>?_) ?_
 .have h:=gw hr z
  exact dN
 refine aJ.cons (λ a w' hS hr=>?_) ?_
 .have h:=gQ hr 36 2
  have hc:=au hS h31;exact dN
 refine aJ.cons (λ a w' hS hr=>?_) ?_
 .have h:=gQ hr 37 3
  exact dN
 refine aJ.cons (λ a w' hS hr=>?_) ?_
 .have h:=gQ hr 38 4
  have hc:=au hS hy;exact dN
 refine aJ.cons (λ a w' hS hr=>?_) ?_
 .have h1:=gQ hr 35 1
  have h2:=gQ hr 39 5;refine gU #[.slice A0 X.length c0,.int .u32 y] (dL rfl) Tryz.func321 (by kernel_rfl) rfl rfl (by simp only[List.map_toArray,List.map_cons,List.map_nil,h1,h2]) ?_;refine(fH.calls 1000000 _ _ X _ L r _ (Kd.eH HX hS) s HS).mono ?_;rintro e w2 ⟨v,rfl,hv,hb⟩;exact⟨_,rfl,⟨v,rfl,Kd.kC (base':=base) (Kd.gY (Kd.jV hv) (λ k hk=>hok k (Nat.le_trans hS.size hk.2.1)))⟩,hb⟩
 refine aJ.cons (λ a w' hS hr=>?_) ?_
 .obtain⟨v,h,hv⟩:=gq hr 40 6
  refine gu (dL rfl) ⟨v,rfl,hv⟩ ?_;simp only[execOp,bT,h];go_simp
 refine aJ.cons (λ a w' hS hr=>?_) ?_
 .obtain⟨v,h,hv⟩:=gq hr 33 7
  refine gu (v:=v) (dL rfl) hv ?_;simp only[execOp,bT,h];go_simp
 refine aJ.cons (λ a w' hS hr=>?_) ?_
 .obtain⟨v,h,hv⟩:=gq hr 33 7
  exact dN
 refine aJ.cons (λ a w' hS hr=>?_) ?_
 .have h1:Kd.V (Kd.int .u32) 328 w' base ok _ L:=gq hr 41 8
  refine gu (v:=a.eval (.tmp 41)) (dL rfl) h1 ?_;simp only[execOp,bT];go_simp
 refine aJ.cons (λ a w' hS hr=>?_) ?_
 .have h:=gQ hr 42 9
  exact dN
 exact aJ.nil
def pG:Obj:= .cells #[.bool false,.slice none 0 0] 64
def Js(g2 g3:Nat)(v6 v7:Value)(W0:World)(base:Nat)(ok:Nat->Prop)(Q R:List Int):Nat->Value->World->Prop:=λ i=>([
 λ u _=>u=v6,
 λ u _=>u= .pointer (some ⟨g2,0,none⟩),
 λ u _=>u= .bool false,
 λ u _=>u= .pointer (some ⟨g3,0,none⟩),
 λ u _=>u= .bool false,
 λ u _=>u= .bool false,
 λ u w=>∃v,u= .agg #[.bool false,v]∧Kd.V (Kd.int .u32) 328 w base ok v Q,
 λ u _=>u=v7,
 λ u _=>u= .pointer (some ⟨g2,0,none⟩),
 λ u _=>u= .bool false,
 λ u w=>∃v,u= .agg #[.bool false,v]∧Kd.V (Kd.int .u32) 328 w base ok v R,
 λ u w=>∃g,u= .pointer (some ⟨g,0,none⟩)∧W0.heap.size≤g∧w.heap[g]? =some pG,
 λ u w=>∃g,u= .pointer (some ⟨g,0,none⟩)∧W0.heap.size≤g∧w.heap[g]? =some pG]:List (Value->World->Prop)).getD i (λ _ _=>True)
theorem NJ(g2 g3:Nat)(v6 v7:Value)(W0:World)(base:Nat)(ok:Nat->Prop)(Q R:List Int):∀w w' j u,Below w.heap.size w w'->Js g2 g3 v6 v7 W0 base ok Q R j u w->Js g2 g3 v6 v7 W0 base ok Q R j u w':=by
 refine ig.get ?_;repeat(first|exact ig.nil|refine ig.cons (λ _ _ _ _ h=>h) ?_|refine ig.cons (λ u w w' hb h=>by obtain⟨v,h1,h2⟩:=h;exact⟨v,h1,Kd.iA h2 hb⟩) ?_|refine ig.cons (λ u w w' hb h=>by obtain⟨g,h1,h2,h3⟩:=h;exact⟨g,h1,h2,bY h3 hb⟩) ?_)
def sJ(a:Act)(w:World):Prop:=
 (∀g,a.tmps.getD 9 undef= .pointer (some ⟨g,0,none⟩)->g<w.heap.size)∧(∀g,a.tmps.getD 10 undef= .pointer (some ⟨g,0,none⟩)->g<w.heap.size)∧
 ∀g h,a.tmps.getD 9 undef= .pointer (some ⟨g,0,none⟩)->a.tmps.getD 10 undef= .pointer (some ⟨h,0,none⟩)->g≠h
theorem sJ.put{a:Act}{w w':World}{d:Option Tmp}{v:Value}(h:sJ a w)(h9:d≠some 9)(h10:d≠some 10)(hb:Below w.heap.size w w'):sJ (a.put d v) w':=by
 unfold sJ;rw[xg v h9,xg v h10];exact⟨λ g e=>Nat.lt_of_lt_of_le (h.1 g e) hb.size,λ g e=>Nat.lt_of_lt_of_le (h.2.1 g e) hb.size,h.2.2⟩
theorem sJ.Y_{a:Act}{w:World}{o:Obj}(h:sJ a w)(h9:9<a.tmps.size):sJ (a.put (some 9) (.pointer (some ⟨w.heap.size,0,none⟩))) (w.alloc o):=by
 have hsz:(w.alloc o).heap.size=w.heap.size+1:=Array.size_push _;unfold sJ;rw[C8 _ h9,xg _ (by simp),hsz];refine⟨λ g e=>by cases e;omega,λ g e=>by have:=h.2.1 g e;omega,λ g k e1 e2=>by cases e1;have:=h.2.1 k e2;omega⟩
theorem sJ.Yh{a:Act}{w:World}{o:Obj}(h:sJ a w)(h10:10<a.tmps.size):sJ (a.put (some 10) (.pointer (some ⟨w.heap.size,0,none⟩))) (w.alloc o):=by
 have hsz:(w.alloc o).heap.size=w.heap.size+1:=Array.size_push _;unfold sJ;rw[C8 _ h10,xg _ (by simp),hsz];refine⟨λ g e=>by have:=h.1 g e;omega,λ g e=>by cases e;omega,λ g k e1 e2=>by cases e2;have:=h.1 g e1;omega⟩
theorem Ip(o:Oper)(a:Act)(w:World)(ho:o.op= .alloc 64):(execOp a.eval o).run Tryz.prog w= .ok (.value (.pointer (some ⟨w.heap.size,0,none⟩))) (w.alloc pG):=by
 have hu64:=Tryz.underlying64;simp only[execOp,ho,bT];go_simp;rfl
set_option maxHeartbeats 20000000 in
set_option maxRecDepth 100000 in
theorem Yg(g2 g3:Nat)(A6:Option Addr)(Q:List Int)(c6:Nat)(A7:Option Addr)(R:List Int)(c7:Nat)(base:Nat)(ok:Nat->Prop)(Q' R':List Int)(W0:World)
  (h20:W0.cell? ⟨g2,0,none⟩=some (.bool false))(s:W0.cell? ⟨g3,0,none⟩=some (.bool false))
  (HQ:Kd.V (Kd.int .u32) 328 W0 base ok (.slice A6 Q.length c6) Q)(HR:Kd.V (Kd.int .u32) 328 W0 base ok (.slice A7 R.length c7) R)
  (hQ:dJ.f 1000000 Q false=some (false,Q'))(hR:dJ.f 1000000 R false=some (false,R'))(hok:∀k,W0.heap.size≤k->ok k)
  (a0:Act)(hsz:a0.tmps.size=69)(ha2:a0.eval (.tmp 2)= .pointer (some ⟨g2,0,none⟩))(z:a0.eval (.tmp 3)= .pointer (some ⟨g3,0,none⟩))(D:a0.eval (.tmp 6)= .slice A6 Q.length c6)(E:a0.eval (.tmp 7)= .slice A7 R.length c7):
  jO Tryz.prog (opsOf Tryz.f234 9) (Js g2 g3 (.slice A6 Q.length c6) (.slice A7 R.length c7) W0 base ok Q' R') sJ W0 a0 0 ((opsOf Tryz.f234 9).toList.take 13):=by
 have hu64:=Tryz.underlying64;refine jO.cons (StepT.of (λ a w' hS hr=>?_) (λ a w v w' ht hb=>ht.put (by decide) (by decide) hb)) ?_
 .have h:=gw hr D
  exact dN
 refine jO.cons (StepT.of (λ a w' hS hr=>?_) (λ a w v w' ht hb=>ht.put (by decide) (by decide) hb)) ?_
 .have h:=gw hr ha2
  exact dN
 refine jO.cons (StepT.of (λ a w' hS hr=>?_) (λ a w v w' ht hb=>ht.put (by decide) (by decide) hb)) ?_
 .have h:=gQ hr 46 1
  have hc:=au hS h20;exact dN
 refine jO.cons (StepT.of (λ a w' hS hr=>?_) (λ a w v w' ht hb=>ht.put (by decide) (by decide) hb)) ?_
 .have h:=gw hr z
  exact dN
 refine jO.cons (StepT.of (λ a w' hS hr=>?_) (λ a w v w' ht hb=>ht.put (by decide) (by decide) hb)) ?_
 .have h:=gQ hr 48 3
  have hc:=au hS s;exact dN
 refine jO.cons (StepT.of (λ a w' hS hr=>?_) (λ a w v w' ht hb=>ht.put (by decide) (by decide) hb)) ?_
 .have h1:=gQ hr 47 2
  have h2:=gQ hr 49 4;exact dN
 refine jO.cons (StepT.of (λ a w' hS hr=>?_) (λ a w v w' ht hb=>ht.put (by decide) (by decide) hb)) ?_
 .have h1:=gQ hr 45 0
  have h2:=gQ hr 50 5;refine gU #[.slice A6 Q.length c6,.bool false] (dL rfl) Tryz.func230 (by kernel_rfl) rfl rfl (by simp only[List.map_toArray,List.map_cons,List.map_nil,h1,h2]) ?_;refine(dJ.calls 1000000 ok _ _ Q false false _ _ (Kd.iA HQ hS) hQ).mono ?_;rintro e w2 ⟨v,rfl,hv,hb⟩;exact⟨_,rfl,⟨v,rfl,Kd.bU hv (λ k hk=>hk.elim id (λ h=>hok k (Nat.le_trans hS.size h)))⟩,hb⟩
 refine jO.cons (StepT.of (λ a w' hS hr=>?_) (λ a w v w' ht hb=>ht.put (by decide) (by decide) hb)) ?_
 .have h:=gw hr E
  exact dN
 refine jO.cons (StepT.of (λ a w' hS hr=>?_) (λ a w v w' ht hb=>ht.put (by decide) (by decide) hb)) ?_
 .have h:=gw hr ha2
  exact dN
 refine jO.cons (StepT.of (λ a w' hS hr=>?_) (λ a w v w' ht hb=>ht.put (by decide) (by decide) hb)) ?_
 .have h:=gQ hr 53 8
  have hc:=au hS h20;exact dN
 refine jO.cons (StepT.of (λ a w' hS hr=>?_) (λ a w v w' ht hb=>ht.put (by decide) (by decide) hb)) ?_
 .have h1:=gQ hr 52 7
  have h2:=gQ hr 54 9;refine gU #[.slice A7 R.length c7,.bool false] (dL rfl) Tryz.func230 (by kernel_rfl) rfl rfl (by simp only[List.map_toArray,List.map_cons,List.map_nil,h1,h2]) ?_;refine(dJ.calls 1000000 ok _ _ R false false _ _ (Kd.iA HR hS) hR).mono ?_;rintro e w2 ⟨v,rfl,hv,hb⟩;exact⟨_,rfl,⟨v,rfl,Kd.bU hv (λ k hk=>hk.elim id (λ h=>hok k (Nat.le_trans hS.size h)))⟩,hb⟩
 refine jO.cons (λ a w' hsa hS hT hr=>?_) ?_
 .rw[if_pos (dL rfl)]
  unfold Oper.wp;rw[Ip _ _ _ rfl];exact⟨_,rfl,⟨w'.heap.size,rfl,hS.size,lS w' _⟩,fA (Below.refl _ _) _,hT.Y_ (by rw[hsa,hsz];decide)⟩
 refine jO.cons (λ a w' hsa hS hT hr=>?_) ?_
 .rw[if_pos (dL rfl)]
  unfold Oper.wp;rw[Ip _ _ _ rfl];exact⟨_,rfl,⟨w'.heap.size,rfl,hS.size,lS w' _⟩,fA (Below.refl _ _) _,hT.Yh (by rw[hsa,hsz];decide)⟩
 exact jO.nil
end Go.Proofs.Ct.Q
