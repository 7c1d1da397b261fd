/- Part of the proof of CheckTexts (see the last text). -/
import Derived.Test.YtcclielbggpoaaaGreatDoorA29
import Derived.Test.YtcclielbggpoaaaGreatDoorA30
import Derived.Test.YtcclielbggpoaaaGreatDoorA31
import Derived.Test.YtcclielbggpoaaaGreatDoorA32
import Derived.Test.YtcclielbggpoaaaGreatDoorA33
import Derived.Test.YtcclielbggpoaaaGreatDoorA34
import Derived.Test.YtcclielbggpoaaaGreatDoorA35
import Derived.Test.YtcclielbggpoaaaGreatDoorA36
import Derived.Test.YtcclielbggpoaaaGreatDoorA37
import Derived.Test.YtcclielbggpoaaaGreatDoorA38
import Derived.Test.YtcclielbggpoaaaGreatDoorA39
import Derived.Test.YtcclielbggpoaaaGreatDoorA40
import Derived.Test.YtcclielbggpoaaaGreatDoorA41
import Derived.Test.YtcclielbggpoaaaGreatDoorA42
set_option linter.all false
namespace Go.cK
open Go.Proofs Go.RowKit
set_option maxHeartbeats 0
set_option maxRecDepth 1000000
theorem mixed:Tryz.prog.follows .mixedOrders=true:=by kernel_rfl
theorem VN:CS Tryz.prog 134 Extern.AbiNoEscape.same:=⟨⟨Tryz.f134,Tryz.func134,by kernel_rfl,by kernel_rfl,by kernel_rfl,by kernel_rfl⟩⟩
theorem VO:CS Tryz.prog 410 Extern.BytealgIndexByte.indexByte:=⟨⟨Tryz.f410,Tryz.func410,by kernel_rfl,by kernel_rfl,by kernel_rfl,by kernel_rfl⟩⟩
theorem EZ:yR Tryz.prog wX:=by
 intro f g hg args H n k h ι w argv hr hv;unfold wX at hg;cases h1:Nat.beq f 134 with
 |true=>rw[h1]at hg;cases hg;obtain rfl:=Nat.eq_of_beq_eq_true h1;exact LA VN h hr hv
 |false=>
  rw[h1]at hg;cases h2:Nat.beq f 410 with
  |true=>rw[h2]at hg;cases hg;obtain rfl:=Nat.eq_of_beq_eq_true h2;exact JR VO h hr hv
  |false=>
   rw[h2]at hg;cases h3:Nat.beq f 141 with
   |true=>rw[h3]at hg;cases hg;obtain rfl:=Nat.eq_of_beq_eq_true h3;exact O8 h hr hv
   |false=>
    rw[h3]at hg;cases h4:Nat.beq f 123 with
    |true=>rw[h4]at hg;cases hg;obtain rfl:=Nat.eq_of_beq_eq_true h4;exact RD h hr hv
    |false=>rw[h4]at hg;cases hg
theorem all_nil{p:Known->Prop}:∀E∈([]:List Known),p E:=λ _ h=>nomatch h
theorem all_cons{p:Known->Prop}{E:Known}{l:List Known}(h:p E)(t:∀E∈l,p E):∀x∈E::l,p x:=λ x hx=>by
 rcases List.mem_cons.1 hx with rfl|hx
 .exact h
 .exact t x hx
theorem BM:yR Tryz.prog Ij:=uQ (R:=100000) (fuel:=1000) mixed EZ (all_cons ⟨rfl,O9⟩ (all_cons ⟨rfl,O_⟩ (all_nil))) (uQ (R:=100000) (fuel:=1000) mixed EZ (all_cons ⟨rfl,Pb⟩ (all_cons ⟨rfl,Pd⟩ (all_cons ⟨rfl,Pe⟩ (all_cons ⟨rfl,Pf⟩ (all_nil))))) (uQ (R:=100000) (fuel:=1000) mixed EZ (all_cons ⟨rfl,Pg⟩ (all_cons ⟨rfl,Ph⟩ (all_cons ⟨rfl,Pj⟩ (all_cons ⟨rfl,Pk⟩ (all_cons ⟨rfl,Pm⟩ (all_cons ⟨rfl,Pn⟩ (all_nil))))))) EZ))
theorem Po:yR Tryz.prog VP:=uQ (R:=100000) (fuel:=1000) mixed BM (all_cons ⟨rfl,Pp⟩ (all_nil)) (uQ (R:=100000) (fuel:=1000) mixed BM (all_cons ⟨rfl,Pq⟩ (all_nil)) (uQ (R:=100000) (fuel:=1000) mixed BM (all_cons ⟨rfl,Pt⟩ (all_nil)) BM))
theorem VQ:yR Tryz.prog YI:=uQ (R:=100000) (fuel:=1000) mixed Po (all_cons ⟨rfl,Pv⟩ (all_nil)) (uQ (R:=100000) (fuel:=1000) mixed BM (all_cons ⟨rfl,Pw⟩ (all_cons ⟨rfl,Px⟩ (all_cons ⟨rfl,Py⟩ (all_nil)))) Po)
theorem Ny:EP Tryz.prog 100000 YI 1000 4 [] .nil 0 (λ v _ _=>match v with| .bool true=>true|_=>false)=true:=by kernel_rfl
theorem Pz(w:World):Calls Tryz.prog 4 #[] w λ e w'=>e= .returned (.bool true)∧Below w.heap.size w w':=by
 have h:=Ny;rw[D9]at h;refine(Bv mixed VQ Tryz.func4 (c:=Tryz.f4.body.getD .skip) (by kernel_rfl) (by kernel_rfl) h w).mono ?_;rintro e w' ⟨rfl,aV,H',n',hs⟩;exact⟨rfl,hs.os,hs.tape,hs.output,hs.size,λ κ s=>hs.frame κ s λ b x h _=>by rw[Tr.get_nil]at h;cases h⟩
end Go.cK
