/- The walks of the document's sum of bytes: Entry, Sum. -/
import Derived.Test.YtechbdnhalmobaaGreatDoorN0
import Derived.Test.YtechbdnhalmobaaGreatDoorBW
import Derived.Laws.BitsAllLaws
namespace Go.Proofs.YtechbdnhalmobaaGreatDoor
set_option linter.unusedSimpArgs false
set_option linter.unusedVariables false
open Go.RowKit
def RdB (w:World) (v:Value) (xs:List Nat):Prop :=
 Byt xs∧∃ ao cap,v = .slice ao xs.length cap∧xs.length≤cap∧∀ j,j<xs.length→∃ b o,ao=some ⟨b,o,none⟩∧b<w.heap.size∧w.cell? ⟨b,o+j,none⟩=some (.int .u8 ((xs.getD j 0:Nat):Int))
theorem RdB.below {w w':World} {v:Value} {xs:List Nat} (h:RdB w v xs) (hb:Below w.heap.size w w'):RdB w' v xs:=by
 obtain ⟨hy,ao,cap,rfl,hc,H⟩:=h
 refine ⟨hy,ao,cap,rfl,hc,fun j hj=>?_⟩
 obtain ⟨b,o,e,hl,hv⟩:=H j hj
 exact ⟨b,o,e,Nat.lt_of_lt_of_le hl hb.size,(hb.cell (p:=⟨b,o+j,none⟩) hl).trans hv⟩
theorem byt_getD {xs:List Nat} (h:Byt xs) (j:Nat):xs.getD j 0<256:=by
 rw [List.getD_eq_getElem?_getD]
 cases e:xs[j]? with
 | none=>simp
 | some c=>exact h c (List.mem_of_getElem? e)
theorem and1_u32 (m:Nat) (h:m<4294967296):bits .and .u32 (m:Int) 1=((m%2:Nat):Int):=by
 have:=u32_and_nat m 1 h (by decide)
 rw [Nat.and_one_is_mod] at this;exact this
theorem crcF_take (s:Nat) (xs:List Nat) (k:Nat) (h:k<xs.length):crcF s (xs.take (k+1))=stp (crcF s (xs.take k)) (xs.getD k 0):=by
 rw [List.take_add_one,crcF,List.foldl_append,List.getElem?_eq_getElem h,List.getD_eq_getElem?_getD,List.getElem?_eq_getElem h];rfl
theorem xor_max (n:Nat) (h:n<4294967296):4294967295 ^^^ n=4294967295-n:=by
 have h1:((BitVec.allOnes 32) ^^^ (BitVec.ofNat 32 n)).toNat=(~~~ (BitVec.ofNat 32 n)).toNat:=by rw [BitVec.allOnes_xor]
 rw [BitVec.toNat_xor,BitVec.toNat_not,BitVec.toNat_allOnes,BitVec.toNat_ofNat,Nat.mod_eq_of_lt (show n<2^32 from h)] at h1
 exact h1
theorem not_u32 (n:Nat) (h:n<4294967296):bits .xor .u32 IntKind.u32.max (n:Int)=((4294967295-n:Nat):Int):=by
 rw [show IntKind.u32.max=((4294967295:Nat):Int) from rfl,u32_xor_nat _ _ (by decide) h,xor_max n h]
end Go.Proofs.YtechbdnhalmobaaGreatDoor
