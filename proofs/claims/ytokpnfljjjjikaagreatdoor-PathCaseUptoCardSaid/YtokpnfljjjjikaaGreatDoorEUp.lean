import Derived.Test.YtokpnfljjjjikaaGreatDoorEStr
namespace Go.Proofs.YtokpnfljjjjikaaGreatDoor
open Go.RowKit Go.Proofs.aj.bw Go.Proofs.aj.cj
def strings_TrimSuffix.f (s sub:ByteArray):Option ByteArray:=
 if s.size≤9223372036854775807 then some (az (Lib.trimSuffix s.data.toList sub.data.toList)) else none
theorem strings_TrimSuffix.calls (a0 a1 r:ByteArray) (w:World) (h:strings_TrimSuffix.f a0 a1=some r):
 Calls Tryz.prog 48 #[.string a0,.string a1] w fun e w'=>e= .returned (.string r)∧fV w w':=by
 unfold strings_TrimSuffix.f at h
 by_cases hs:a0.size≤9223372036854775807
 case neg=>rw [if_neg hs] at h;cases h
 rw [if_pos hs] at h
 obtain rfl:=Option.some.inj h
 refine (Tryz.strings_TrimSuffix a0 a1 w hs).mono ?_
 rintro e w' ⟨rfl,rfl⟩
 exact ⟨rfl,fV.refl _⟩
def eA.f (s:ByteArray):Option ByteArray:=
 if s.size≤140737488355328∧(s.data.toList.all fun b=>decide (b.toNat < 128))=true then some (az (Lib.toUpperA s.data.toList)) else none
theorem eA.calls (a0 r:ByteArray) (w:World) (h:eA.f a0=some r):
 Calls Tryz.prog 50 #[.string a0] w fun e w'=>e= .returned (.string r)∧Below w.heap.size w w':=by
 unfold eA.f at h
 by_cases hs:a0.size≤140737488355328∧(a0.data.toList.all fun b=>decide (b.toNat < 128))=true
 case neg=>rw [if_neg hs] at h;cases h
 rw [if_pos hs] at h
 obtain rfl:=Option.some.inj h
 exact Tryz.strings_ToUpper_ascii a0 w hs.1 fun j b hj=>of_decide_eq_true (List.all_eq_true.mp hs.2 b (List.mem_of_getElem? hj))
end Go.Proofs.YtokpnfljjjjikaaGreatDoor
