import Derived.Test.YtokpnfljjjjikaaGreatDoorEStr
namespace Go.Proofs.YtokpnfljjjjikaaGreatDoor
open Go.RowKit Go.Proofs.aj.bw Go.Proofs.aj.cj
def qP (c:UInt8) (s:ByteArray):Int:=Lib.lastIndexByte s (c.toNat:Int)
def dO.f (s sub:ByteArray):Option Int:=
 if h:sub.size=1∧s.size < 4611686018427387904 then some (qP (sub[0]'ak) s) else none
theorem dO.calls (a0 a1:ByteArray) (r:Int) (w:World) (h:dO.f a0 a1=some r):
 Calls Tryz.prog 46 #[.string a0,.string a1] w fun e w'=>e= .returned (.int .i64 r)∧fV w w':=by
 unfold dO.f at h
 by_cases hs:a1.size=1∧a0.size < 4611686018427387904
 case neg=>rw [dif_neg hs] at h;cases h
 rw [dif_pos hs] at h
 obtain rfl:=Option.some.inj h
 refine (Tryz.strings_LastIndex_one a0 a1 hs.1 hs.2 w).mono ?_
 rintro e w' ⟨rfl,rfl⟩
 exact ⟨rfl,fV.refl _⟩
end Go.Proofs.YtokpnfljjjjikaaGreatDoor
