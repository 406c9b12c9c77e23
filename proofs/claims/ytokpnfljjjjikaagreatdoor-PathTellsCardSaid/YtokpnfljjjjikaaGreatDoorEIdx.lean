import Derived.Test.YtokpnfljjjjikaaGreatDoorEStr
namespace Go.Proofs.YtokpnfljjjjikaaGreatDoor
open Go.RowKit Go.Proofs.aj.bO Go.Proofs.aj.cK
def strings_Index.f (s sub:ByteArray):Option Int:=
 if s.size < 4294967281 then some (Lib.index s.data.toList sub.data.toList) else none
theorem strings_Index.calls (a0 a1:ByteArray) (r:Int) (w:World) (hG:aJ w) (h:strings_Index.f a0 a1=some r):
 Calls Tryz.prog 74 #[.string a0,.string a1] w fun e w'=>e= .returned (.int .i64 r)∧iC w w':=by
 unfold strings_Index.f at h
 by_cases hs:a0.size < 4294967281
 case neg=>rw [if_neg hs] at h;cases h
 rw [if_pos hs] at h
 obtain rfl:=Option.some.inj h
 obtain ⟨m,hm⟩:=hG.most
 refine (Tryz.strings_Index a0 a1 m w hs hm).mono ?_
 rintro e w' ⟨rfl,rfl⟩
 exact ⟨rfl,iC.refl _⟩
def Cl (c:UInt8) (s:ByteArray):Int:=Lib.lastIndexByte s (c.toNat:Int)
def iB.f (s sub:ByteArray):Option Int:=
 if h:sub.size=1∧s.size < 4611686018427387904 then some (Cl (sub[0]'ak) s) else none
theorem iB.calls (a0 a1:ByteArray) (r:Int) (w:World) (h:iB.f a0 a1=some r):
 Calls Tryz.prog 46 #[.string a0,.string a1] w fun e w'=>e= .returned (.int .i64 r)∧iC w w':=by
 unfold iB.f at h
 by_cases hs:a1.size=1∧a0.size < 4611686018427387904
 case neg=>rw [dif_neg hs] at h;cases h
 rw [dif_pos hs] at h
 obtain rfl:=Option.some.inj h
 refine (Tryz.strings_LastIndex_one a0 a1 hs.1 hs.2 w).mono ?_
 rintro e w' ⟨rfl,rfl⟩
 exact ⟨rfl,iC.refl _⟩
end Go.Proofs.YtokpnfljjjjikaaGreatDoor
