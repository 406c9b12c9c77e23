import Derived.Test.YtokpnfljjjjikaaGreatDoorEStr
namespace Go.Proofs.YtokpnfljjjjikaaGreatDoor
open Go.RowKit Go.Proofs.aj.bQ Go.Proofs.aj.cM
def strings_Contains.f (s sub:ByteArray):Option Bool:=
 if s.size < 4294967281 then some (Lib.contains s.data.toList sub.data.toList) else none
theorem strings_Contains.calls (a0 a1:ByteArray) (r:Bool) (w:World) (hG:aQ w) (h:strings_Contains.f a0 a1=some r):
 Calls Tryz.prog 40 #[.string a0,.string a1] w fun e w'=>e= .returned (.bool r)∧jr w w':=by
 unfold strings_Contains.f at h
 by_cases hs:a0.size < 4294967281
 case neg=>rw [if_neg hs] at h;cases h
 rw [if_pos hs] at h
 obtain rfl:=Option.some.inj h
 obtain ⟨m,hm⟩:=hG.most
 refine (Tryz.strings_Contains a0 a1 m w hs hm).mono ?_
 rintro e w' ⟨rfl,rfl⟩
 exact ⟨rfl,jr.refl _⟩
def strings_Replace.f (s old new:ByteArray) (n:Int):Option ByteArray:=
 if s.size < 4294967281∧1≤old.size∧s.size + Lib.countB s old * new.size≤140737488355328 then some (au (Lib.replace s.data.toList old.data.toList new.data.toList n)) else none
theorem strings_Replace.calls (a0 a1 a2:ByteArray) (a3:Int) (r:ByteArray) (w:World) (hG:aQ w) (h:strings_Replace.f a0 a1 a2 a3=some r):
 Calls Tryz.prog 41 #[.string a0,.string a1,.string a2,.int .i64 a3] w fun e w'=>e= .returned (.string r)∧Below w.heap.size w w':=by
 unfold strings_Replace.f at h
 by_cases hs:a0.size < 4294967281∧1≤a1.size∧a0.size + Lib.countB a0 a1 * a2.size≤140737488355328
 case neg=>rw [if_neg hs] at h;cases h
 rw [if_pos hs] at h
 obtain rfl:=Option.some.inj h
 obtain ⟨m,hm⟩:=hG.most
 exact Tryz.strings_Replace a0 a1 a2 a3 m w hs.1 hm hs.2.1 hs.2.2
end Go.Proofs.YtokpnfljjjjikaaGreatDoor
