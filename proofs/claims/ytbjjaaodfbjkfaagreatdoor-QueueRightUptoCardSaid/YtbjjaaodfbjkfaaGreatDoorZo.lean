import Derived.Test.YtbjjaaodfbjkfaaGreatDoorProg
import Derived.Deep.AppendLies
import Derived.Deep.OwnRows
import Derived.Lib.ConvBytes
import Derived.WalkKit
import Derived.BigQuiet
import Derived.Deep.DeepCutAuto
import Derived.Deep.CutBlock
import Derived.Deep.RegionHeld3
import Derived.Lib.AppendStr
set_option linter.unusedVariables false
namespace Go.Proofs
theorem aJ {p:Prop} (h:p:=by repeat ((with_reducible exact HB.out))):p:=h
theorem bI {p:Prop} (h:p:=by rw [hg];exact (cg (by repeat ((with_reducible exact HB.out))))):p:=h
theorem ZW {p:Prop} (h:p:=by refine aZ (cs:=#[.int .i64 ((aj l0 aH).f0),.bool ((aj l0 aH).f1.f0),.slice fL ((aj l0 aH).f1.f1).length fM,.string ((aj l0 aH).f1.f2.f0),.string ((aj l0 aH).f1.f2.f1),.bool ((aj l0 aH).f1.f2.f2),.slice gP ((aj l0 aH).f2).length gQ,.slice iG ((aj l0 aH).f3).length iH,.int .i64 0]) ?_ 8 _ rfl;refine aZ (cs:=#[.int .i64 ((aj l0 aH).f0),.bool ((aj l0 aH).f1.f0),.slice fL ((aj l0 aH).f1.f1).length fM,.string ((aj l0 aH).f1.f2.f0),.string ((aj l0 aH).f1.f2.f1),.bool ((aj l0 aH).f1.f2.f2),.slice gP ((aj l0 aH).f2).length gQ,.slice none 0 0,.int .i64 0]) ?_ 7 _ rfl;refine aZ (cs:=#[.int .i64 ((aj l0 aH).f0),.bool ((aj l0 aH).f1.f0),.slice fL ((aj l0 aH).f1.f1).length fM,.string ((aj l0 aH).f1.f2.f0),.string ((aj l0 aH).f1.f2.f1),.bool ((aj l0 aH).f1.f2.f2),.slice none 0 0,.slice none 0 0,.int .i64 0]) ?_ 6 _ rfl;refine aZ (cs:=#[.int .i64 ((aj l0 aH).f0),.bool ((aj l0 aH).f1.f0),.slice fL ((aj l0 aH).f1.f1).length fM,.string ((aj l0 aH).f1.f2.f0),.string ((aj l0 aH).f1.f2.f1),.bool false,.slice none 0 0,.slice none 0 0,.int .i64 0]) ?_ 5 _ rfl;refine aZ (cs:=#[.int .i64 ((aj l0 aH).f0),.bool ((aj l0 aH).f1.f0),.slice fL ((aj l0 aH).f1.f1).length fM,.string ((aj l0 aH).f1.f2.f0),.string (⟨#[]⟩:ByteArray),.bool false,.slice none 0 0,.slice none 0 0,.int .i64 0]) ?_ 4 _ rfl;refine aZ (cs:=#[.int .i64 ((aj l0 aH).f0),.bool ((aj l0 aH).f1.f0),.slice fL ((aj l0 aH).f1.f1).length fM,.string (⟨#[]⟩:ByteArray),.string (⟨#[]⟩:ByteArray),.bool false,.slice none 0 0,.slice none 0 0,.int .i64 0]) ?_ 3 _ rfl;refine aZ (cs:=#[.int .i64 ((aj l0 aH).f0),.bool ((aj l0 aH).f1.f0),.slice none 0 0,.string (⟨#[]⟩:ByteArray),.string (⟨#[]⟩:ByteArray),.bool false,.slice none 0 0,.slice none 0 0,.int .i64 0]) ?_ 2 _ rfl;refine aZ (cs:=#[.int .i64 ((aj l0 aH).f0),.bool false,.slice none 0 0,.string (⟨#[]⟩:ByteArray),.string (⟨#[]⟩:ByteArray),.bool false,.slice none 0 0,.slice none 0 0,.int .i64 0]) ?_ 1 _ rfl;refine aZ (cs:=#[.int .i64 0,.bool false,.slice none 0 0,.string (⟨#[]⟩:ByteArray),.string (⟨#[]⟩:ByteArray),.bool false,.slice none 0 0,.slice none 0 0,.int .i64 0]) ?_ 0 _ rfl;exact dN.out):p:=h
theorem cL {p:Prop} (h:p:=by simp only [Act.put,List.setIfInBounds_toArray,List.set_cons_zero,List.set_cons_succ,aU,aV];rfl):p:=h
theorem aq {p:Prop} (h:p:=by kernel_rfl):p:=h
theorem dI {p:Prop} (h:p:=by (try simp only [List.map_toArray,List.map_cons,List.map_nil]);rfl):p:=h
theorem RO {p:Prop} (h:p:=by refine aZ (cs:=#[.int .i64 ((aj aD dg).f0),.bool ((aj aD dg).f1.f0),.slice mV ((aj aD dg).f1.f1).length mW,.string ((aj aD dg).f1.f2.f0),.string ((aj aD dg).f1.f2.f1),.bool ((aj aD dg).f1.f2.f2),.slice qa ((aj aD dg).f2).length qb,.slice qM ((aj aD dg).f3).length qN,.int .i64 0]) ?_ 8 _ rfl;refine aZ (cs:=#[.int .i64 ((aj aD dg).f0),.bool ((aj aD dg).f1.f0),.slice mV ((aj aD dg).f1.f1).length mW,.string ((aj aD dg).f1.f2.f0),.string ((aj aD dg).f1.f2.f1),.bool ((aj aD dg).f1.f2.f2),.slice qa ((aj aD dg).f2).length qb,.slice none 0 0,.int .i64 0]) ?_ 7 _ rfl;refine aZ (cs:=#[.int .i64 ((aj aD dg).f0),.bool ((aj aD dg).f1.f0),.slice mV ((aj aD dg).f1.f1).length mW,.string ((aj aD dg).f1.f2.f0),.string ((aj aD dg).f1.f2.f1),.bool ((aj aD dg).f1.f2.f2),.slice none 0 0,.slice none 0 0,.int .i64 0]) ?_ 6 _ rfl;refine aZ (cs:=#[.int .i64 ((aj aD dg).f0),.bool ((aj aD dg).f1.f0),.slice mV ((aj aD dg).f1.f1).length mW,.string ((aj aD dg).f1.f2.f0),.string ((aj aD dg).f1.f2.f1),.bool false,.slice none 0 0,.slice none 0 0,.int .i64 0]) ?_ 5 _ rfl;refine aZ (cs:=#[.int .i64 ((aj aD dg).f0),.bool ((aj aD dg).f1.f0),.slice mV ((aj aD dg).f1.f1).length mW,.string ((aj aD dg).f1.f2.f0),.string (⟨#[]⟩:ByteArray),.bool false,.slice none 0 0,.slice none 0 0,.int .i64 0]) ?_ 4 _ rfl;refine aZ (cs:=#[.int .i64 ((aj aD dg).f0),.bool ((aj aD dg).f1.f0),.slice mV ((aj aD dg).f1.f1).length mW,.string (⟨#[]⟩:ByteArray),.string (⟨#[]⟩:ByteArray),.bool false,.slice none 0 0,.slice none 0 0,.int .i64 0]) ?_ 3 _ rfl;refine aZ (cs:=#[.int .i64 ((aj aD dg).f0),.bool ((aj aD dg).f1.f0),.slice none 0 0,.string (⟨#[]⟩:ByteArray),.string (⟨#[]⟩:ByteArray),.bool false,.slice none 0 0,.slice none 0 0,.int .i64 0]) ?_ 2 _ rfl;refine aZ (cs:=#[.int .i64 ((aj aD dg).f0),.bool false,.slice none 0 0,.string (⟨#[]⟩:ByteArray),.string (⟨#[]⟩:ByteArray),.bool false,.slice none 0 0,.slice none 0 0,.int .i64 0]) ?_ 1 _ rfl;refine aZ (cs:=#[.int .i64 0,.bool false,.slice none 0 0,.string (⟨#[]⟩:ByteArray),.string (⟨#[]⟩:ByteArray),.bool false,.slice none 0 0,.slice none 0 0,.int .i64 0]) ?_ 0 _ rfl;exact dw.out):p:=h
theorem dY {p:Prop} (h:p:=by repeat ((with_reducible first|exact HB.out|apply fX))):p:=h
theorem cD {p:Prop} (h:p:=by intro w';go_simp;with_reducible rfl):p:=h
theorem ZX {p:Prop} (h:p:=by rw [hg];exact Nat.ne_of_lt (dQ (g:=bC) (o:= .cells #[.int .i64 ((aj l0 aH).f0),.bool ((aj l0 aH).f1.f0),.slice fL ((aj l0 aH).f1.f1).length fM,.string ((aj l0 aH).f1.f2.f0),.string ((aj l0 aH).f1.f2.f1),.bool ((aj l0 aH).f1.f2.f2),.slice gP ((aj l0 aH).f2).length gQ,.slice iG ((aj l0 aH).f3).length iH,.int .i64 ((aj l0 aH).f4)] 34 (0,0)) (by refine aZ (cs:=#[.int .i64 ((aj l0 aH).f0),.bool ((aj l0 aH).f1.f0),.slice fL ((aj l0 aH).f1.f1).length fM,.string ((aj l0 aH).f1.f2.f0),.string ((aj l0 aH).f1.f2.f1),.bool ((aj l0 aH).f1.f2.f2),.slice gP ((aj l0 aH).f2).length gQ,.slice iG ((aj l0 aH).f3).length iH,.int .i64 0]) ?_ 8 _ rfl;refine aZ (cs:=#[.int .i64 ((aj l0 aH).f0),.bool ((aj l0 aH).f1.f0),.slice fL ((aj l0 aH).f1.f1).length fM,.string ((aj l0 aH).f1.f2.f0),.string ((aj l0 aH).f1.f2.f1),.bool ((aj l0 aH).f1.f2.f2),.slice gP ((aj l0 aH).f2).length gQ,.slice none 0 0,.int .i64 0]) ?_ 7 _ rfl;refine aZ (cs:=#[.int .i64 ((aj l0 aH).f0),.bool ((aj l0 aH).f1.f0),.slice fL ((aj l0 aH).f1.f1).length fM,.string ((aj l0 aH).f1.f2.f0),.string ((aj l0 aH).f1.f2.f1),.bool ((aj l0 aH).f1.f2.f2),.slice none 0 0,.slice none 0 0,.int .i64 0]) ?_ 6 _ rfl;refine aZ (cs:=#[.int .i64 ((aj l0 aH).f0),.bool ((aj l0 aH).f1.f0),.slice fL ((aj l0 aH).f1.f1).length fM,.string ((aj l0 aH).f1.f2.f0),.string ((aj l0 aH).f1.f2.f1),.bool false,.slice none 0 0,.slice none 0 0,.int .i64 0]) ?_ 5 _ rfl;refine aZ (cs:=#[.int .i64 ((aj l0 aH).f0),.bool ((aj l0 aH).f1.f0),.slice fL ((aj l0 aH).f1.f1).length fM,.string ((aj l0 aH).f1.f2.f0),.string (⟨#[]⟩:ByteArray),.bool false,.slice none 0 0,.slice none 0 0,.int .i64 0]) ?_ 4 _ rfl;refine aZ (cs:=#[.int .i64 ((aj l0 aH).f0),.bool ((aj l0 aH).f1.f0),.slice fL ((aj l0 aH).f1.f1).length fM,.string (⟨#[]⟩:ByteArray),.string (⟨#[]⟩:ByteArray),.bool false,.slice none 0 0,.slice none 0 0,.int .i64 0]) ?_ 3 _ rfl;refine aZ (cs:=#[.int .i64 ((aj l0 aH).f0),.bool ((aj l0 aH).f1.f0),.slice none 0 0,.string (⟨#[]⟩:ByteArray),.string (⟨#[]⟩:ByteArray),.bool false,.slice none 0 0,.slice none 0 0,.int .i64 0]) ?_ 2 _ rfl;refine aZ (cs:=#[.int .i64 ((aj l0 aH).f0),.bool false,.slice none 0 0,.string (⟨#[]⟩:ByteArray),.string (⟨#[]⟩:ByteArray),.bool false,.slice none 0 0,.slice none 0 0,.int .i64 0]) ?_ 1 _ rfl;refine aZ (cs:=#[.int .i64 0,.bool false,.slice none 0 0,.string (⟨#[]⟩:ByteArray),.string (⟨#[]⟩:ByteArray),.bool false,.slice none 0 0,.slice none 0 0,.int .i64 0]) ?_ 0 _ rfl;exact dN.out))):p:=h
theorem RP {p:Prop} (h:p:=by rw [hg];exact Nat.ne_of_gt (dQ (g:=bC) (o:= .cells #[.int .i64 ((aj l0 aH).f0),.bool ((aj l0 aH).f1.f0),.slice fL ((aj l0 aH).f1.f1).length fM,.string ((aj l0 aH).f1.f2.f0),.string ((aj l0 aH).f1.f2.f1),.bool ((aj l0 aH).f1.f2.f2),.slice gP ((aj l0 aH).f2).length gQ,.slice iG ((aj l0 aH).f3).length iH,.int .i64 ((aj l0 aH).f4)] 34 (0,0)) (by refine aZ (cs:=#[.int .i64 ((aj l0 aH).f0),.bool ((aj l0 aH).f1.f0),.slice fL ((aj l0 aH).f1.f1).length fM,.string ((aj l0 aH).f1.f2.f0),.string ((aj l0 aH).f1.f2.f1),.bool ((aj l0 aH).f1.f2.f2),.slice gP ((aj l0 aH).f2).length gQ,.slice iG ((aj l0 aH).f3).length iH,.int .i64 0]) ?_ 8 _ rfl;refine aZ (cs:=#[.int .i64 ((aj l0 aH).f0),.bool ((aj l0 aH).f1.f0),.slice fL ((aj l0 aH).f1.f1).length fM,.string ((aj l0 aH).f1.f2.f0),.string ((aj l0 aH).f1.f2.f1),.bool ((aj l0 aH).f1.f2.f2),.slice gP ((aj l0 aH).f2).length gQ,.slice none 0 0,.int .i64 0]) ?_ 7 _ rfl;refine aZ (cs:=#[.int .i64 ((aj l0 aH).f0),.bool ((aj l0 aH).f1.f0),.slice fL ((aj l0 aH).f1.f1).length fM,.string ((aj l0 aH).f1.f2.f0),.string ((aj l0 aH).f1.f2.f1),.bool ((aj l0 aH).f1.f2.f2),.slice none 0 0,.slice none 0 0,.int .i64 0]) ?_ 6 _ rfl;refine aZ (cs:=#[.int .i64 ((aj l0 aH).f0),.bool ((aj l0 aH).f1.f0),.slice fL ((aj l0 aH).f1.f1).length fM,.string ((aj l0 aH).f1.f2.f0),.string ((aj l0 aH).f1.f2.f1),.bool false,.slice none 0 0,.slice none 0 0,.int .i64 0]) ?_ 5 _ rfl;refine aZ (cs:=#[.int .i64 ((aj l0 aH).f0),.bool ((aj l0 aH).f1.f0),.slice fL ((aj l0 aH).f1.f1).length fM,.string ((aj l0 aH).f1.f2.f0),.string (⟨#[]⟩:ByteArray),.bool false,.slice none 0 0,.slice none 0 0,.int .i64 0]) ?_ 4 _ rfl;refine aZ (cs:=#[.int .i64 ((aj l0 aH).f0),.bool ((aj l0 aH).f1.f0),.slice fL ((aj l0 aH).f1.f1).length fM,.string (⟨#[]⟩:ByteArray),.string (⟨#[]⟩:ByteArray),.bool false,.slice none 0 0,.slice none 0 0,.int .i64 0]) ?_ 3 _ rfl;refine aZ (cs:=#[.int .i64 ((aj l0 aH).f0),.bool ((aj l0 aH).f1.f0),.slice none 0 0,.string (⟨#[]⟩:ByteArray),.string (⟨#[]⟩:ByteArray),.bool false,.slice none 0 0,.slice none 0 0,.int .i64 0]) ?_ 2 _ rfl;refine aZ (cs:=#[.int .i64 ((aj l0 aH).f0),.bool false,.slice none 0 0,.string (⟨#[]⟩:ByteArray),.string (⟨#[]⟩:ByteArray),.bool false,.slice none 0 0,.slice none 0 0,.int .i64 0]) ?_ 1 _ rfl;refine aZ (cs:=#[.int .i64 0,.bool false,.slice none 0 0,.string (⟨#[]⟩:ByteArray),.string (⟨#[]⟩:ByteArray),.bool false,.slice none 0 0,.slice none 0 0,.int .i64 0]) ?_ 0 _ rfl;exact dN.out))):p:=h
theorem cu {p:Prop} (h:p:=by (with_reducible assumption)):p:=h
theorem RQ {p:Prop} (h:p:=by refine aZ (cs:=#[.int .i64 ((aj aD cw).f0),.bool ((aj aD cw).f1.f0),.slice om ((aj aD cw).f1.f1).length oo,.string ((aj aD cw).f1.f2.f0),.string ((aj aD cw).f1.f2.f1),.bool ((aj aD cw).f1.f2.f2),.slice sB ((aj aD cw).f2).length sD,.slice tM ((aj aD cw).f3).length tN,.int .i64 0]) ?_ 8 _ rfl;refine aZ (cs:=#[.int .i64 ((aj aD cw).f0),.bool ((aj aD cw).f1.f0),.slice om ((aj aD cw).f1.f1).length oo,.string ((aj aD cw).f1.f2.f0),.string ((aj aD cw).f1.f2.f1),.bool ((aj aD cw).f1.f2.f2),.slice sB ((aj aD cw).f2).length sD,.slice none 0 0,.int .i64 0]) ?_ 7 _ rfl;refine aZ (cs:=#[.int .i64 ((aj aD cw).f0),.bool ((aj aD cw).f1.f0),.slice om ((aj aD cw).f1.f1).length oo,.string ((aj aD cw).f1.f2.f0),.string ((aj aD cw).f1.f2.f1),.bool ((aj aD cw).f1.f2.f2),.slice none 0 0,.slice none 0 0,.int .i64 0]) ?_ 6 _ rfl;refine aZ (cs:=#[.int .i64 ((aj aD cw).f0),.bool ((aj aD cw).f1.f0),.slice om ((aj aD cw).f1.f1).length oo,.string ((aj aD cw).f1.f2.f0),.string ((aj aD cw).f1.f2.f1),.bool false,.slice none 0 0,.slice none 0 0,.int .i64 0]) ?_ 5 _ rfl;refine aZ (cs:=#[.int .i64 ((aj aD cw).f0),.bool ((aj aD cw).f1.f0),.slice om ((aj aD cw).f1.f1).length oo,.string ((aj aD cw).f1.f2.f0),.string (⟨#[]⟩:ByteArray),.bool false,.slice none 0 0,.slice none 0 0,.int .i64 0]) ?_ 4 _ rfl;refine aZ (cs:=#[.int .i64 ((aj aD cw).f0),.bool ((aj aD cw).f1.f0),.slice om ((aj aD cw).f1.f1).length oo,.string (⟨#[]⟩:ByteArray),.string (⟨#[]⟩:ByteArray),.bool false,.slice none 0 0,.slice none 0 0,.int .i64 0]) ?_ 3 _ rfl;refine aZ (cs:=#[.int .i64 ((aj aD cw).f0),.bool ((aj aD cw).f1.f0),.slice none 0 0,.string (⟨#[]⟩:ByteArray),.string (⟨#[]⟩:ByteArray),.bool false,.slice none 0 0,.slice none 0 0,.int .i64 0]) ?_ 2 _ rfl;refine aZ (cs:=#[.int .i64 ((aj aD cw).f0),.bool false,.slice none 0 0,.string (⟨#[]⟩:ByteArray),.string (⟨#[]⟩:ByteArray),.bool false,.slice none 0 0,.slice none 0 0,.int .i64 0]) ?_ 1 _ rfl;refine aZ (cs:=#[.int .i64 0,.bool false,.slice none 0 0,.string (⟨#[]⟩:ByteArray),.string (⟨#[]⟩:ByteArray),.bool false,.slice none 0 0,.slice none 0 0,.int .i64 0]) ?_ 0 _ rfl;exact fE.out):p:=h
theorem RR {p:Prop} (h:p:=by refine aZ (cs:=#[.int .i64 ((aj l1 aH).f0),.bool ((aj l1 aH).f1.f0),.slice tO ((aj l1 aH).f1.f1).length tP,.string ((aj l1 aH).f1.f2.f0),.string ((aj l1 aH).f1.f2.f1),.bool ((aj l1 aH).f1.f2.f2),.slice Da ((aj l1 aH).f2).length Db,.slice FE ((aj l1 aH).f3).length FH,.int .i64 0]) ?_ 8 _ rfl;refine aZ (cs:=#[.int .i64 ((aj l1 aH).f0),.bool ((aj l1 aH).f1.f0),.slice tO ((aj l1 aH).f1.f1).length tP,.string ((aj l1 aH).f1.f2.f0),.string ((aj l1 aH).f1.f2.f1),.bool ((aj l1 aH).f1.f2.f2),.slice Da ((aj l1 aH).f2).length Db,.slice none 0 0,.int .i64 0]) ?_ 7 _ rfl;refine aZ (cs:=#[.int .i64 ((aj l1 aH).f0),.bool ((aj l1 aH).f1.f0),.slice tO ((aj l1 aH).f1.f1).length tP,.string ((aj l1 aH).f1.f2.f0),.string ((aj l1 aH).f1.f2.f1),.bool ((aj l1 aH).f1.f2.f2),.slice none 0 0,.slice none 0 0,.int .i64 0]) ?_ 6 _ rfl;refine aZ (cs:=#[.int .i64 ((aj l1 aH).f0),.bool ((aj l1 aH).f1.f0),.slice tO ((aj l1 aH).f1.f1).length tP,.string ((aj l1 aH).f1.f2.f0),.string ((aj l1 aH).f1.f2.f1),.bool false,.slice none 0 0,.slice none 0 0,.int .i64 0]) ?_ 5 _ rfl;refine aZ (cs:=#[.int .i64 ((aj l1 aH).f0),.bool ((aj l1 aH).f1.f0),.slice tO ((aj l1 aH).f1.f1).length tP,.string ((aj l1 aH).f1.f2.f0),.string (⟨#[]⟩:ByteArray),.bool false,.slice none 0 0,.slice none 0 0,.int .i64 0]) ?_ 4 _ rfl;refine aZ (cs:=#[.int .i64 ((aj l1 aH).f0),.bool ((aj l1 aH).f1.f0),.slice tO ((aj l1 aH).f1.f1).length tP,.string (⟨#[]⟩:ByteArray),.string (⟨#[]⟩:ByteArray),.bool false,.slice none 0 0,.slice none 0 0,.int .i64 0]) ?_ 3 _ rfl;refine aZ (cs:=#[.int .i64 ((aj l1 aH).f0),.bool ((aj l1 aH).f1.f0),.slice none 0 0,.string (⟨#[]⟩:ByteArray),.string (⟨#[]⟩:ByteArray),.bool false,.slice none 0 0,.slice none 0 0,.int .i64 0]) ?_ 2 _ rfl;refine aZ (cs:=#[.int .i64 ((aj l1 aH).f0),.bool false,.slice none 0 0,.string (⟨#[]⟩:ByteArray),.string (⟨#[]⟩:ByteArray),.bool false,.slice none 0 0,.slice none 0 0,.int .i64 0]) ?_ 1 _ rfl;refine aZ (cs:=#[.int .i64 0,.bool false,.slice none 0 0,.string (⟨#[]⟩:ByteArray),.string (⟨#[]⟩:ByteArray),.bool false,.slice none 0 0,.slice none 0 0,.int .i64 0]) ?_ 0 _ rfl;exact iJ.out):p:=h
theorem aA {p:Prop} (h:p:=by omega):p:=h
theorem K2 {p:Prop} (h:p:=by exact Kd.dH (Kd.bw (p:=⟨gM,5,none⟩) (Kd.bw (p:=⟨gM,4,none⟩) (Kd.bw (p:=⟨gM,3,none⟩) (Kd.bw (p:=⟨gM,2,none⟩) (Kd.bw (p:=⟨gM,1,none⟩) (Kd.bw (p:=⟨gM,0,none⟩) (Kd.dD Bz.out gZ.out (by decide)) (fun _ hk=>hk.2) (.string ((bR ((aj aD bz).f2) gy).f0.f0))) (fun _ hk=>hk.2) (.string ((bR ((aj aD bz).f2) gy).f0.f1))) (fun _ hk=>hk.2) (.bool ((bR ((aj aD bz).f2) gy).f0.f2))) (fun _ hk=>hk.2) (.int .u8 ((bR ((aj aD bz).f2) gy).f1))) (fun _ hk=>hk.2) (.int .i64 ((bR ((aj aD bz).f2) gy).f2))) (fun _ hk=>hk.2) (.int .i64 ((bR ((aj aD bz).f2) gy).f3))) (fun _ hk=>trivial)):p:=h
theorem tQ {p:Prop} (h:p:=by rintro w' ⟨s0,s1,s2,s3,s4,s5,s6,s7,s8,s9,Ez,EC,s12,EP,ER,ES,ET,EU,EW,s19,s20,s21,s22,s23,s24,s25,s26,s27,s28,s29⟩;go_simp;with_reducible rfl):p:=h
theorem bB {p:Prop} (h:p:=by decide):p:=h
theorem lV {p:Prop} (h:p:=by have:=World.block_lt_of_cell? _ _ ez;rwa [add_block] at this):p:=h
theorem kI {p:Prop} (h:p:=by repeat (first|exact ij.refl _|apply ij.step)):p:=h
theorem nG {p:Prop} (h:p:=by repeat ((with_reducible first|exact HB.out|refine cG ?_ RS.out))):p:=h
theorem RT {p:Prop} (h:p:=by exact (Kd.fB (Kd.cB (p:=⟨bA,12,none⟩) (Kd.cB (p:=⟨bA,11,none⟩) (Kd.cB (p:=⟨bA,10,none⟩) (Kd.cB (p:=⟨bA,9,none⟩) (Kd.cB (p:=⟨bA,8,none⟩) (Kd.cB (p:=⟨bA,7,none⟩) (Kd.cB (p:=⟨bA,6,none⟩) (Kd.cB (p:=⟨bA,5,none⟩) (Kd.cB (p:=⟨bA,4,none⟩) (Kd.cB (p:=⟨bA,3,none⟩) (Kd.cB (p:=⟨bA,2,none⟩) (Kd.cB (p:=⟨bA,1,none⟩) (Kd.cB (p:=⟨bA,0,none⟩) (Kd.gA mD.out eB.out (by decide)) (fun _ hk=>hk.2) (.int .u8 nY)) (fun _ hk=>hk.2) (.int .i64 oq)) (fun _ hk=>hk.2) (.int .i64 o7)) (fun _ hk=>hk.2) (.int .i64 pE)) (fun _ hk=>hk.2) (.int .i64 pR)) (fun _ hk=>hk.2) (.bool qc)) (fun _ hk=>hk.2) (.slice qd qg.length qh)) (fun _ hk=>hk.2) (.string qO)) (fun _ hk=>hk.2) (.string q9)) (fun _ hk=>hk.2) (.bool sF)) (fun _ hk=>hk.2) (.slice sS sG.length sU)) (fun _ hk=>hk.2) (.slice tR sV.length tS)) (fun _ hk=>hk.2) (.int .i64 vF)) (fun _ h_ =>h_.1))):p:=h
theorem ot {p:Prop} (h:p:=by repeat ((with_reducible first|exact HB.out|refine cG ?_ ZY.out))):p:=h
theorem RU {p:Prop} (h:p:=by exact (Kd.dH (Kd.bw (p:=⟨gD,8,none⟩) (Kd.bw (p:=⟨gD,7,none⟩) (Kd.bw (p:=⟨gD,6,none⟩) (Kd.bw (p:=⟨gD,5,none⟩) (Kd.bw (p:=⟨gD,4,none⟩) (Kd.bw (p:=⟨gD,3,none⟩) (Kd.bw (p:=⟨gD,2,none⟩) (Kd.bw (p:=⟨gD,1,none⟩) (Kd.bw (p:=⟨gD,0,none⟩) (Kd.dD z7.out fE.out (by decide)) (fun _ hk=>hk.2) (.int .i64 ((aj aD cw).f0))) (fun _ hk=>hk.2) (.bool ((aj aD cw).f1.f0))) (fun _ hk=>hk.2) (.slice om ((aj aD cw).f1.f1).length oo)) (fun _ hk=>hk.2) (.string ((aj aD cw).f1.f2.f0))) (fun _ hk=>hk.2) (.string ((aj aD cw).f1.f2.f1))) (fun _ hk=>hk.2) (.bool ((aj aD cw).f1.f2.f2))) (fun _ hk=>hk.2) (.slice sB ((aj aD cw).f2).length sD)) (fun _ hk=>hk.2) (.slice tM ((aj aD cw).f3).length tN)) (fun _ hk=>hk.2) (.int .i64 ((aj aD cw).f4))) (fun _ h_ =>h_.1))):p:=h
theorem pF {p:Prop} (h:p:=by rintro w' ⟨s0,s1,s2,s3,s4,s5,s6,s7,s8⟩;go_simp;with_reducible rfl):p:=h
theorem jV {p:Prop} (h:p:=by repeat ((with_reducible exact HK.out))):p:=h
theorem K3 {p:Prop} (h:p:=by refine aW ?_ jr.out _;refine aW ?_ jr.out _;refine aW ?_ jr.out _;refine aW ?_ jr.out _;refine aW ?_ jr.out _;refine aW ?_ jr.out _;refine aW ?_ jr.out _;refine aW ?_ jr.out _;refine aW ?_ jr.out _;exact kT.out):p:=h
theorem vL {p:Prop} (h:p:=by repeat ((with_reducible first|exact HB.out|refine cG ?_ ZZ.out))):p:=h
theorem sH {p:Prop} (h:p:=by (with_reducible repeat (apply Kd.MT));exact fF.out):p:=h
theorem lW {p:Prop} (h:p:=by (rw [add_block];exact BG)):p:=h
theorem lX {p:Prop} (h:p:=by (rw [add_block];exact BH)):p:=h
theorem lY {p:Prop} (h:p:=by (rw [add_block];exact BI)):p:=h
theorem lZ {p:Prop} (h:p:=by (rw [add_block];exact BJ)):p:=h
theorem l5 {p:Prop} (h:p:=by (rw [add_block];exact BK)):p:=h
theorem l8 {p:Prop} (h:p:=by (rw [add_block];exact BL)):p:=h
theorem l9 {p:Prop} (h:p:=by (rw [add_block];exact BM)):p:=h
theorem mg {p:Prop} (h:p:=by (rw [add_block];exact BN)):p:=h
theorem mh {p:Prop} (h:p:=by (rw [add_block];exact BO)):p:=h
theorem tT {p:Prop} (h:p:=by simp only [List.map_toArray,List.map_cons,List.map_nil];rfl):p:=h
theorem K4 {p:Prop} (h:p:=by exact (Kd.fB (Kd.cB (p:=⟨iO,1,none⟩) (Kd.cB (p:=⟨iO,0,none⟩) (Kd.gA mD.out iK.out (by decide)) (fun _ hk=>hk.2) (.int .i64 t341)) (fun _ hk=>hk.2) (.slice tU pS.length rq)) (fun _ h_ =>h_.1))):p:=h
theorem K5 {p:Prop} (h:p:=by exact (Kd.fB (Kd.cB (p:=⟨jl,1,none⟩) (Kd.cB (p:=⟨jl,0,none⟩) (Kd.gA mD.out kf.out (by decide)) (fun _ hk=>hk.2) (.int .i64 xH)) (fun _ hk=>hk.2) (.slice xg vM.length xh)) (fun _ h_ =>h_.1))):p:=h
theorem K6 {p:Prop} (h:p:=by exact (Kd.fB (Kd.cB (p:=⟨iP,1,none⟩) (Kd.cB (p:=⟨iP,0,none⟩) (Kd.gA qP.out kg.out (by decide)) (fun _ hk=>hk.2) (.int .i64 vG)) (fun _ hk=>hk.2) (.slice xj tV.length vN)) (fun _ h_ =>h_.1))):p:=h
theorem mj {p:Prop} (h:p:=by repeat (exact ij.refl _)):p:=h
theorem K7 {p:Prop} (h:p:=by refine aW ?_ kU.out _;refine aW ?_ kU.out _;refine aW ?_ kU.out _;refine aW ?_ kU.out _;refine aW ?_ kU.out _;refine aW ?_ kU.out _;exact pT.out):p:=h
theorem K8 {p:Prop} (h:p:=by refine aW ?_ kV.out _;refine aW ?_ kV.out _;refine aW ?_ kV.out _;refine aW ?_ kV.out _;refine aW ?_ kV.out _;refine aW ?_ kV.out _;exact gF.out):p:=h
theorem lI {p:Prop} (h:p:=by have:=qi.out;omega):p:=h
theorem RV {p:Prop} (h:p:=by repeat ((with_reducible first|exact HB.out|refine cG ?_ RX.out))):p:=h
theorem sI {p:Prop} (h:p:=by repeat ((with_reducible exact rz.out))):p:=h
theorem jE {p:Prop} (h:p:=by exact av.out):p:=h
theorem xI {p:Prop} (h:p:=by rw [hg];exact Nat.ne_of_lt (dQ (by exact cr.out))):p:=h
theorem xJ {p:Prop} (h:p:=by rw [hg];exact Nat.ne_of_gt (dQ (by exact cr.out))):p:=h
theorem FI {p:Prop} (h:p:=by rw [hg];exact (cg (by repeat ((with_reducible first|exact HB.out|refine cG ?_ RX.out))))):p:=h
theorem xK {p:Prop} (h:p:=by rintro w' ⟨s0,s1,s2⟩;go_simp;with_reducible rfl):p:=h
theorem RY {p:Prop} (h:p:=by refine aW ?_ kr.out _;refine aW ?_ kr.out _;refine aW ?_ kr.out _;refine aW ?_ kr.out _;refine aW ?_ kr.out _;refine aW ?_ kr.out _;refine aW ?_ kr.out _;refine aW ?_ kr.out _;refine aW ?_ kr.out _;exact sW.out):p:=h
theorem RZ {p:Prop} (h:p:=by refine aW ?_ ku.out _;refine aW ?_ ku.out _;refine aW ?_ ku.out _;refine aW ?_ ku.out _;refine aW ?_ ku.out _;refine aW ?_ ku.out _;refine aW ?_ ku.out _;refine aW ?_ ku.out _;refine aW ?_ ku.out _;exact dN.out):p:=h
theorem cP {p:Prop} (h:p:=by simp):p:=h
theorem xL {p:Prop} (h:p:=by exact cr.out):p:=h
theorem sJ {p:Prop} (h:p:=by exact cz.out):p:=h
theorem tW {p:Prop} (h:p:=by exact ia.out):p:=h
theorem R3 {p:Prop} (h:p:=by exact (Kd.fB (Kd.cB (p:=⟨jm,1,none⟩) (Kd.cB (p:=⟨jm,0,none⟩) (Kd.gA kW.out ia.out (by decide)) (fun _ hk=>hk.2) (.int .i64 t332)) (fun _ hk=>hk.2) (.slice sX t333.length sK)) (fun _ h_ =>h_.1))):p:=h
theorem R4 {p:Prop} (h:p:=by exact (Kd.fB (Kd.cB (p:=⟨iO,1,none⟩) (Kd.cB (p:=⟨iO,0,none⟩) (Kd.gA kC.out iK.out (by decide)) (fun _ hk=>hk.2) (.int .i64 t341)) (fun _ hk=>hk.2) (.slice tU pS.length rq)) (fun _ h_ =>h_.1))):p:=h
theorem R5 {p:Prop} (h:p:=by exact (Kd.dH (Kd.bw (p:=⟨iO,1,none⟩) (Kd.bw (p:=⟨iO,0,none⟩) (Kd.dD kN.out iK.out (by decide)) (fun _ hk=>hk.2) (.int .i64 t341)) (fun _ hk=>hk.2) (.slice tU pS.length rq)) (fun _ h_ =>h_.1))):p:=h
theorem R6 {p:Prop} (h:p:=by exact (Kd.dH (Kd.bw (p:=⟨iO,1,none⟩) (Kd.bw (p:=⟨iO,0,none⟩) (Kd.dD kX.out iK.out (by decide)) (fun _ hk=>hk.2) (.int .i64 t341)) (fun _ hk=>hk.2) (.slice tU pS.length rq)) (fun _ h_ =>h_.1))):p:=h
theorem R7 {p:Prop} (h:p:=by exact (Kd.dH (Kd.bw (p:=⟨iO,1,none⟩) (Kd.bw (p:=⟨iO,0,none⟩) (Kd.dD kY.out iK.out (by decide)) (fun _ hk=>hk.2) (.int .i64 t341)) (fun _ hk=>hk.2) (.slice tU pS.length rq)) (fun _ h_ =>h_.1))):p:=h
theorem R8 {p:Prop} (h:p:=by exact (Kd.dH (Kd.bw (p:=⟨iO,1,none⟩) (Kd.bw (p:=⟨iO,0,none⟩) (Kd.dD kZ.out iK.out (by decide)) (fun _ hk=>hk.2) (.int .i64 t341)) (fun _ hk=>hk.2) (.slice tU pS.length rq)) (fun _ h_ =>h_.1))):p:=h
theorem R9 {p:Prop} (h:p:=by exact (Kd.fB (Kd.cB (p:=⟨iO,1,none⟩) (Kd.cB (p:=⟨iO,0,none⟩) (Kd.gA kW.out iK.out (by decide)) (fun _ hk=>hk.2) (.int .i64 t341)) (fun _ hk=>hk.2) (.slice tU pS.length rq)) (fun _ h_ =>h_.1))):p:=h
theorem Sa {p:Prop} (h:p:=by exact (Kd.fB (Kd.cB (p:=⟨jl,1,none⟩) (Kd.cB (p:=⟨jl,0,none⟩) (Kd.gA kC.out kf.out (by decide)) (fun _ hk=>hk.2) (.int .i64 xH)) (fun _ hk=>hk.2) (.slice xg vM.length xh)) (fun _ h_ =>h_.1))):p:=h
theorem Sb {p:Prop} (h:p:=by exact (Kd.dH (Kd.bw (p:=⟨jl,1,none⟩) (Kd.bw (p:=⟨jl,0,none⟩) (Kd.dD kN.out kf.out (by decide)) (fun _ hk=>hk.2) (.int .i64 xH)) (fun _ hk=>hk.2) (.slice xg vM.length xh)) (fun _ h_ =>h_.1))):p:=h
theorem Sc {p:Prop} (h:p:=by exact (Kd.dH (Kd.bw (p:=⟨jl,1,none⟩) (Kd.bw (p:=⟨jl,0,none⟩) (Kd.dD kX.out kf.out (by decide)) (fun _ hk=>hk.2) (.int .i64 xH)) (fun _ hk=>hk.2) (.slice xg vM.length xh)) (fun _ h_ =>h_.1))):p:=h
theorem Sd {p:Prop} (h:p:=by exact (Kd.dH (Kd.bw (p:=⟨jl,1,none⟩) (Kd.bw (p:=⟨jl,0,none⟩) (Kd.dD kY.out kf.out (by decide)) (fun _ hk=>hk.2) (.int .i64 xH)) (fun _ hk=>hk.2) (.slice xg vM.length xh)) (fun _ h_ =>h_.1))):p:=h
theorem Sg {p:Prop} (h:p:=by exact (Kd.dH (Kd.bw (p:=⟨jl,1,none⟩) (Kd.bw (p:=⟨jl,0,none⟩) (Kd.dD kZ.out kf.out (by decide)) (fun _ hk=>hk.2) (.int .i64 xH)) (fun _ hk=>hk.2) (.slice xg vM.length xh)) (fun _ h_ =>h_.1))):p:=h
theorem Sh {p:Prop} (h:p:=by exact (Kd.fB (Kd.cB (p:=⟨jl,1,none⟩) (Kd.cB (p:=⟨jl,0,none⟩) (Kd.gA kW.out kf.out (by decide)) (fun _ hk=>hk.2) (.int .i64 xH)) (fun _ hk=>hk.2) (.slice xg vM.length xh)) (fun _ h_ =>h_.1))):p:=h
theorem Si {p:Prop} (h:p:=by exact (Kd.fB (Kd.cB (p:=⟨jl,1,none⟩) (Kd.cB (p:=⟨jl,0,none⟩) (Kd.gA pU.out kf.out (by decide)) (fun _ hk=>hk.2) (.int .i64 xH)) (fun _ hk=>hk.2) (.slice xg vM.length xh)) (fun _ h_ =>h_.1))):p:=h
theorem Sj {p:Prop} (h:p:=by exact (Kd.fB (Kd.cB (p:=⟨iP,1,none⟩) (Kd.cB (p:=⟨iP,0,none⟩) (Kd.gA kC.out kg.out (by decide)) (fun _ hk=>hk.2) (.int .i64 vG)) (fun _ hk=>hk.2) (.slice xj tV.length vN)) (fun _ h_ =>h_.1))):p:=h
theorem Sk {p:Prop} (h:p:=by exact (Kd.dH (Kd.bw (p:=⟨iP,1,none⟩) (Kd.bw (p:=⟨iP,0,none⟩) (Kd.dD kN.out kg.out (by decide)) (fun _ hk=>hk.2) (.int .i64 vG)) (fun _ hk=>hk.2) (.slice xj tV.length vN)) (fun _ h_ =>h_.1))):p:=h
theorem Sl {p:Prop} (h:p:=by exact (Kd.dH (Kd.bw (p:=⟨iP,1,none⟩) (Kd.bw (p:=⟨iP,0,none⟩) (Kd.dD kX.out kg.out (by decide)) (fun _ hk=>hk.2) (.int .i64 vG)) (fun _ hk=>hk.2) (.slice xj tV.length vN)) (fun _ h_ =>h_.1))):p:=h
theorem Sm {p:Prop} (h:p:=by exact (Kd.dH (Kd.bw (p:=⟨iP,1,none⟩) (Kd.bw (p:=⟨iP,0,none⟩) (Kd.dD kY.out kg.out (by decide)) (fun _ hk=>hk.2) (.int .i64 vG)) (fun _ hk=>hk.2) (.slice xj tV.length vN)) (fun _ h_ =>h_.1))):p:=h
theorem Sn {p:Prop} (h:p:=by exact (Kd.dH (Kd.bw (p:=⟨iP,1,none⟩) (Kd.bw (p:=⟨iP,0,none⟩) (Kd.dD kZ.out kg.out (by decide)) (fun _ hk=>hk.2) (.int .i64 vG)) (fun _ hk=>hk.2) (.slice xj tV.length vN)) (fun _ h_ =>h_.1))):p:=h
theorem Sp {p:Prop} (h:p:=by exact (Kd.fB (Kd.cB (p:=⟨iP,1,none⟩) (Kd.cB (p:=⟨iP,0,none⟩) (Kd.gA kW.out kg.out (by decide)) (fun _ hk=>hk.2) (.int .i64 vG)) (fun _ hk=>hk.2) (.slice xj tV.length vN)) (fun _ h_ =>h_.1))):p:=h
theorem Sq {p:Prop} (h:p:=by exact (Kd.fB (Kd.cB (p:=⟨iP,1,none⟩) (Kd.cB (p:=⟨iP,0,none⟩) (Kd.gA mD.out kg.out (by decide)) (fun _ hk=>hk.2) (.int .i64 vG)) (fun _ hk=>hk.2) (.slice xj tV.length vN)) (fun _ h_ =>h_.1))):p:=h
theorem Sr {p:Prop} (h:p:=by exact (Kd.fB (Kd.cB (p:=⟨iP,1,none⟩) (Kd.cB (p:=⟨iP,0,none⟩) (Kd.gA pU.out kg.out (by decide)) (fun _ hk=>hk.2) (.int .i64 vG)) (fun _ hk=>hk.2) (.slice xj tV.length vN)) (fun _ h_ =>h_.1))):p:=h
theorem Ss {p:Prop} (h:p:=by exact (Kd.dH (Kd.bw (p:=⟨iV,1,none⟩) (Kd.bw (p:=⟨iV,0,none⟩) (Kd.dD kZ.out mq.out (by decide)) (fun _ hk=>hk.2) (.int .i64 xM)) (fun _ hk=>hk.2) (.slice xN xO.length xP)) (fun _ h_ =>h_.1))):p:=h
theorem mE {p:Prop} (h:p:=by exact kN.out):p:=h
theorem z8 {p:Prop} (h:p:=by show w.heap.size≤w.heap.size + 1 + 1;omega):p:=h
theorem FJ {p:Prop} (h:p:=by repeat ((with_reducible first|exact HB.out|refine cG ?_ Z0.out))):p:=h
theorem FL {p:Prop} (h:p:=by repeat ((with_reducible first|exact HB.out|refine cG ?_ Su.out))):p:=h
theorem Dc {p:Prop} (h:p:=by rw [hg];exact Nat.ne_of_lt (dQ (by exact cz.out))):p:=h
theorem Dd {p:Prop} (h:p:=by rw [hg];exact Nat.ne_of_gt (dQ (by exact cz.out))):p:=h
theorem De {p:Prop} (h:p:=by rw [hg];exact Nat.ne_of_lt (dQ (by exact ia.out))):p:=h
theorem Df {p:Prop} (h:p:=by rw [hg];exact Nat.ne_of_gt (dQ (by exact ia.out))):p:=h
theorem mX {p:Prop} (h:p:=by exact kC.out):p:=h
theorem vO {p:Prop} (h:p:=by simp [Close,HF5.out,HN5.out]):p:=h
theorem nH {p:Prop} (h:p:=by exact aC.out):p:=h
theorem xQ {p:Prop} (h:p:=by exact pT.out):p:=h
theorem nI {p:Prop} (h:p:=by exact kX.out):p:=h
theorem nJ {p:Prop} (h:p:=by exact kY.out):p:=h
theorem nK {p:Prop} (h:p:=by exact kZ.out):p:=h
theorem xR {p:Prop} (h:p:=by exact iK.out):p:=h
theorem FM {p:Prop} (h:p:=by repeat ((with_reducible first|exact rz.out|apply eo.drewN))):p:=h
theorem FN {p:Prop} (h:p:=by rw [← HG2.out];simp only [vP];rw [HX.out,if_pos (by omega)]):p:=h
theorem BP {p:Prop} (h:p:=by repeat ((with_reducible first|exact HK.out|apply Dg))):p:=h
theorem qz {p:Prop} (h:p:=by rw [iq];omega):p:=h
theorem kP {p:Prop} (h:p:=by go_simp;rfl):p:=h
theorem BQ {p:Prop} (h:p:=by (with_reducible repeat (apply Kd.MT));exact iW.out):p:=h
theorem BR {p:Prop} (h:p:=by rw [hg];exact Nat.ne_of_lt (dQ (by exact pT.out))):p:=h
theorem BS {p:Prop} (h:p:=by rw [hg];exact Nat.ne_of_gt (dQ (by exact pT.out))):p:=h
theorem BU {p:Prop} (h:p:=by rw [hg];exact Nat.ne_of_lt (dQ (by exact iK.out))):p:=h
theorem BV {p:Prop} (h:p:=by rw [hg];exact Nat.ne_of_gt (dQ (by exact iK.out))):p:=h
theorem FO {p:Prop} (h:p:=by rw [← HG2.out];simp only [vP];rw [HX.out,if_neg (by omega),if_neg (by omega)]):p:=h
theorem FP {p:Prop} (h:p:=by rw [← HG2.out];simp only [vP];rw [HX.out,if_neg (by omega),if_pos (by omega)]):p:=h
theorem rA {p:Prop} (h:p:=by exact Kd.Bh _ _ _ _ _):p:=h
theorem nB {p:Prop} (h:p:=by exact kW.out):p:=h
theorem wB {p:Prop} (h:p:=by exact kf.out):p:=h
theorem FQ {p:Prop} (h:p:=by repeat ((with_reducible first|exact HB.out|refine cG ?_ adQ.out))):p:=h
theorem FT {p:Prop} (h:p:=by repeat ((with_reducible first|exact HB.out|refine cG ?_ adR.out))):p:=h
theorem FU {p:Prop} (h:p:=by repeat ((with_reducible first|exact HB.out|refine cG ?_ adS.out))):p:=h
theorem FV {p:Prop} (h:p:=by repeat ((with_reducible first|exact HB.out|refine cG ?_ adT.out))):p:=h
theorem ou {p:Prop} (h:p:=by exact cJ.out):p:=h
theorem yq {p:Prop} (h:p:=by exact kT.out):p:=h
theorem yt {p:Prop} (h:p:=by exact kO.out):p:=h
theorem wC {p:Prop} (h:p:=by rw [List.length_drop];omega):p:=h
theorem wD {p:Prop} (h:p:=by rw [List.length_map];omega):p:=h
theorem pL {p:Prop} (h:p:=by exact sW.out):p:=h
theorem BW {p:Prop} (h:p:=by exact gF.out):p:=h
theorem mz {p:Prop} (h:p:=by assumption):p:=h
theorem qA {p:Prop} (h:p:=by exact mP.out):p:=h
theorem qB {p:Prop} (h:p:=by exact mD.out):p:=h
theorem qC {p:Prop} (h:p:=by exact kg.out):p:=h
theorem BX {p:Prop} (h:p:=by have:=qi.out;have:=HK2.out;omega):p:=h
theorem wE {p:Prop} (h:p:=by simp [HF5.out,HN5.out]):p:=h
theorem FW {p:Prop} (h:p:=by rw [hg];exact Nat.ne_of_lt (dQ (by exact kT.out))):p:=h
theorem FX {p:Prop} (h:p:=by rw [hg];exact Nat.ne_of_gt (dQ (by exact kT.out))):p:=h
theorem FY {p:Prop} (h:p:=by rw [hg];exact Nat.ne_of_lt (dQ (by exact kO.out))):p:=h
theorem FZ {p:Prop} (h:p:=by rw [hg];exact Nat.ne_of_gt (dQ (by exact kO.out))):p:=h
theorem F3 {p:Prop} (h:p:=by rw [hg];exact Nat.ne_of_lt (dQ (by exact gF.out))):p:=h
theorem F4 {p:Prop} (h:p:=by rw [hg];exact Nat.ne_of_gt (dQ (by exact gF.out))):p:=h
theorem F5 {p:Prop} (h:p:=by rw [hg];exact Nat.ne_of_lt (dQ (by exact kf.out))):p:=h
theorem F6 {p:Prop} (h:p:=by rw [hg];exact Nat.ne_of_gt (dQ (by exact kf.out))):p:=h
theorem MU {p:Prop} (h:p:=by repeat ((with_reducible first|exact HB.out|apply fX|refine cG ?_ (eo.ge rz.out)))):p:=h
theorem F7 {p:Prop} (h:p:=by rw [← kA _ _ 1 (by omega)];exact hc 1 _ rfl):p:=h
theorem rB {p:Prop} (h:p:=by exact mF.out):p:=h
theorem rC {p:Prop} (h:p:=by exact fY.out):p:=h
theorem rD {p:Prop} (h:p:=by exact pU.out):p:=h
theorem wF {p:Prop} (h:p:=by unfold wrap64;omega):p:=h
theorem MV {p:Prop} (h:p:=by rintro w' ⟨s0,s1,s2,s3,s4,s5,s6,s7,s8,s9,Ez,EC,s12⟩;go_simp;with_reducible rfl):p:=h
theorem F8 {p:Prop} (h:p:=by intro k hk;simp [Value.ownBlock] at hk;omega):p:=h
theorem tX {p:Prop} (h:p:=by exact sY.out):p:=h
theorem tY {p:Prop} (h:p:=by exact qP.out):p:=h
theorem MW {p:Prop} (h:p:=by repeat ((with_reducible first|exact rz.out|apply eo.drewN|apply eo.adU))):p:=h
theorem yu {p:Prop} (h:p:=by rw [HL.out];exact hlt):p:=h
theorem MX {p:Prop} (h:p:=by rintro w' ⟨s0,s1,s2,s3,s4,s5,s6,s7,s8,s9,Ez⟩;go_simp;with_reducible rfl):p:=h
theorem MZ {p:Prop} (h:p:=by repeat ((with_reducible first|exact HK.out|apply dF.JF|apply Dg))):p:=h
theorem F9 {p:Prop} (h:p:=by have:=hS.body;unfold nZ at this;omega):p:=h
theorem Ga {p:Prop} (h:p:=by have:=hS.nto;unfold nZ at this;omega):p:=h
theorem M0 {p:Prop} (h:p:=by repeat ((with_reducible first|exact HB.out|refine cG ?_ adV.out))):p:=h
theorem M3 {p:Prop} (h:p:=by repeat ((with_reducible first|exact HB.out|refine cG ?_ Z1.out))):p:=h
theorem M4 {p:Prop} (h:p:=by repeat ((with_reducible first|exact HB.out|refine cG ?_ adW.out))):p:=h
theorem M5 {p:Prop} (h:p:=by repeat ((with_reducible first|exact HB.out|refine cG ?_ adX.out))):p:=h
theorem wG {p:Prop} (h:p:=by exact eu.out):p:=h
theorem wH {p:Prop} (h:p:=by exact vQ.out):p:=h
theorem wI {p:Prop} (h:p:=by exact vR.out):p:=h
theorem wJ {p:Prop} (h:p:=by exact mq.out):p:=h
theorem M6 {p:Prop} (h:p:=by simp only [Bool.not_true,Bool.false_eq_true,if_false];rw [hw];exact hr):p:=h
theorem wK {p:Prop} (h:p:=by exact Bz.out):p:=h
theorem M7 {p:Prop} (h:p:=by rw [HK.out (by unfold Gb;rw [if_neg (by omega)])];exact HR.out):p:=h
theorem yw {p:Prop} (h:p:=by rw [HZ.out];rfl):p:=h
theorem M8 {p:Prop} (h:p:=by (with_reducible repeat (refine Qk ?_ _));exact aC.out):p:=h
theorem pM {p:Prop} (h:p:=by go_simp):p:=h
end Go.Proofs
