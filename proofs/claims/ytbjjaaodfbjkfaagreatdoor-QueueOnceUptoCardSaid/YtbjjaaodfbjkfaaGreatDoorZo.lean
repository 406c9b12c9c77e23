import Derived.Test.YtbjjaaodfbjkfaaGreatDoorProg
import Derived.Deep.AppendLies
import Derived.Deep.OwnRows
import Derived.Lib.ConvBytes
import Derived.WalkKit
import Derived.BigQuiet
import Derived.Deep.DeepCutAuto
import Derived.Deep.CutBlock
import Derived.Deep.RegionHeld3
import Derived.Lib.AppendStr
set_option linter.unusedVariables false
namespace Go.Proofs
theorem aJ {p:Prop} (h:p:=by repeat ((with_reducible exact HB.out))):p:=h
theorem bF {p:Prop} (h:p:=by rw [hg];exact (b7 (by repeat ((with_reducible exact HB.out))))):p:=h
theorem aa3 {p:Prop} (h:p:=by refine aZ (cs:=#[.int .i64 ((aj l0 aG).f0),.bool ((aj l0 aG).f1.f0),.slice fJ ((aj l0 aG).f1.f1).length fK,.string ((aj l0 aG).f1.f2.f0),.string ((aj l0 aG).f1.f2.f1),.bool ((aj l0 aG).f1.f2.f2),.slice gT ((aj l0 aG).f2).length gU,.slice iI ((aj l0 aG).f3).length iJ,.int .i64 0]) ?_ 8 _ rfl;refine aZ (cs:=#[.int .i64 ((aj l0 aG).f0),.bool ((aj l0 aG).f1.f0),.slice fJ ((aj l0 aG).f1.f1).length fK,.string ((aj l0 aG).f1.f2.f0),.string ((aj l0 aG).f1.f2.f1),.bool ((aj l0 aG).f1.f2.f2),.slice gT ((aj l0 aG).f2).length gU,.slice none 0 0,.int .i64 0]) ?_ 7 _ rfl;refine aZ (cs:=#[.int .i64 ((aj l0 aG).f0),.bool ((aj l0 aG).f1.f0),.slice fJ ((aj l0 aG).f1.f1).length fK,.string ((aj l0 aG).f1.f2.f0),.string ((aj l0 aG).f1.f2.f1),.bool ((aj l0 aG).f1.f2.f2),.slice none 0 0,.slice none 0 0,.int .i64 0]) ?_ 6 _ rfl;refine aZ (cs:=#[.int .i64 ((aj l0 aG).f0),.bool ((aj l0 aG).f1.f0),.slice fJ ((aj l0 aG).f1.f1).length fK,.string ((aj l0 aG).f1.f2.f0),.string ((aj l0 aG).f1.f2.f1),.bool false,.slice none 0 0,.slice none 0 0,.int .i64 0]) ?_ 5 _ rfl;refine aZ (cs:=#[.int .i64 ((aj l0 aG).f0),.bool ((aj l0 aG).f1.f0),.slice fJ ((aj l0 aG).f1.f1).length fK,.string ((aj l0 aG).f1.f2.f0),.string (⟨#[]⟩:ByteArray),.bool false,.slice none 0 0,.slice none 0 0,.int .i64 0]) ?_ 4 _ rfl;refine aZ (cs:=#[.int .i64 ((aj l0 aG).f0),.bool ((aj l0 aG).f1.f0),.slice fJ ((aj l0 aG).f1.f1).length fK,.string (⟨#[]⟩:ByteArray),.string (⟨#[]⟩:ByteArray),.bool false,.slice none 0 0,.slice none 0 0,.int .i64 0]) ?_ 3 _ rfl;refine aZ (cs:=#[.int .i64 ((aj l0 aG).f0),.bool ((aj l0 aG).f1.f0),.slice none 0 0,.string (⟨#[]⟩:ByteArray),.string (⟨#[]⟩:ByteArray),.bool false,.slice none 0 0,.slice none 0 0,.int .i64 0]) ?_ 2 _ rfl;refine aZ (cs:=#[.int .i64 ((aj l0 aG).f0),.bool false,.slice none 0 0,.string (⟨#[]⟩:ByteArray),.string (⟨#[]⟩:ByteArray),.bool false,.slice none 0 0,.slice none 0 0,.int .i64 0]) ?_ 1 _ rfl;refine aZ (cs:=#[.int .i64 0,.bool false,.slice none 0 0,.string (⟨#[]⟩:ByteArray),.string (⟨#[]⟩:ByteArray),.bool false,.slice none 0 0,.slice none 0 0,.int .i64 0]) ?_ 0 _ rfl;exact dN.out):p:=h
theorem cM {p:Prop} (h:p:=by simp only [Act.put,List.setIfInBounds_toArray,List.set_cons_zero,List.set_cons_succ,aV,aW];rfl):p:=h
theorem aq {p:Prop} (h:p:=by kernel_rfl):p:=h
theorem dK {p:Prop} (h:p:=by (try simp only [List.map_toArray,List.map_cons,List.map_nil]);rfl):p:=h
theorem dZ {p:Prop} (h:p:=by repeat ((with_reducible first|exact HB.out|apply fU))):p:=h
theorem cD {p:Prop} (h:p:=by intro w';go_simp;with_reducible rfl):p:=h
theorem aa4 {p:Prop} (h:p:=by rw [hg];exact Nat.ne_of_lt (dQ (g:=bB) (o:= .cells #[.int .i64 ((aj l0 aG).f0),.bool ((aj l0 aG).f1.f0),.slice fJ ((aj l0 aG).f1.f1).length fK,.string ((aj l0 aG).f1.f2.f0),.string ((aj l0 aG).f1.f2.f1),.bool ((aj l0 aG).f1.f2.f2),.slice gT ((aj l0 aG).f2).length gU,.slice iI ((aj l0 aG).f3).length iJ,.int .i64 ((aj l0 aG).f4)] 34 (0,0)) (by refine aZ (cs:=#[.int .i64 ((aj l0 aG).f0),.bool ((aj l0 aG).f1.f0),.slice fJ ((aj l0 aG).f1.f1).length fK,.string ((aj l0 aG).f1.f2.f0),.string ((aj l0 aG).f1.f2.f1),.bool ((aj l0 aG).f1.f2.f2),.slice gT ((aj l0 aG).f2).length gU,.slice iI ((aj l0 aG).f3).length iJ,.int .i64 0]) ?_ 8 _ rfl;refine aZ (cs:=#[.int .i64 ((aj l0 aG).f0),.bool ((aj l0 aG).f1.f0),.slice fJ ((aj l0 aG).f1.f1).length fK,.string ((aj l0 aG).f1.f2.f0),.string ((aj l0 aG).f1.f2.f1),.bool ((aj l0 aG).f1.f2.f2),.slice gT ((aj l0 aG).f2).length gU,.slice none 0 0,.int .i64 0]) ?_ 7 _ rfl;refine aZ (cs:=#[.int .i64 ((aj l0 aG).f0),.bool ((aj l0 aG).f1.f0),.slice fJ ((aj l0 aG).f1.f1).length fK,.string ((aj l0 aG).f1.f2.f0),.string ((aj l0 aG).f1.f2.f1),.bool ((aj l0 aG).f1.f2.f2),.slice none 0 0,.slice none 0 0,.int .i64 0]) ?_ 6 _ rfl;refine aZ (cs:=#[.int .i64 ((aj l0 aG).f0),.bool ((aj l0 aG).f1.f0),.slice fJ ((aj l0 aG).f1.f1).length fK,.string ((aj l0 aG).f1.f2.f0),.string ((aj l0 aG).f1.f2.f1),.bool false,.slice none 0 0,.slice none 0 0,.int .i64 0]) ?_ 5 _ rfl;refine aZ (cs:=#[.int .i64 ((aj l0 aG).f0),.bool ((aj l0 aG).f1.f0),.slice fJ ((aj l0 aG).f1.f1).length fK,.string ((aj l0 aG).f1.f2.f0),.string (⟨#[]⟩:ByteArray),.bool false,.slice none 0 0,.slice none 0 0,.int .i64 0]) ?_ 4 _ rfl;refine aZ (cs:=#[.int .i64 ((aj l0 aG).f0),.bool ((aj l0 aG).f1.f0),.slice fJ ((aj l0 aG).f1.f1).length fK,.string (⟨#[]⟩:ByteArray),.string (⟨#[]⟩:ByteArray),.bool false,.slice none 0 0,.slice none 0 0,.int .i64 0]) ?_ 3 _ rfl;refine aZ (cs:=#[.int .i64 ((aj l0 aG).f0),.bool ((aj l0 aG).f1.f0),.slice none 0 0,.string (⟨#[]⟩:ByteArray),.string (⟨#[]⟩:ByteArray),.bool false,.slice none 0 0,.slice none 0 0,.int .i64 0]) ?_ 2 _ rfl;refine aZ (cs:=#[.int .i64 ((aj l0 aG).f0),.bool false,.slice none 0 0,.string (⟨#[]⟩:ByteArray),.string (⟨#[]⟩:ByteArray),.bool false,.slice none 0 0,.slice none 0 0,.int .i64 0]) ?_ 1 _ rfl;refine aZ (cs:=#[.int .i64 0,.bool false,.slice none 0 0,.string (⟨#[]⟩:ByteArray),.string (⟨#[]⟩:ByteArray),.bool false,.slice none 0 0,.slice none 0 0,.int .i64 0]) ?_ 0 _ rfl;exact dN.out))):p:=h
theorem aa5 {p:Prop} (h:p:=by rw [hg];exact Nat.ne_of_gt (dQ (g:=bB) (o:= .cells #[.int .i64 ((aj l0 aG).f0),.bool ((aj l0 aG).f1.f0),.slice fJ ((aj l0 aG).f1.f1).length fK,.string ((aj l0 aG).f1.f2.f0),.string ((aj l0 aG).f1.f2.f1),.bool ((aj l0 aG).f1.f2.f2),.slice gT ((aj l0 aG).f2).length gU,.slice iI ((aj l0 aG).f3).length iJ,.int .i64 ((aj l0 aG).f4)] 34 (0,0)) (by refine aZ (cs:=#[.int .i64 ((aj l0 aG).f0),.bool ((aj l0 aG).f1.f0),.slice fJ ((aj l0 aG).f1.f1).length fK,.string ((aj l0 aG).f1.f2.f0),.string ((aj l0 aG).f1.f2.f1),.bool ((aj l0 aG).f1.f2.f2),.slice gT ((aj l0 aG).f2).length gU,.slice iI ((aj l0 aG).f3).length iJ,.int .i64 0]) ?_ 8 _ rfl;refine aZ (cs:=#[.int .i64 ((aj l0 aG).f0),.bool ((aj l0 aG).f1.f0),.slice fJ ((aj l0 aG).f1.f1).length fK,.string ((aj l0 aG).f1.f2.f0),.string ((aj l0 aG).f1.f2.f1),.bool ((aj l0 aG).f1.f2.f2),.slice gT ((aj l0 aG).f2).length gU,.slice none 0 0,.int .i64 0]) ?_ 7 _ rfl;refine aZ (cs:=#[.int .i64 ((aj l0 aG).f0),.bool ((aj l0 aG).f1.f0),.slice fJ ((aj l0 aG).f1.f1).length fK,.string ((aj l0 aG).f1.f2.f0),.string ((aj l0 aG).f1.f2.f1),.bool ((aj l0 aG).f1.f2.f2),.slice none 0 0,.slice none 0 0,.int .i64 0]) ?_ 6 _ rfl;refine aZ (cs:=#[.int .i64 ((aj l0 aG).f0),.bool ((aj l0 aG).f1.f0),.slice fJ ((aj l0 aG).f1.f1).length fK,.string ((aj l0 aG).f1.f2.f0),.string ((aj l0 aG).f1.f2.f1),.bool false,.slice none 0 0,.slice none 0 0,.int .i64 0]) ?_ 5 _ rfl;refine aZ (cs:=#[.int .i64 ((aj l0 aG).f0),.bool ((aj l0 aG).f1.f0),.slice fJ ((aj l0 aG).f1.f1).length fK,.string ((aj l0 aG).f1.f2.f0),.string (⟨#[]⟩:ByteArray),.bool false,.slice none 0 0,.slice none 0 0,.int .i64 0]) ?_ 4 _ rfl;refine aZ (cs:=#[.int .i64 ((aj l0 aG).f0),.bool ((aj l0 aG).f1.f0),.slice fJ ((aj l0 aG).f1.f1).length fK,.string (⟨#[]⟩:ByteArray),.string (⟨#[]⟩:ByteArray),.bool false,.slice none 0 0,.slice none 0 0,.int .i64 0]) ?_ 3 _ rfl;refine aZ (cs:=#[.int .i64 ((aj l0 aG).f0),.bool ((aj l0 aG).f1.f0),.slice none 0 0,.string (⟨#[]⟩:ByteArray),.string (⟨#[]⟩:ByteArray),.bool false,.slice none 0 0,.slice none 0 0,.int .i64 0]) ?_ 2 _ rfl;refine aZ (cs:=#[.int .i64 ((aj l0 aG).f0),.bool false,.slice none 0 0,.string (⟨#[]⟩:ByteArray),.string (⟨#[]⟩:ByteArray),.bool false,.slice none 0 0,.slice none 0 0,.int .i64 0]) ?_ 1 _ rfl;refine aZ (cs:=#[.int .i64 0,.bool false,.slice none 0 0,.string (⟨#[]⟩:ByteArray),.string (⟨#[]⟩:ByteArray),.bool false,.slice none 0 0,.slice none 0 0,.int .i64 0]) ?_ 0 _ rfl;exact dN.out))):p:=h
theorem cj {p:Prop} (h:p:=by (with_reducible assumption)):p:=h
theorem SI {p:Prop} (h:p:=by refine aZ (cs:=#[.int .i64 ((aj aI cu).f0),.bool ((aj aI cu).f1.f0),.slice ot ((aj aI cu).f1.f1).length ou,.string ((aj aI cu).f1.f2.f0),.string ((aj aI cu).f1.f2.f1),.bool ((aj aI cu).f1.f2.f2),.slice sD ((aj aI cu).f2).length sF,.slice tR ((aj aI cu).f3).length tS,.int .i64 0]) ?_ 8 _ rfl;refine aZ (cs:=#[.int .i64 ((aj aI cu).f0),.bool ((aj aI cu).f1.f0),.slice ot ((aj aI cu).f1.f1).length ou,.string ((aj aI cu).f1.f2.f0),.string ((aj aI cu).f1.f2.f1),.bool ((aj aI cu).f1.f2.f2),.slice sD ((aj aI cu).f2).length sF,.slice none 0 0,.int .i64 0]) ?_ 7 _ rfl;refine aZ (cs:=#[.int .i64 ((aj aI cu).f0),.bool ((aj aI cu).f1.f0),.slice ot ((aj aI cu).f1.f1).length ou,.string ((aj aI cu).f1.f2.f0),.string ((aj aI cu).f1.f2.f1),.bool ((aj aI cu).f1.f2.f2),.slice none 0 0,.slice none 0 0,.int .i64 0]) ?_ 6 _ rfl;refine aZ (cs:=#[.int .i64 ((aj aI cu).f0),.bool ((aj aI cu).f1.f0),.slice ot ((aj aI cu).f1.f1).length ou,.string ((aj aI cu).f1.f2.f0),.string ((aj aI cu).f1.f2.f1),.bool false,.slice none 0 0,.slice none 0 0,.int .i64 0]) ?_ 5 _ rfl;refine aZ (cs:=#[.int .i64 ((aj aI cu).f0),.bool ((aj aI cu).f1.f0),.slice ot ((aj aI cu).f1.f1).length ou,.string ((aj aI cu).f1.f2.f0),.string (⟨#[]⟩:ByteArray),.bool false,.slice none 0 0,.slice none 0 0,.int .i64 0]) ?_ 4 _ rfl;refine aZ (cs:=#[.int .i64 ((aj aI cu).f0),.bool ((aj aI cu).f1.f0),.slice ot ((aj aI cu).f1.f1).length ou,.string (⟨#[]⟩:ByteArray),.string (⟨#[]⟩:ByteArray),.bool false,.slice none 0 0,.slice none 0 0,.int .i64 0]) ?_ 3 _ rfl;refine aZ (cs:=#[.int .i64 ((aj aI cu).f0),.bool ((aj aI cu).f1.f0),.slice none 0 0,.string (⟨#[]⟩:ByteArray),.string (⟨#[]⟩:ByteArray),.bool false,.slice none 0 0,.slice none 0 0,.int .i64 0]) ?_ 2 _ rfl;refine aZ (cs:=#[.int .i64 ((aj aI cu).f0),.bool false,.slice none 0 0,.string (⟨#[]⟩:ByteArray),.string (⟨#[]⟩:ByteArray),.bool false,.slice none 0 0,.slice none 0 0,.int .i64 0]) ?_ 1 _ rfl;refine aZ (cs:=#[.int .i64 0,.bool false,.slice none 0 0,.string (⟨#[]⟩:ByteArray),.string (⟨#[]⟩:ByteArray),.bool false,.slice none 0 0,.slice none 0 0,.int .i64 0]) ?_ 0 _ rfl;exact fE.out):p:=h
theorem SJ {p:Prop} (h:p:=by refine aZ (cs:=#[.int .i64 ((aj l1 aG).f0),.bool ((aj l1 aG).f1.f0),.slice tT ((aj l1 aG).f1.f1).length tU,.string ((aj l1 aG).f1.f2.f0),.string ((aj l1 aG).f1.f2.f1),.bool ((aj l1 aG).f1.f2.f2),.slice Du ((aj l1 aG).f2).length Dv,.slice Gc ((aj l1 aG).f3).length Gd,.int .i64 0]) ?_ 8 _ rfl;refine aZ (cs:=#[.int .i64 ((aj l1 aG).f0),.bool ((aj l1 aG).f1.f0),.slice tT ((aj l1 aG).f1.f1).length tU,.string ((aj l1 aG).f1.f2.f0),.string ((aj l1 aG).f1.f2.f1),.bool ((aj l1 aG).f1.f2.f2),.slice Du ((aj l1 aG).f2).length Dv,.slice none 0 0,.int .i64 0]) ?_ 7 _ rfl;refine aZ (cs:=#[.int .i64 ((aj l1 aG).f0),.bool ((aj l1 aG).f1.f0),.slice tT ((aj l1 aG).f1.f1).length tU,.string ((aj l1 aG).f1.f2.f0),.string ((aj l1 aG).f1.f2.f1),.bool ((aj l1 aG).f1.f2.f2),.slice none 0 0,.slice none 0 0,.int .i64 0]) ?_ 6 _ rfl;refine aZ (cs:=#[.int .i64 ((aj l1 aG).f0),.bool ((aj l1 aG).f1.f0),.slice tT ((aj l1 aG).f1.f1).length tU,.string ((aj l1 aG).f1.f2.f0),.string ((aj l1 aG).f1.f2.f1),.bool false,.slice none 0 0,.slice none 0 0,.int .i64 0]) ?_ 5 _ rfl;refine aZ (cs:=#[.int .i64 ((aj l1 aG).f0),.bool ((aj l1 aG).f1.f0),.slice tT ((aj l1 aG).f1.f1).length tU,.string ((aj l1 aG).f1.f2.f0),.string (⟨#[]⟩:ByteArray),.bool false,.slice none 0 0,.slice none 0 0,.int .i64 0]) ?_ 4 _ rfl;refine aZ (cs:=#[.int .i64 ((aj l1 aG).f0),.bool ((aj l1 aG).f1.f0),.slice tT ((aj l1 aG).f1.f1).length tU,.string (⟨#[]⟩:ByteArray),.string (⟨#[]⟩:ByteArray),.bool false,.slice none 0 0,.slice none 0 0,.int .i64 0]) ?_ 3 _ rfl;refine aZ (cs:=#[.int .i64 ((aj l1 aG).f0),.bool ((aj l1 aG).f1.f0),.slice none 0 0,.string (⟨#[]⟩:ByteArray),.string (⟨#[]⟩:ByteArray),.bool false,.slice none 0 0,.slice none 0 0,.int .i64 0]) ?_ 2 _ rfl;refine aZ (cs:=#[.int .i64 ((aj l1 aG).f0),.bool false,.slice none 0 0,.string (⟨#[]⟩:ByteArray),.string (⟨#[]⟩:ByteArray),.bool false,.slice none 0 0,.slice none 0 0,.int .i64 0]) ?_ 1 _ rfl;refine aZ (cs:=#[.int .i64 0,.bool false,.slice none 0 0,.string (⟨#[]⟩:ByteArray),.string (⟨#[]⟩:ByteArray),.bool false,.slice none 0 0,.slice none 0 0,.int .i64 0]) ?_ 0 _ rfl;exact iL.out):p:=h
theorem az {p:Prop} (h:p:=by omega):p:=h
theorem LW {p:Prop} (h:p:=by exact Kd.dH (Kd.bw (p:=⟨gQ,5,none⟩) (Kd.bw (p:=⟨gQ,4,none⟩) (Kd.bw (p:=⟨gQ,3,none⟩) (Kd.bw (p:=⟨gQ,2,none⟩) (Kd.bw (p:=⟨gQ,1,none⟩) (Kd.bw (p:=⟨gQ,0,none⟩) (Kd.dD BQ.out ij.out (by decide)) (fun _ hk=>hk.2) (.string ((bM ((aj aI bz).f2) gu).f0.f0))) (fun _ hk=>hk.2) (.string ((bM ((aj aI bz).f2) gu).f0.f1))) (fun _ hk=>hk.2) (.bool ((bM ((aj aI bz).f2) gu).f0.f2))) (fun _ hk=>hk.2) (.int .u8 ((bM ((aj aI bz).f2) gu).f1))) (fun _ hk=>hk.2) (.int .i64 ((bM ((aj aI bz).f2) gu).f2))) (fun _ hk=>hk.2) (.int .i64 ((bM ((aj aI bz).f2) gu).f3))) (fun _ hk=>trivial)):p:=h
theorem tV {p:Prop} (h:p:=by rintro w' ⟨s0,s1,s2,s3,s4,s5,s6,s7,s8,s9,ER,EU,s12,Fe,Ff,Fg,Fh,Fi,Fj,s19,s20,s21,s22,s23,s24,s25,s26,s27,s28,s29⟩;go_simp;with_reducible rfl):p:=h
theorem bC {p:Prop} (h:p:=by decide):p:=h
theorem l5 {p:Prop} (h:p:=by have:=World.block_lt_of_cell? _ _ ez;rwa [add_block] at this):p:=h
theorem kQ {p:Prop} (h:p:=by repeat (first|exact iy.refl _|apply iy.step)):p:=h
theorem SK {p:Prop} (h:p:=by exact (Kd.fB (Kd.cB (p:=⟨bA,12,none⟩) (Kd.cB (p:=⟨bA,11,none⟩) (Kd.cB (p:=⟨bA,10,none⟩) (Kd.cB (p:=⟨bA,9,none⟩) (Kd.cB (p:=⟨bA,8,none⟩) (Kd.cB (p:=⟨bA,7,none⟩) (Kd.cB (p:=⟨bA,6,none⟩) (Kd.cB (p:=⟨bA,5,none⟩) (Kd.cB (p:=⟨bA,4,none⟩) (Kd.cB (p:=⟨bA,3,none⟩) (Kd.cB (p:=⟨bA,2,none⟩) (Kd.cB (p:=⟨bA,1,none⟩) (Kd.cB (p:=⟨bA,0,none⟩) (Kd.gw mI.out eB.out (by decide)) (fun _ hk=>hk.2) (.int .u8 oc)) (fun _ hk=>hk.2) (.int .i64 ow)) (fun _ hk=>hk.2) (.int .i64 pz)) (fun _ hk=>hk.2) (.int .i64 pJ)) (fun _ hk=>hk.2) (.int .i64 pU)) (fun _ hk=>hk.2) (.bool qj)) (fun _ hk=>hk.2) (.slice ql qm.length qo)) (fun _ hk=>hk.2) (.string qP)) (fun _ hk=>hk.2) (.string ru)) (fun _ hk=>hk.2) (.bool sG)) (fun _ hk=>hk.2) (.slice sV sH.length sW)) (fun _ hk=>hk.2) (.slice tW sX.length tX)) (fun _ hk=>hk.2) (.int .i64 vJ)) (fun _ h_ =>h_.1))):p:=h
theorem oz {p:Prop} (h:p:=by repeat ((with_reducible first|exact HB.out|refine cC ?_ aa6.out))):p:=h
theorem SL {p:Prop} (h:p:=by exact (Kd.dH (Kd.bw (p:=⟨gA,8,none⟩) (Kd.bw (p:=⟨gA,7,none⟩) (Kd.bw (p:=⟨gA,6,none⟩) (Kd.bw (p:=⟨gA,5,none⟩) (Kd.bw (p:=⟨gA,4,none⟩) (Kd.bw (p:=⟨gA,3,none⟩) (Kd.bw (p:=⟨gA,2,none⟩) (Kd.bw (p:=⟨gA,1,none⟩) (Kd.bw (p:=⟨gA,0,none⟩) (Kd.dD Ak.out fE.out (by decide)) (fun _ hk=>hk.2) (.int .i64 ((aj aI cu).f0))) (fun _ hk=>hk.2) (.bool ((aj aI cu).f1.f0))) (fun _ hk=>hk.2) (.slice ot ((aj aI cu).f1.f1).length ou)) (fun _ hk=>hk.2) (.string ((aj aI cu).f1.f2.f0))) (fun _ hk=>hk.2) (.string ((aj aI cu).f1.f2.f1))) (fun _ hk=>hk.2) (.bool ((aj aI cu).f1.f2.f2))) (fun _ hk=>hk.2) (.slice sD ((aj aI cu).f2).length sF)) (fun _ hk=>hk.2) (.slice tR ((aj aI cu).f3).length tS)) (fun _ hk=>hk.2) (.int .i64 ((aj aI cu).f4))) (fun _ h_ =>h_.1))):p:=h
theorem pK {p:Prop} (h:p:=by rintro w' ⟨s0,s1,s2,s3,s4,s5,s6,s7,s8⟩;go_simp;with_reducible rfl):p:=h
theorem kr {p:Prop} (h:p:=by repeat ((with_reducible exact HK.out))):p:=h
theorem vO {p:Prop} (h:p:=by repeat ((with_reducible first|exact HB.out|refine cC ?_ aa7.out))):p:=h
theorem tY {p:Prop} (h:p:=by have:=World.block_lt_of_cell? _ _ jf;rwa [add_block] at this):p:=h
theorem sI {p:Prop} (h:p:=by (with_reducible repeat (apply Kd.ND));exact fF.out):p:=h
theorem l8 {p:Prop} (h:p:=by (rw [add_block];exact BZ)):p:=h
theorem l9 {p:Prop} (h:p:=by (rw [add_block];exact B0)):p:=h
theorem mg {p:Prop} (h:p:=by (rw [add_block];exact Ca)):p:=h
theorem mh {p:Prop} (h:p:=by (rw [add_block];exact Cb)):p:=h
theorem mj {p:Prop} (h:p:=by (rw [add_block];exact Cc)):p:=h
theorem mo {p:Prop} (h:p:=by (rw [add_block];exact Ce)):p:=h
theorem mq {p:Prop} (h:p:=by (rw [add_block];exact Cf)):p:=h
theorem mz {p:Prop} (h:p:=by (rw [add_block];exact Cg)):p:=h
theorem mA {p:Prop} (h:p:=by (rw [add_block];exact Ci)):p:=h
theorem tZ {p:Prop} (h:p:=by simp only [List.map_toArray,List.map_cons,List.map_nil];rfl):p:=h
theorem LX {p:Prop} (h:p:=by exact (Kd.fB (Kd.cB (p:=⟨iP,1,none⟩) (Kd.cB (p:=⟨iP,0,none⟩) (Kd.gw mI.out iM.out (by decide)) (fun _ hk=>hk.2) (.int .i64 t341)) (fun _ hk=>hk.2) (.slice ud pV.length ry)) (fun _ h_ =>h_.1))):p:=h
theorem LY {p:Prop} (h:p:=by exact (Kd.fB (Kd.cB (p:=⟨jt,1,none⟩) (Kd.cB (p:=⟨jt,0,none⟩) (Kd.gw mI.out kF.out (by decide)) (fun _ hk=>hk.2) (.int .i64 yB)) (fun _ hk=>hk.2) (.slice xU vP.length xV)) (fun _ h_ =>h_.1))):p:=h
theorem LZ {p:Prop} (h:p:=by exact (Kd.fB (Kd.cB (p:=⟨iQ,1,none⟩) (Kd.cB (p:=⟨iQ,0,none⟩) (Kd.gw qQ.out kG.out (by decide)) (fun _ hk=>hk.2) (.int .i64 vK)) (fun _ hk=>hk.2) (.slice xW ue.length vQ)) (fun _ h_ =>h_.1))):p:=h
theorem mB {p:Prop} (h:p:=by repeat (exact iy.refl _)):p:=h
theorem L1 {p:Prop} (h:p:=by refine aU ?_ lg.out _;refine aU ?_ lg.out _;refine aU ?_ lg.out _;refine aU ?_ lg.out _;refine aU ?_ lg.out _;refine aU ?_ lg.out _;exact pW.out):p:=h
theorem L8 {p:Prop} (h:p:=by refine aU ?_ lq.out _;refine aU ?_ lq.out _;refine aU ?_ lq.out _;refine aU ?_ lq.out _;refine aU ?_ lq.out _;refine aU ?_ lq.out _;exact gD.out):p:=h
theorem lu {p:Prop} (h:p:=by have:=qi.out;omega):p:=h
theorem SM {p:Prop} (h:p:=by repeat ((with_reducible first|exact HB.out|refine cC ?_ SN.out))):p:=h
theorem cF {p:Prop} (h:p:=by simp):p:=h
theorem sJ {p:Prop} (h:p:=by repeat ((with_reducible exact rB.out))):p:=h
theorem jQ {p:Prop} (h:p:=by exact av.out):p:=h
theorem yC {p:Prop} (h:p:=by rw [hg];exact Nat.ne_of_lt (dQ (by exact cg.out))):p:=h
theorem yD {p:Prop} (h:p:=by rw [hg];exact Nat.ne_of_gt (dQ (by exact cg.out))):p:=h
theorem Ge {p:Prop} (h:p:=by rw [hg];exact (b7 (by repeat ((with_reducible first|exact HB.out|refine cC ?_ SN.out))))):p:=h
theorem yE {p:Prop} (h:p:=by rintro w' ⟨s0,s1,s2⟩;go_simp;with_reducible rfl):p:=h
theorem SP {p:Prop} (h:p:=by refine aU ?_ kJ.out _;refine aU ?_ kJ.out _;refine aU ?_ kJ.out _;refine aU ?_ kJ.out _;refine aU ?_ kJ.out _;refine aU ?_ kJ.out _;refine aU ?_ kJ.out _;refine aU ?_ kJ.out _;refine aU ?_ kJ.out _;exact sY.out):p:=h
theorem SQ {p:Prop} (h:p:=by refine aU ?_ kK.out _;refine aU ?_ kK.out _;refine aU ?_ kK.out _;refine aU ?_ kK.out _;refine aU ?_ kK.out _;refine aU ?_ kK.out _;refine aU ?_ kK.out _;refine aU ?_ kK.out _;refine aU ?_ kK.out _;exact dN.out):p:=h
theorem SR {p:Prop} (h:p:=by refine aU ?_ jD.out _;refine aU ?_ jD.out _;refine aU ?_ jD.out _;refine aU ?_ jD.out _;refine aU ?_ jD.out _;refine aU ?_ jD.out _;refine aU ?_ jD.out _;refine aU ?_ jD.out _;refine aU ?_ jD.out _;exact sZ.out):p:=h
theorem SS {p:Prop} (h:p:=by refine aU ?_ jE.out _;refine aU ?_ jE.out _;refine aU ?_ jE.out _;refine aU ?_ jE.out _;refine aU ?_ jE.out _;refine aU ?_ jE.out _;refine aU ?_ jE.out _;refine aU ?_ jE.out _;refine aU ?_ jE.out _;exact nU.out):p:=h
theorem yF {p:Prop} (h:p:=by exact cg.out):p:=h
theorem sK {p:Prop} (h:p:=by exact cy.out):p:=h
theorem uf {p:Prop} (h:p:=by exact iq.out):p:=h
theorem SU {p:Prop} (h:p:=by exact (Kd.fB (Kd.cB (p:=⟨ju,1,none⟩) (Kd.cB (p:=⟨ju,0,none⟩) (Kd.gw lA.out iq.out (by decide)) (fun _ hk=>hk.2) (.int .i64 t332)) (fun _ hk=>hk.2) (.slice td t333.length sL)) (fun _ h_ =>h_.1))):p:=h
theorem SV {p:Prop} (h:p:=by exact (Kd.fB (Kd.cB (p:=⟨iP,1,none⟩) (Kd.cB (p:=⟨iP,0,none⟩) (Kd.gw kM.out iM.out (by decide)) (fun _ hk=>hk.2) (.int .i64 t341)) (fun _ hk=>hk.2) (.slice ud pV.length ry)) (fun _ h_ =>h_.1))):p:=h
theorem SX {p:Prop} (h:p:=by exact (Kd.dH (Kd.bw (p:=⟨iP,1,none⟩) (Kd.bw (p:=⟨iP,0,none⟩) (Kd.dD kW.out iM.out (by decide)) (fun _ hk=>hk.2) (.int .i64 t341)) (fun _ hk=>hk.2) (.slice ud pV.length ry)) (fun _ h_ =>h_.1))):p:=h
theorem SY {p:Prop} (h:p:=by exact (Kd.dH (Kd.bw (p:=⟨iP,1,none⟩) (Kd.bw (p:=⟨iP,0,none⟩) (Kd.dD lB.out iM.out (by decide)) (fun _ hk=>hk.2) (.int .i64 t341)) (fun _ hk=>hk.2) (.slice ud pV.length ry)) (fun _ h_ =>h_.1))):p:=h
theorem SZ {p:Prop} (h:p:=by exact (Kd.dH (Kd.bw (p:=⟨iP,1,none⟩) (Kd.bw (p:=⟨iP,0,none⟩) (Kd.dD lC.out iM.out (by decide)) (fun _ hk=>hk.2) (.int .i64 t341)) (fun _ hk=>hk.2) (.slice ud pV.length ry)) (fun _ h_ =>h_.1))):p:=h
theorem S0 {p:Prop} (h:p:=by exact (Kd.dH (Kd.bw (p:=⟨iP,1,none⟩) (Kd.bw (p:=⟨iP,0,none⟩) (Kd.dD lD.out iM.out (by decide)) (fun _ hk=>hk.2) (.int .i64 t341)) (fun _ hk=>hk.2) (.slice ud pV.length ry)) (fun _ h_ =>h_.1))):p:=h
theorem S3 {p:Prop} (h:p:=by exact (Kd.fB (Kd.cB (p:=⟨iP,1,none⟩) (Kd.cB (p:=⟨iP,0,none⟩) (Kd.gw lA.out iM.out (by decide)) (fun _ hk=>hk.2) (.int .i64 t341)) (fun _ hk=>hk.2) (.slice ud pV.length ry)) (fun _ h_ =>h_.1))):p:=h
theorem S4 {p:Prop} (h:p:=by exact (Kd.fB (Kd.cB (p:=⟨jt,1,none⟩) (Kd.cB (p:=⟨jt,0,none⟩) (Kd.gw kM.out kF.out (by decide)) (fun _ hk=>hk.2) (.int .i64 yB)) (fun _ hk=>hk.2) (.slice xU vP.length xV)) (fun _ h_ =>h_.1))):p:=h
theorem S5 {p:Prop} (h:p:=by exact (Kd.dH (Kd.bw (p:=⟨jt,1,none⟩) (Kd.bw (p:=⟨jt,0,none⟩) (Kd.dD kW.out kF.out (by decide)) (fun _ hk=>hk.2) (.int .i64 yB)) (fun _ hk=>hk.2) (.slice xU vP.length xV)) (fun _ h_ =>h_.1))):p:=h
theorem S6 {p:Prop} (h:p:=by exact (Kd.dH (Kd.bw (p:=⟨jt,1,none⟩) (Kd.bw (p:=⟨jt,0,none⟩) (Kd.dD lB.out kF.out (by decide)) (fun _ hk=>hk.2) (.int .i64 yB)) (fun _ hk=>hk.2) (.slice xU vP.length xV)) (fun _ h_ =>h_.1))):p:=h
theorem S7 {p:Prop} (h:p:=by exact (Kd.dH (Kd.bw (p:=⟨jt,1,none⟩) (Kd.bw (p:=⟨jt,0,none⟩) (Kd.dD lC.out kF.out (by decide)) (fun _ hk=>hk.2) (.int .i64 yB)) (fun _ hk=>hk.2) (.slice xU vP.length xV)) (fun _ h_ =>h_.1))):p:=h
theorem S8 {p:Prop} (h:p:=by exact (Kd.dH (Kd.bw (p:=⟨jt,1,none⟩) (Kd.bw (p:=⟨jt,0,none⟩) (Kd.dD lD.out kF.out (by decide)) (fun _ hk=>hk.2) (.int .i64 yB)) (fun _ hk=>hk.2) (.slice xU vP.length xV)) (fun _ h_ =>h_.1))):p:=h
theorem S9 {p:Prop} (h:p:=by exact (Kd.fB (Kd.cB (p:=⟨jt,1,none⟩) (Kd.cB (p:=⟨jt,0,none⟩) (Kd.gw lA.out kF.out (by decide)) (fun _ hk=>hk.2) (.int .i64 yB)) (fun _ hk=>hk.2) (.slice xU vP.length xV)) (fun _ h_ =>h_.1))):p:=h
theorem Ta {p:Prop} (h:p:=by exact (Kd.fB (Kd.cB (p:=⟨jt,1,none⟩) (Kd.cB (p:=⟨jt,0,none⟩) (Kd.gw pX.out kF.out (by decide)) (fun _ hk=>hk.2) (.int .i64 yB)) (fun _ hk=>hk.2) (.slice xU vP.length xV)) (fun _ h_ =>h_.1))):p:=h
theorem Tb {p:Prop} (h:p:=by exact (Kd.fB (Kd.cB (p:=⟨iQ,1,none⟩) (Kd.cB (p:=⟨iQ,0,none⟩) (Kd.gw kM.out kG.out (by decide)) (fun _ hk=>hk.2) (.int .i64 vK)) (fun _ hk=>hk.2) (.slice xW ue.length vQ)) (fun _ h_ =>h_.1))):p:=h
theorem Tc {p:Prop} (h:p:=by exact (Kd.dH (Kd.bw (p:=⟨iQ,1,none⟩) (Kd.bw (p:=⟨iQ,0,none⟩) (Kd.dD kW.out kG.out (by decide)) (fun _ hk=>hk.2) (.int .i64 vK)) (fun _ hk=>hk.2) (.slice xW ue.length vQ)) (fun _ h_ =>h_.1))):p:=h
theorem Td {p:Prop} (h:p:=by exact (Kd.dH (Kd.bw (p:=⟨iQ,1,none⟩) (Kd.bw (p:=⟨iQ,0,none⟩) (Kd.dD lB.out kG.out (by decide)) (fun _ hk=>hk.2) (.int .i64 vK)) (fun _ hk=>hk.2) (.slice xW ue.length vQ)) (fun _ h_ =>h_.1))):p:=h
theorem Te {p:Prop} (h:p:=by exact (Kd.dH (Kd.bw (p:=⟨iQ,1,none⟩) (Kd.bw (p:=⟨iQ,0,none⟩) (Kd.dD lC.out kG.out (by decide)) (fun _ hk=>hk.2) (.int .i64 vK)) (fun _ hk=>hk.2) (.slice xW ue.length vQ)) (fun _ h_ =>h_.1))):p:=h
theorem Tf {p:Prop} (h:p:=by exact (Kd.dH (Kd.bw (p:=⟨iQ,1,none⟩) (Kd.bw (p:=⟨iQ,0,none⟩) (Kd.dD lD.out kG.out (by decide)) (fun _ hk=>hk.2) (.int .i64 vK)) (fun _ hk=>hk.2) (.slice xW ue.length vQ)) (fun _ h_ =>h_.1))):p:=h
theorem Tg {p:Prop} (h:p:=by exact (Kd.fB (Kd.cB (p:=⟨iQ,1,none⟩) (Kd.cB (p:=⟨iQ,0,none⟩) (Kd.gw lA.out kG.out (by decide)) (fun _ hk=>hk.2) (.int .i64 vK)) (fun _ hk=>hk.2) (.slice xW ue.length vQ)) (fun _ h_ =>h_.1))):p:=h
theorem Th {p:Prop} (h:p:=by exact (Kd.fB (Kd.cB (p:=⟨iQ,1,none⟩) (Kd.cB (p:=⟨iQ,0,none⟩) (Kd.gw mI.out kG.out (by decide)) (fun _ hk=>hk.2) (.int .i64 vK)) (fun _ hk=>hk.2) (.slice xW ue.length vQ)) (fun _ h_ =>h_.1))):p:=h
theorem Ti {p:Prop} (h:p:=by exact (Kd.fB (Kd.cB (p:=⟨iQ,1,none⟩) (Kd.cB (p:=⟨iQ,0,none⟩) (Kd.gw pX.out kG.out (by decide)) (fun _ hk=>hk.2) (.int .i64 vK)) (fun _ hk=>hk.2) (.slice xW ue.length vQ)) (fun _ h_ =>h_.1))):p:=h
theorem Tj {p:Prop} (h:p:=by exact (Kd.dH (Kd.bw (p:=⟨iY,1,none⟩) (Kd.bw (p:=⟨iY,0,none⟩) (Kd.dD lD.out mC.out (by decide)) (fun _ hk=>hk.2) (.int .i64 yG)) (fun _ hk=>hk.2) (.slice yH yI.length yJ)) (fun _ h_ =>h_.1))):p:=h
theorem mJ {p:Prop} (h:p:=by exact kW.out):p:=h
theorem Al {p:Prop} (h:p:=by show w.heap.size≤w.heap.size + 1 + 1;omega):p:=h
theorem Gf {p:Prop} (h:p:=by repeat ((with_reducible first|exact HB.out|refine cC ?_ aa8.out))):p:=h
theorem Gg {p:Prop} (h:p:=by repeat ((with_reducible first|exact HB.out|refine cC ?_ Tk.out))):p:=h
theorem Dw {p:Prop} (h:p:=by rw [hg];exact Nat.ne_of_lt (dQ (by exact cy.out))):p:=h
theorem Dx {p:Prop} (h:p:=by rw [hg];exact Nat.ne_of_gt (dQ (by exact cy.out))):p:=h
theorem Dy {p:Prop} (h:p:=by rw [hg];exact Nat.ne_of_lt (dQ (by exact iq.out))):p:=h
theorem Dz {p:Prop} (h:p:=by rw [hg];exact Nat.ne_of_gt (dQ (by exact iq.out))):p:=h
theorem ng {p:Prop} (h:p:=by exact kM.out):p:=h
theorem vR {p:Prop} (h:p:=by simp [Close,HF5.out,HN5.out]):p:=h
theorem nL {p:Prop} (h:p:=by exact aC.out):p:=h
theorem yK {p:Prop} (h:p:=by exact pW.out):p:=h
theorem nM {p:Prop} (h:p:=by exact lB.out):p:=h
theorem nN {p:Prop} (h:p:=by exact lC.out):p:=h
theorem nO {p:Prop} (h:p:=by exact lD.out):p:=h
theorem yL {p:Prop} (h:p:=by exact iM.out):p:=h
theorem Gh {p:Prop} (h:p:=by repeat ((with_reducible first|exact rB.out|apply dR.drewN))):p:=h
theorem Gi {p:Prop} (h:p:=by rw [← HG2.out];simp only [vS];rw [HX.out,if_pos (by omega)]):p:=h
theorem Cj {p:Prop} (h:p:=by repeat ((with_reducible first|exact HK.out|apply DA))):p:=h
theorem qE {p:Prop} (h:p:=by rw [iz];omega):p:=h
theorem kY {p:Prop} (h:p:=by go_simp;rfl):p:=h
theorem zb {p:Prop} (h:p:=by exact sZ.out):p:=h
theorem Ck {p:Prop} (h:p:=by (with_reducible repeat (apply Kd.ND));exact iZ.out):p:=h
theorem Cl {p:Prop} (h:p:=by rw [hg];exact Nat.ne_of_lt (dQ (by exact pW.out))):p:=h
theorem Cm {p:Prop} (h:p:=by rw [hg];exact Nat.ne_of_gt (dQ (by exact pW.out))):p:=h
theorem Cn {p:Prop} (h:p:=by rw [hg];exact Nat.ne_of_lt (dQ (by exact iM.out))):p:=h
theorem Co {p:Prop} (h:p:=by rw [hg];exact Nat.ne_of_gt (dQ (by exact iM.out))):p:=h
theorem Cq {p:Prop} (h:p:=by rw [hg];exact Nat.ne_of_lt (dQ (by exact sZ.out))):p:=h
theorem Cr {p:Prop} (h:p:=by rw [hg];exact Nat.ne_of_gt (dQ (by exact sZ.out))):p:=h
theorem Gj {p:Prop} (h:p:=by rw [← HG2.out];simp only [vS];rw [HX.out,if_neg (by omega),if_neg (by omega)]):p:=h
theorem Gk {p:Prop} (h:p:=by rw [← HG2.out];simp only [vS];rw [HX.out,if_neg (by omega),if_pos (by omega)]):p:=h
theorem rC {p:Prop} (h:p:=by exact Kd.BA _ _ _ _ _):p:=h
theorem nH {p:Prop} (h:p:=by exact lA.out):p:=h
theorem wK {p:Prop} (h:p:=by exact kF.out):p:=h
theorem Cs {p:Prop} (h:p:=by rw [← jm _ _ 1 (by omega)];exact hc 1 _ rfl):p:=h
theorem Gl {p:Prop} (h:p:=by repeat ((with_reducible first|exact HB.out|refine cC ?_ afa.out))):p:=h
theorem Gm {p:Prop} (h:p:=by repeat ((with_reducible first|exact HB.out|refine cC ?_ afb.out))):p:=h
theorem Gn {p:Prop} (h:p:=by repeat ((with_reducible first|exact HB.out|refine cC ?_ afc.out))):p:=h
theorem Gp {p:Prop} (h:p:=by repeat ((with_reducible first|exact HB.out|refine cC ?_ afd.out))):p:=h
theorem Gq {p:Prop} (h:p:=by repeat ((with_reducible first|exact HB.out|refine cC ?_ Tm.out))):p:=h
theorem wL {p:Prop} (h:p:=by (rw [add_block];exact NF)):p:=h
theorem wM {p:Prop} (h:p:=by (rw [add_block];exact NG)):p:=h
theorem wN {p:Prop} (h:p:=by (rw [add_block];exact NH)):p:=h
theorem wO {p:Prop} (h:p:=by (rw [add_block];exact NI)):p:=h
theorem wP {p:Prop} (h:p:=by (rw [add_block];exact NJ)):p:=h
theorem wQ {p:Prop} (h:p:=by (rw [add_block];exact NK)):p:=h
theorem wR {p:Prop} (h:p:=by (rw [add_block];exact NL)):p:=h
theorem wS {p:Prop} (h:p:=by (rw [add_block];exact NM)):p:=h
theorem wT {p:Prop} (h:p:=by (rw [add_block];exact NN)):p:=h
theorem oC {p:Prop} (h:p:=by exact cJ.out):p:=h
theorem ze {p:Prop} (h:p:=by exact kX.out):p:=h
theorem wU {p:Prop} (h:p:=by rw [List.length_drop];omega):p:=h
theorem wV {p:Prop} (h:p:=by rw [List.length_map];omega):p:=h
theorem pP {p:Prop} (h:p:=by exact sY.out):p:=h
theorem Ct {p:Prop} (h:p:=by exact gD.out):p:=h
theorem Cu {p:Prop} (h:p:=by exact nU.out):p:=h
theorem mD {p:Prop} (h:p:=by assumption):p:=h
theorem qF {p:Prop} (h:p:=by exact mX.out):p:=h
theorem qG {p:Prop} (h:p:=by exact mI.out):p:=h
theorem qH {p:Prop} (h:p:=by exact kG.out):p:=h
theorem Cv {p:Prop} (h:p:=by have:=qi.out;have:=SA.out;omega):p:=h
theorem zf {p:Prop} (h:p:=by rw [(NP HBG.out).1];rfl):p:=h
theorem wW {p:Prop} (h:p:=by simp [HF5.out,HN5.out]):p:=h
theorem Gr {p:Prop} (h:p:=by rw [hg];exact Nat.ne_of_lt (dQ (by exact kX.out))):p:=h
theorem Gs {p:Prop} (h:p:=by rw [hg];exact Nat.ne_of_gt (dQ (by exact kX.out))):p:=h
theorem Gt {p:Prop} (h:p:=by rw [hg];exact Nat.ne_of_lt (dQ (by exact gD.out))):p:=h
theorem Gu {p:Prop} (h:p:=by rw [hg];exact Nat.ne_of_gt (dQ (by exact gD.out))):p:=h
theorem Gv {p:Prop} (h:p:=by rw [hg];exact Nat.ne_of_lt (dQ (by exact kF.out))):p:=h
theorem Gw {p:Prop} (h:p:=by rw [hg];exact Nat.ne_of_gt (dQ (by exact kF.out))):p:=h
theorem Gx {p:Prop} (h:p:=by rw [hg];exact Nat.ne_of_lt (dQ (by exact nU.out))):p:=h
theorem Gy {p:Prop} (h:p:=by rw [hg];exact Nat.ne_of_gt (dQ (by exact nU.out))):p:=h
theorem NQ {p:Prop} (h:p:=by repeat ((with_reducible first|exact HB.out|apply fU|refine cC ?_ (dR.ge rB.out)))):p:=h
theorem Gz {p:Prop} (h:p:=by rw [← jm _ _ 2 (by omega)];exact hc 2 _ rfl):p:=h
theorem GA {p:Prop} (h:p:=by rw [← jm _ _ 3 (by omega)];exact hc 3 _ rfl):p:=h
theorem GC {p:Prop} (h:p:=by rw [← jm _ _ 4 (by omega)];exact hc 4 _ rfl):p:=h
theorem GD {p:Prop} (h:p:=by rw [← jm _ _ 5 (by omega)];exact hc 5 _ rfl):p:=h
theorem rD {p:Prop} (h:p:=by exact mK.out):p:=h
theorem rE {p:Prop} (h:p:=by exact fW.out):p:=h
theorem rF {p:Prop} (h:p:=by exact pX.out):p:=h
theorem wX {p:Prop} (h:p:=by unfold wrap64;omega):p:=h
theorem NR {p:Prop} (h:p:=by rintro w' ⟨s0,s1,s2,s3,s4,s5,s6,s7,s8,s9,ER,EU,s12⟩;go_simp;with_reducible rfl):p:=h
theorem GF {p:Prop} (h:p:=by intro k hk;simp [Value.ownBlock] at hk;omega):p:=h
theorem ug {p:Prop} (h:p:=by exact tj.out):p:=h
theorem uh {p:Prop} (h:p:=by exact qQ.out):p:=h
theorem NS {p:Prop} (h:p:=by repeat ((with_reducible first|exact rB.out|apply dR.drewN|apply dR.afe))):p:=h
theorem zg {p:Prop} (h:p:=by rw [HL.out];exact hlt):p:=h
theorem NT {p:Prop} (h:p:=by rintro w' ⟨s0,s1,s2,s3,s4,s5,s6,s7,s8,s9,ER⟩;go_simp;with_reducible rfl):p:=h
theorem NU {p:Prop} (h:p:=by repeat ((with_reducible first|exact HK.out|apply dF.Ko|apply DA))):p:=h
theorem GG {p:Prop} (h:p:=by have:=hS.body;unfold qp at this;omega):p:=h
theorem GH {p:Prop} (h:p:=by have:=hS.nto;unfold qp at this;omega):p:=h
theorem NV {p:Prop} (h:p:=by repeat ((with_reducible first|exact HB.out|refine cC ?_ aff.out))):p:=h
theorem NW {p:Prop} (h:p:=by repeat ((with_reducible first|exact HB.out|refine cC ?_ aa9.out))):p:=h
theorem NY {p:Prop} (h:p:=by repeat ((with_reducible first|exact HB.out|refine cC ?_ afg.out))):p:=h
theorem NZ {p:Prop} (h:p:=by repeat ((with_reducible first|exact HB.out|refine cC ?_ afh.out))):p:=h
theorem wY {p:Prop} (h:p:=by exact eu.out):p:=h
theorem wZ {p:Prop} (h:p:=by exact vT.out):p:=h
theorem xd {p:Prop} (h:p:=by exact vU.out):p:=h
theorem xe {p:Prop} (h:p:=by exact mC.out):p:=h
theorem N0 {p:Prop} (h:p:=by simp only [Bool.not_true,Bool.false_eq_true,if_false];rw [hw];exact hr):p:=h
theorem xg {p:Prop} (h:p:=by simpa using hb):p:=h
theorem xh {p:Prop} (h:p:=by exact BQ.out):p:=h
theorem N1 {p:Prop} (h:p:=by rw [HK.out (by unfold GI;rw [if_neg (by omega)])];exact HR.out):p:=h
theorem zh {p:Prop} (h:p:=by rw [HZ.out];rfl):p:=h
theorem N2 {p:Prop} (h:p:=by (with_reducible repeat (refine Re ?_ _));exact aC.out):p:=h
theorem pQ {p:Prop} (h:p:=by go_simp):p:=h
theorem Cw {p:Prop} (h:p:=by have:=HK.out;omega):p:=h
end Go.Proofs
