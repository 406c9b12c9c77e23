import Derived.Test.YtbjjaaodfbjkfaaGreatDoorProg
import Derived.Deep.AppendLies
import Derived.Deep.OwnRows
import Derived.Lib.ConvBytes
import Derived.WalkKit
import Derived.BigQuiet
import Derived.Deep.DeepCutAuto
import Derived.Deep.CutBlock
import Derived.Deep.RegionHeld3
import Derived.Lib.AppendStr
set_option linter.unusedVariables false
namespace Go.Proofs
theorem aI {p:Prop} (h:p:=by repeat ((with_reducible exact HB.out))):p:=h
theorem bG {p:Prop} (h:p:=by rw [hg];exact (bV (by repeat ((with_reducible exact HB.out))))):p:=h
theorem aev {p:Prop} (h:p:=by refine aW (cs:=#[.int .i64 ((aj l0 aH).f0),.bool ((aj l0 aH).f1.f0),.slice gp ((aj l0 aH).f1.f1).length gu,.string ((aj l0 aH).f1.f2.f0),.string ((aj l0 aH).f1.f2.f1),.bool ((aj l0 aH).f1.f2.f2),.slice iD ((aj l0 aH).f2).length iE,.slice jc ((aj l0 aH).f3).length jd,.int .i64 0]) ?_ 8 _ rfl;refine aW (cs:=#[.int .i64 ((aj l0 aH).f0),.bool ((aj l0 aH).f1.f0),.slice gp ((aj l0 aH).f1.f1).length gu,.string ((aj l0 aH).f1.f2.f0),.string ((aj l0 aH).f1.f2.f1),.bool ((aj l0 aH).f1.f2.f2),.slice iD ((aj l0 aH).f2).length iE,.slice none 0 0,.int .i64 0]) ?_ 7 _ rfl;refine aW (cs:=#[.int .i64 ((aj l0 aH).f0),.bool ((aj l0 aH).f1.f0),.slice gp ((aj l0 aH).f1.f1).length gu,.string ((aj l0 aH).f1.f2.f0),.string ((aj l0 aH).f1.f2.f1),.bool ((aj l0 aH).f1.f2.f2),.slice none 0 0,.slice none 0 0,.int .i64 0]) ?_ 6 _ rfl;refine aW (cs:=#[.int .i64 ((aj l0 aH).f0),.bool ((aj l0 aH).f1.f0),.slice gp ((aj l0 aH).f1.f1).length gu,.string ((aj l0 aH).f1.f2.f0),.string ((aj l0 aH).f1.f2.f1),.bool false,.slice none 0 0,.slice none 0 0,.int .i64 0]) ?_ 5 _ rfl;refine aW (cs:=#[.int .i64 ((aj l0 aH).f0),.bool ((aj l0 aH).f1.f0),.slice gp ((aj l0 aH).f1.f1).length gu,.string ((aj l0 aH).f1.f2.f0),.string (⟨#[]⟩:ByteArray),.bool false,.slice none 0 0,.slice none 0 0,.int .i64 0]) ?_ 4 _ rfl;refine aW (cs:=#[.int .i64 ((aj l0 aH).f0),.bool ((aj l0 aH).f1.f0),.slice gp ((aj l0 aH).f1.f1).length gu,.string (⟨#[]⟩:ByteArray),.string (⟨#[]⟩:ByteArray),.bool false,.slice none 0 0,.slice none 0 0,.int .i64 0]) ?_ 3 _ rfl;refine aW (cs:=#[.int .i64 ((aj l0 aH).f0),.bool ((aj l0 aH).f1.f0),.slice none 0 0,.string (⟨#[]⟩:ByteArray),.string (⟨#[]⟩:ByteArray),.bool false,.slice none 0 0,.slice none 0 0,.int .i64 0]) ?_ 2 _ rfl;refine aW (cs:=#[.int .i64 ((aj l0 aH).f0),.bool false,.slice none 0 0,.string (⟨#[]⟩:ByteArray),.string (⟨#[]⟩:ByteArray),.bool false,.slice none 0 0,.slice none 0 0,.int .i64 0]) ?_ 1 _ rfl;refine aW (cs:=#[.int .i64 0,.bool false,.slice none 0 0,.string (⟨#[]⟩:ByteArray),.string (⟨#[]⟩:ByteArray),.bool false,.slice none 0 0,.slice none 0 0,.int .i64 0]) ?_ 0 _ rfl;exact eF.out):p:=h
theorem cX {p:Prop} (h:p:=by simp only [Act.put,List.setIfInBounds_toArray,List.set_cons_zero,List.set_cons_succ,aY,aZ];rfl):p:=h
theorem au {p:Prop} (h:p:=by kernel_rfl):p:=h
theorem dM {p:Prop} (h:p:=by (try simp only [List.map_toArray,List.map_cons,List.map_nil]);rfl):p:=h
theorem eB {p:Prop} (h:p:=by repeat ((with_reducible first|exact HB.out|apply gy))):p:=h
theorem cJ {p:Prop} (h:p:=by intro w';go_simp;with_reducible rfl):p:=h
theorem rX {p:Prop} (h:p:=by exact (Kd.dG (Kd.bS (p:=⟨eV,1,none⟩) (Kd.bS (p:=⟨eV,0,none⟩) (Kd.fN cu.out iF.out (by decide)) (fun _ hk=>hk.2) (.int .i64 ((cT eH eT).f0))) (fun _ hk=>hk.2) (.int .i64 ((cT eH eT).f1))) (fun _ h_ =>h_.1))):p:=h
theorem cL {p:Prop} (h:p:=by (with_reducible assumption)):p:=h
theorem VY {p:Prop} (h:p:=by rw [hg];exact Nat.ne_of_lt (eD (g:=bK) (o:= .cells #[.int .i64 ((aj l0 aH).f0),.bool ((aj l0 aH).f1.f0),.slice gp ((aj l0 aH).f1.f1).length gu,.string ((aj l0 aH).f1.f2.f0),.string ((aj l0 aH).f1.f2.f1),.bool ((aj l0 aH).f1.f2.f2),.slice iD ((aj l0 aH).f2).length iE,.slice jc ((aj l0 aH).f3).length jd,.int .i64 ((aj l0 aH).f4)] 34 (0,0)) (by refine aW (cs:=#[.int .i64 ((aj l0 aH).f0),.bool ((aj l0 aH).f1.f0),.slice gp ((aj l0 aH).f1.f1).length gu,.string ((aj l0 aH).f1.f2.f0),.string ((aj l0 aH).f1.f2.f1),.bool ((aj l0 aH).f1.f2.f2),.slice iD ((aj l0 aH).f2).length iE,.slice jc ((aj l0 aH).f3).length jd,.int .i64 0]) ?_ 8 _ rfl;refine aW (cs:=#[.int .i64 ((aj l0 aH).f0),.bool ((aj l0 aH).f1.f0),.slice gp ((aj l0 aH).f1.f1).length gu,.string ((aj l0 aH).f1.f2.f0),.string ((aj l0 aH).f1.f2.f1),.bool ((aj l0 aH).f1.f2.f2),.slice iD ((aj l0 aH).f2).length iE,.slice none 0 0,.int .i64 0]) ?_ 7 _ rfl;refine aW (cs:=#[.int .i64 ((aj l0 aH).f0),.bool ((aj l0 aH).f1.f0),.slice gp ((aj l0 aH).f1.f1).length gu,.string ((aj l0 aH).f1.f2.f0),.string ((aj l0 aH).f1.f2.f1),.bool ((aj l0 aH).f1.f2.f2),.slice none 0 0,.slice none 0 0,.int .i64 0]) ?_ 6 _ rfl;refine aW (cs:=#[.int .i64 ((aj l0 aH).f0),.bool ((aj l0 aH).f1.f0),.slice gp ((aj l0 aH).f1.f1).length gu,.string ((aj l0 aH).f1.f2.f0),.string ((aj l0 aH).f1.f2.f1),.bool false,.slice none 0 0,.slice none 0 0,.int .i64 0]) ?_ 5 _ rfl;refine aW (cs:=#[.int .i64 ((aj l0 aH).f0),.bool ((aj l0 aH).f1.f0),.slice gp ((aj l0 aH).f1.f1).length gu,.string ((aj l0 aH).f1.f2.f0),.string (⟨#[]⟩:ByteArray),.bool false,.slice none 0 0,.slice none 0 0,.int .i64 0]) ?_ 4 _ rfl;refine aW (cs:=#[.int .i64 ((aj l0 aH).f0),.bool ((aj l0 aH).f1.f0),.slice gp ((aj l0 aH).f1.f1).length gu,.string (⟨#[]⟩:ByteArray),.string (⟨#[]⟩:ByteArray),.bool false,.slice none 0 0,.slice none 0 0,.int .i64 0]) ?_ 3 _ rfl;refine aW (cs:=#[.int .i64 ((aj l0 aH).f0),.bool ((aj l0 aH).f1.f0),.slice none 0 0,.string (⟨#[]⟩:ByteArray),.string (⟨#[]⟩:ByteArray),.bool false,.slice none 0 0,.slice none 0 0,.int .i64 0]) ?_ 2 _ rfl;refine aW (cs:=#[.int .i64 ((aj l0 aH).f0),.bool false,.slice none 0 0,.string (⟨#[]⟩:ByteArray),.string (⟨#[]⟩:ByteArray),.bool false,.slice none 0 0,.slice none 0 0,.int .i64 0]) ?_ 1 _ rfl;refine aW (cs:=#[.int .i64 0,.bool false,.slice none 0 0,.string (⟨#[]⟩:ByteArray),.string (⟨#[]⟩:ByteArray),.bool false,.slice none 0 0,.slice none 0 0,.int .i64 0]) ?_ 0 _ rfl;exact eF.out))):p:=h
theorem VZ {p:Prop} (h:p:=by rw [hg];exact Nat.ne_of_gt (eD (g:=bK) (o:= .cells #[.int .i64 ((aj l0 aH).f0),.bool ((aj l0 aH).f1.f0),.slice gp ((aj l0 aH).f1.f1).length gu,.string ((aj l0 aH).f1.f2.f0),.string ((aj l0 aH).f1.f2.f1),.bool ((aj l0 aH).f1.f2.f2),.slice iD ((aj l0 aH).f2).length iE,.slice jc ((aj l0 aH).f3).length jd,.int .i64 ((aj l0 aH).f4)] 34 (0,0)) (by refine aW (cs:=#[.int .i64 ((aj l0 aH).f0),.bool ((aj l0 aH).f1.f0),.slice gp ((aj l0 aH).f1.f1).length gu,.string ((aj l0 aH).f1.f2.f0),.string ((aj l0 aH).f1.f2.f1),.bool ((aj l0 aH).f1.f2.f2),.slice iD ((aj l0 aH).f2).length iE,.slice jc ((aj l0 aH).f3).length jd,.int .i64 0]) ?_ 8 _ rfl;refine aW (cs:=#[.int .i64 ((aj l0 aH).f0),.bool ((aj l0 aH).f1.f0),.slice gp ((aj l0 aH).f1.f1).length gu,.string ((aj l0 aH).f1.f2.f0),.string ((aj l0 aH).f1.f2.f1),.bool ((aj l0 aH).f1.f2.f2),.slice iD ((aj l0 aH).f2).length iE,.slice none 0 0,.int .i64 0]) ?_ 7 _ rfl;refine aW (cs:=#[.int .i64 ((aj l0 aH).f0),.bool ((aj l0 aH).f1.f0),.slice gp ((aj l0 aH).f1.f1).length gu,.string ((aj l0 aH).f1.f2.f0),.string ((aj l0 aH).f1.f2.f1),.bool ((aj l0 aH).f1.f2.f2),.slice none 0 0,.slice none 0 0,.int .i64 0]) ?_ 6 _ rfl;refine aW (cs:=#[.int .i64 ((aj l0 aH).f0),.bool ((aj l0 aH).f1.f0),.slice gp ((aj l0 aH).f1.f1).length gu,.string ((aj l0 aH).f1.f2.f0),.string ((aj l0 aH).f1.f2.f1),.bool false,.slice none 0 0,.slice none 0 0,.int .i64 0]) ?_ 5 _ rfl;refine aW (cs:=#[.int .i64 ((aj l0 aH).f0),.bool ((aj l0 aH).f1.f0),.slice gp ((aj l0 aH).f1.f1).length gu,.string ((aj l0 aH).f1.f2.f0),.string (⟨#[]⟩:ByteArray),.bool false,.slice none 0 0,.slice none 0 0,.int .i64 0]) ?_ 4 _ rfl;refine aW (cs:=#[.int .i64 ((aj l0 aH).f0),.bool ((aj l0 aH).f1.f0),.slice gp ((aj l0 aH).f1.f1).length gu,.string (⟨#[]⟩:ByteArray),.string (⟨#[]⟩:ByteArray),.bool false,.slice none 0 0,.slice none 0 0,.int .i64 0]) ?_ 3 _ rfl;refine aW (cs:=#[.int .i64 ((aj l0 aH).f0),.bool ((aj l0 aH).f1.f0),.slice none 0 0,.string (⟨#[]⟩:ByteArray),.string (⟨#[]⟩:ByteArray),.bool false,.slice none 0 0,.slice none 0 0,.int .i64 0]) ?_ 2 _ rfl;refine aW (cs:=#[.int .i64 ((aj l0 aH).f0),.bool false,.slice none 0 0,.string (⟨#[]⟩:ByteArray),.string (⟨#[]⟩:ByteArray),.bool false,.slice none 0 0,.slice none 0 0,.int .i64 0]) ?_ 1 _ rfl;refine aW (cs:=#[.int .i64 0,.bool false,.slice none 0 0,.string (⟨#[]⟩:ByteArray),.string (⟨#[]⟩:ByteArray),.bool false,.slice none 0 0,.slice none 0 0,.int .i64 0]) ?_ 0 _ rfl;exact eF.out))):p:=h
theorem Nt {p:Prop} (h:p:=by exact (Kd.dG (Kd.bS (p:=⟨kT,12,none⟩) (Kd.bS (p:=⟨kT,11,none⟩) (Kd.bS (p:=⟨kT,10,none⟩) (Kd.bS (p:=⟨kT,9,none⟩) (Kd.bS (p:=⟨kT,8,none⟩) (Kd.bS (p:=⟨kT,7,none⟩) (Kd.bS (p:=⟨kT,6,none⟩) (Kd.bS (p:=⟨kT,5,none⟩) (Kd.bS (p:=⟨kT,4,none⟩) (Kd.bS (p:=⟨kT,3,none⟩) (Kd.bS (p:=⟨kT,2,none⟩) (Kd.bS (p:=⟨kT,1,none⟩) (Kd.bS (p:=⟨kT,0,none⟩) (Kd.fN cu.out lI.out (by decide)) (fun _ hk=>hk.2) (.int .u8 ((bM dQ cA).f0))) (fun _ hk=>hk.2) (.int .i64 ((bM dQ cA).f1))) (fun _ hk=>hk.2) (.int .i64 ((bM dQ cA).f2))) (fun _ hk=>hk.2) (.int .i64 ((bM dQ cA).f3))) (fun _ hk=>hk.2) (.int .i64 ((bM dQ cA).f4.f0))) (fun _ hk=>hk.2) (.bool ((bM dQ cA).f4.f1.f0))) (fun _ hk=>hk.2) (.slice uL ((bM dQ cA).f4.f1.f1).length uM)) (fun _ hk=>hk.2) (.string ((bM dQ cA).f4.f1.f2.f0))) (fun _ hk=>hk.2) (.string ((bM dQ cA).f4.f1.f2.f1))) (fun _ hk=>hk.2) (.bool ((bM dQ cA).f4.f1.f2.f2))) (fun _ hk=>hk.2) (.slice zy ((bM dQ cA).f4.f2).length zz)) (fun _ hk=>hk.2) (.slice CO ((bM dQ cA).f4.f3).length CP)) (fun _ hk=>hk.2) (.int .i64 ((bM dQ cA).f4.f4))) (fun _ h_ =>h_.1))):p:=h
theorem V2 {p:Prop} (h:p:=by refine aW (cs:=#[.int .i64 ((aj aT cD).f0),.bool ((aj aT cD).f1.f0),.slice pT ((aj aT cD).f1.f1).length pU,.string ((aj aT cD).f1.f2.f0),.string ((aj aT cD).f1.f2.f1),.bool ((aj aT cD).f1.f2.f2),.slice tP ((aj aT cD).f2).length tQ,.slice uN ((aj aT cD).f3).length uO,.int .i64 0]) ?_ 8 _ rfl;refine aW (cs:=#[.int .i64 ((aj aT cD).f0),.bool ((aj aT cD).f1.f0),.slice pT ((aj aT cD).f1.f1).length pU,.string ((aj aT cD).f1.f2.f0),.string ((aj aT cD).f1.f2.f1),.bool ((aj aT cD).f1.f2.f2),.slice tP ((aj aT cD).f2).length tQ,.slice none 0 0,.int .i64 0]) ?_ 7 _ rfl;refine aW (cs:=#[.int .i64 ((aj aT cD).f0),.bool ((aj aT cD).f1.f0),.slice pT ((aj aT cD).f1.f1).length pU,.string ((aj aT cD).f1.f2.f0),.string ((aj aT cD).f1.f2.f1),.bool ((aj aT cD).f1.f2.f2),.slice none 0 0,.slice none 0 0,.int .i64 0]) ?_ 6 _ rfl;refine aW (cs:=#[.int .i64 ((aj aT cD).f0),.bool ((aj aT cD).f1.f0),.slice pT ((aj aT cD).f1.f1).length pU,.string ((aj aT cD).f1.f2.f0),.string ((aj aT cD).f1.f2.f1),.bool false,.slice none 0 0,.slice none 0 0,.int .i64 0]) ?_ 5 _ rfl;refine aW (cs:=#[.int .i64 ((aj aT cD).f0),.bool ((aj aT cD).f1.f0),.slice pT ((aj aT cD).f1.f1).length pU,.string ((aj aT cD).f1.f2.f0),.string (⟨#[]⟩:ByteArray),.bool false,.slice none 0 0,.slice none 0 0,.int .i64 0]) ?_ 4 _ rfl;refine aW (cs:=#[.int .i64 ((aj aT cD).f0),.bool ((aj aT cD).f1.f0),.slice pT ((aj aT cD).f1.f1).length pU,.string (⟨#[]⟩:ByteArray),.string (⟨#[]⟩:ByteArray),.bool false,.slice none 0 0,.slice none 0 0,.int .i64 0]) ?_ 3 _ rfl;refine aW (cs:=#[.int .i64 ((aj aT cD).f0),.bool ((aj aT cD).f1.f0),.slice none 0 0,.string (⟨#[]⟩:ByteArray),.string (⟨#[]⟩:ByteArray),.bool false,.slice none 0 0,.slice none 0 0,.int .i64 0]) ?_ 2 _ rfl;refine aW (cs:=#[.int .i64 ((aj aT cD).f0),.bool false,.slice none 0 0,.string (⟨#[]⟩:ByteArray),.string (⟨#[]⟩:ByteArray),.bool false,.slice none 0 0,.slice none 0 0,.int .i64 0]) ?_ 1 _ rfl;refine aW (cs:=#[.int .i64 0,.bool false,.slice none 0 0,.string (⟨#[]⟩:ByteArray),.string (⟨#[]⟩:ByteArray),.bool false,.slice none 0 0,.slice none 0 0,.int .i64 0]) ?_ 0 _ rfl;exact gf.out):p:=h
theorem V3 {p:Prop} (h:p:=by refine aW (cs:=#[.int .i64 ((aj l1 aH).f0),.bool ((aj l1 aH).f1.f0),.slice uP ((aj l1 aH).f1.f1).length uQ,.string ((aj l1 aH).f1.f2.f0),.string ((aj l1 aH).f1.f2.f1),.bool ((aj l1 aH).f1.f2.f2),.slice Er ((aj l1 aH).f2).length Es,.slice Hj ((aj l1 aH).f3).length Hl,.int .i64 0]) ?_ 8 _ rfl;refine aW (cs:=#[.int .i64 ((aj l1 aH).f0),.bool ((aj l1 aH).f1.f0),.slice uP ((aj l1 aH).f1.f1).length uQ,.string ((aj l1 aH).f1.f2.f0),.string ((aj l1 aH).f1.f2.f1),.bool ((aj l1 aH).f1.f2.f2),.slice Er ((aj l1 aH).f2).length Es,.slice none 0 0,.int .i64 0]) ?_ 7 _ rfl;refine aW (cs:=#[.int .i64 ((aj l1 aH).f0),.bool ((aj l1 aH).f1.f0),.slice uP ((aj l1 aH).f1.f1).length uQ,.string ((aj l1 aH).f1.f2.f0),.string ((aj l1 aH).f1.f2.f1),.bool ((aj l1 aH).f1.f2.f2),.slice none 0 0,.slice none 0 0,.int .i64 0]) ?_ 6 _ rfl;refine aW (cs:=#[.int .i64 ((aj l1 aH).f0),.bool ((aj l1 aH).f1.f0),.slice uP ((aj l1 aH).f1.f1).length uQ,.string ((aj l1 aH).f1.f2.f0),.string ((aj l1 aH).f1.f2.f1),.bool false,.slice none 0 0,.slice none 0 0,.int .i64 0]) ?_ 5 _ rfl;refine aW (cs:=#[.int .i64 ((aj l1 aH).f0),.bool ((aj l1 aH).f1.f0),.slice uP ((aj l1 aH).f1.f1).length uQ,.string ((aj l1 aH).f1.f2.f0),.string (⟨#[]⟩:ByteArray),.bool false,.slice none 0 0,.slice none 0 0,.int .i64 0]) ?_ 4 _ rfl;refine aW (cs:=#[.int .i64 ((aj l1 aH).f0),.bool ((aj l1 aH).f1.f0),.slice uP ((aj l1 aH).f1.f1).length uQ,.string (⟨#[]⟩:ByteArray),.string (⟨#[]⟩:ByteArray),.bool false,.slice none 0 0,.slice none 0 0,.int .i64 0]) ?_ 3 _ rfl;refine aW (cs:=#[.int .i64 ((aj l1 aH).f0),.bool ((aj l1 aH).f1.f0),.slice none 0 0,.string (⟨#[]⟩:ByteArray),.string (⟨#[]⟩:ByteArray),.bool false,.slice none 0 0,.slice none 0 0,.int .i64 0]) ?_ 2 _ rfl;refine aW (cs:=#[.int .i64 ((aj l1 aH).f0),.bool false,.slice none 0 0,.string (⟨#[]⟩:ByteArray),.string (⟨#[]⟩:ByteArray),.bool false,.slice none 0 0,.slice none 0 0,.int .i64 0]) ?_ 1 _ rfl;refine aW (cs:=#[.int .i64 0,.bool false,.slice none 0 0,.string (⟨#[]⟩:ByteArray),.string (⟨#[]⟩:ByteArray),.bool false,.slice none 0 0,.slice none 0 0,.int .i64 0]) ?_ 0 _ rfl;exact jf.out):p:=h
theorem aA {p:Prop} (h:p:=by omega):p:=h
theorem Ho {p:Prop} (h:p:=by exact (Kd.cB (Kd.bf (p:=⟨cZ,5,none⟩) (Kd.bf (p:=⟨cZ,4,none⟩) (Kd.bf (p:=⟨cZ,3,none⟩) (Kd.bf (p:=⟨cZ,2,none⟩) (Kd.bf (p:=⟨cZ,1,none⟩) (Kd.bf (p:=⟨cZ,0,none⟩) (Kd.cS fW.out ij.out (by decide)) (fun _ hk=>hk.2) (.string ((bn ((aj aq bD).f2) dB).f0.f0))) (fun _ hk=>hk.2) (.string ((bn ((aj aq bD).f2) dB).f0.f1))) (fun _ hk=>hk.2) (.bool ((bn ((aj aq bD).f2) dB).f0.f2))) (fun _ hk=>hk.2) (.int .u8 ((bn ((aj aq bD).f2) dB).f1))) (fun _ hk=>hk.2) (.int .i64 ((bn ((aj aq bD).f2) dB).f2))) (fun _ hk=>hk.2) (.int .i64 ((bn ((aj aq bD).f2) dB).f3))) (fun _ h_ =>h_.1))):p:=h
theorem bC {p:Prop} (h:p:=by decide):p:=h
theorem Nu {p:Prop} (h:p:=by exact Kd.cB (Kd.bf (p:=⟨cZ,5,none⟩) (Kd.bf (p:=⟨cZ,4,none⟩) (Kd.bf (p:=⟨cZ,3,none⟩) (Kd.bf (p:=⟨cZ,2,none⟩) (Kd.bf (p:=⟨cZ,1,none⟩) (Kd.bf (p:=⟨cZ,0,none⟩) (Kd.cS fW.out ij.out (by decide)) (fun _ hk=>hk.2) (.string ((bn ((aj aq bD).f2) dB).f0.f0))) (fun _ hk=>hk.2) (.string ((bn ((aj aq bD).f2) dB).f0.f1))) (fun _ hk=>hk.2) (.bool ((bn ((aj aq bD).f2) dB).f0.f2))) (fun _ hk=>hk.2) (.int .u8 ((bn ((aj aq bD).f2) dB).f1))) (fun _ hk=>hk.2) (.int .i64 ((bn ((aj aq bD).f2) dB).f2))) (fun _ hk=>hk.2) (.int .i64 ((bn ((aj aq bD).f2) dB).f3))) (fun _ hk=>trivial)):p:=h
theorem jl {p:Prop} (h:p:=by repeat (first|exact ia.refl _|apply ia.step)):p:=h
theorem Nv {p:Prop} (h:p:=by exact Kd.cB (Kd.bf (p:=⟨iB,5,none⟩) (Kd.bf (p:=⟨iB,4,none⟩) (Kd.bf (p:=⟨iB,3,none⟩) (Kd.bf (p:=⟨iB,2,none⟩) (Kd.bf (p:=⟨iB,1,none⟩) (Kd.bf (p:=⟨iB,0,none⟩) (Kd.cS CI.out iN.out (by decide)) (fun _ hk=>hk.2) (.string ((bn ((aj aT bp).f2) gQ).f0.f0))) (fun _ hk=>hk.2) (.string ((bn ((aj aT bp).f2) gQ).f0.f1))) (fun _ hk=>hk.2) (.bool ((bn ((aj aT bp).f2) gQ).f0.f2))) (fun _ hk=>hk.2) (.int .u8 ((bn ((aj aT bp).f2) gQ).f1))) (fun _ hk=>hk.2) (.int .i64 ((bn ((aj aT bp).f2) gQ).f2))) (fun _ hk=>hk.2) (.int .i64 ((bn ((aj aT bp).f2) gQ).f3))) (fun _ hk=>trivial)):p:=h
theorem uR {p:Prop} (h:p:=by rintro w' ⟨s0,s1,s2,s3,s4,s5,s6,s7,s8,s9,F6,F9,s12,Gp,Gq,Gr,Gs,Gt,Gu,s19,s20,s21,s22,s23,s24,s25,s26,s27,s28,s29⟩;go_simp;with_reducible rfl):p:=h
theorem Et {p:Prop} (h:p:=by exact (Kd.cB (Kd.bf (p:=⟨eV,1,none⟩) (Kd.bf (p:=⟨eV,0,none⟩) (Kd.cB fW.out (fun k_ hk=>(⟨hk,hk.2⟩:_∧k_≠eV))) (fun _ hk=>hk.2) (.int .i64 ((cT eH eT).f0))) (fun _ hk=>hk.2) (.int .i64 ((cT eH eT).f1))) (fun _ h_ =>h_.1))):p:=h
theorem Eu {p:Prop} (h:p:=by exact (Kd.cB (Kd.bf (p:=⟨eV,1,none⟩) (Kd.bf (p:=⟨eV,0,none⟩) (Kd.cB jS.out (fun k_ hk=>(⟨hk,hk.2⟩:_∧k_≠eV))) (fun _ hk=>hk.2) (.int .i64 ((cT eH eT).f0))) (fun _ hk=>hk.2) (.int .i64 ((cT eH eT).f1))) (fun _ h_ =>h_.1))):p:=h
theorem nI {p:Prop} (h:p:=by have:=World.block_lt_of_cell? _ _ eZ;rwa [add_block] at this):p:=h
theorem o8 {p:Prop} (h:p:=by repeat ((with_reducible first|exact HB.out|refine cC ?_ LB.out))):p:=h
theorem V4 {p:Prop} (h:p:=by exact (Kd.dG (Kd.bS (p:=⟨bJ,12,none⟩) (Kd.bS (p:=⟨bJ,11,none⟩) (Kd.bS (p:=⟨bJ,10,none⟩) (Kd.bS (p:=⟨bJ,9,none⟩) (Kd.bS (p:=⟨bJ,8,none⟩) (Kd.bS (p:=⟨bJ,7,none⟩) (Kd.bS (p:=⟨bJ,6,none⟩) (Kd.bS (p:=⟨bJ,5,none⟩) (Kd.bS (p:=⟨bJ,4,none⟩) (Kd.bS (p:=⟨bJ,3,none⟩) (Kd.bS (p:=⟨bJ,2,none⟩) (Kd.bS (p:=⟨bJ,1,none⟩) (Kd.bS (p:=⟨bJ,0,none⟩) (Kd.fN n7.out fu.out (by decide)) (fun _ hk=>hk.2) (.int .u8 pN)) (fun _ hk=>hk.2) (.int .i64 pV)) (fun _ hk=>hk.2) (.int .i64 qq)) (fun _ hk=>hk.2) (.int .i64 qz)) (fun _ hk=>hk.2) (.int .i64 qO)) (fun _ hk=>hk.2) (.bool q9)) (fun _ hk=>hk.2) (.slice rq ru.length ry)) (fun _ hk=>hk.2) (.string rY)) (fun _ hk=>hk.2) (.string sL)) (fun _ hk=>hk.2) (.bool tR)) (fun _ hk=>hk.2) (.slice um tS.length uo)) (fun _ hk=>hk.2) (.slice uS uq.length uT)) (fun _ hk=>hk.2) (.int .i64 wT)) (fun _ h_ =>h_.1))):p:=h
theorem pW {p:Prop} (h:p:=by repeat ((with_reducible first|exact HB.out|refine cC ?_ aew.out))):p:=h
theorem V5 {p:Prop} (h:p:=by exact (Kd.cB (Kd.bf (p:=⟨gU,8,none⟩) (Kd.bf (p:=⟨gU,7,none⟩) (Kd.bf (p:=⟨gU,6,none⟩) (Kd.bf (p:=⟨gU,5,none⟩) (Kd.bf (p:=⟨gU,4,none⟩) (Kd.bf (p:=⟨gU,3,none⟩) (Kd.bf (p:=⟨gU,2,none⟩) (Kd.bf (p:=⟨gU,1,none⟩) (Kd.bf (p:=⟨gU,0,none⟩) (Kd.cS Bo.out gf.out (by decide)) (fun _ hk=>hk.2) (.int .i64 ((aj aT cD).f0))) (fun _ hk=>hk.2) (.bool ((aj aT cD).f1.f0))) (fun _ hk=>hk.2) (.slice pT ((aj aT cD).f1.f1).length pU)) (fun _ hk=>hk.2) (.string ((aj aT cD).f1.f2.f0))) (fun _ hk=>hk.2) (.string ((aj aT cD).f1.f2.f1))) (fun _ hk=>hk.2) (.bool ((aj aT cD).f1.f2.f2))) (fun _ hk=>hk.2) (.slice tP ((aj aT cD).f2).length tQ)) (fun _ hk=>hk.2) (.slice uN ((aj aT cD).f3).length uO)) (fun _ hk=>hk.2) (.int .i64 ((aj aT cD).f4))) (fun _ h_ =>h_.1))):p:=h
theorem qA {p:Prop} (h:p:=by rintro w' ⟨s0,s1,s2,s3,s4,s5,s6,s7,s8⟩;go_simp;with_reducible rfl):p:=h
theorem jH {p:Prop} (h:p:=by exact dx.out):p:=h
theorem kU {p:Prop} (h:p:=by repeat ((with_reducible exact HK.out))):p:=h
theorem V6 {p:Prop} (h:p:=by exact Kd.dG (Kd.bS (p:=⟨cZ,5,none⟩) (Kd.bS (p:=⟨cZ,4,none⟩) (Kd.bS (p:=⟨cZ,3,none⟩) (Kd.bS (p:=⟨cZ,2,none⟩) (Kd.bS (p:=⟨cZ,1,none⟩) (Kd.bS (p:=⟨cZ,0,none⟩) (Kd.dG cu.out (fun k_ hk=>(⟨hk,hk.2⟩:_∧k_≠cZ))) (fun _ hk=>hk.2) (.string ((bn ((aj aq bD).f2) dB).f0.f0))) (fun _ hk=>hk.2) (.string ((bn ((aj aq bD).f2) dB).f0.f1))) (fun _ hk=>hk.2) (.bool ((bn ((aj aq bD).f2) dB).f0.f2))) (fun _ hk=>hk.2) (.int .u8 ((bn ((aj aq bD).f2) dB).f1))) (fun _ hk=>hk.2) (.int .i64 ((bn ((aj aq bD).f2) dB).f2))) (fun _ hk=>hk.2) (.int .i64 ((bn ((aj aq bD).f2) dB).f3))) (fun _ hk=>hk.1.1)):p:=h
theorem V7 {p:Prop} (h:p:=by exact Kd.cB (Kd.bf (p:=⟨cZ,5,none⟩) (Kd.bf (p:=⟨cZ,4,none⟩) (Kd.bf (p:=⟨cZ,3,none⟩) (Kd.bf (p:=⟨cZ,2,none⟩) (Kd.bf (p:=⟨cZ,1,none⟩) (Kd.bf (p:=⟨cZ,0,none⟩) (Kd.cB jV.out (fun k_ hk=>(⟨hk,hk.2⟩:_∧k_≠cZ))) (fun _ hk=>hk.2) (.string ((bn ((aj aq bD).f2) dB).f0.f0))) (fun _ hk=>hk.2) (.string ((bn ((aj aq bD).f2) dB).f0.f1))) (fun _ hk=>hk.2) (.bool ((bn ((aj aq bD).f2) dB).f0.f2))) (fun _ hk=>hk.2) (.int .u8 ((bn ((aj aq bD).f2) dB).f1))) (fun _ hk=>hk.2) (.int .i64 ((bn ((aj aq bD).f2) dB).f2))) (fun _ hk=>hk.2) (.int .i64 ((bn ((aj aq bD).f2) dB).f3))) (fun _ hk=>hk.1.1)):p:=h
theorem V8 {p:Prop} (h:p:=by exact Kd.dG (Kd.bS (p:=⟨cZ,5,none⟩) (Kd.bS (p:=⟨cZ,4,none⟩) (Kd.bS (p:=⟨cZ,3,none⟩) (Kd.bS (p:=⟨cZ,2,none⟩) (Kd.bS (p:=⟨cZ,1,none⟩) (Kd.bS (p:=⟨cZ,0,none⟩) (Kd.dG nr.out (fun k_ hk=>(⟨hk,hk.2⟩:_∧k_≠cZ))) (fun _ hk=>hk.2) (.string ((bn ((aj aq bD).f2) dB).f0.f0))) (fun _ hk=>hk.2) (.string ((bn ((aj aq bD).f2) dB).f0.f1))) (fun _ hk=>hk.2) (.bool ((bn ((aj aq bD).f2) dB).f0.f2))) (fun _ hk=>hk.2) (.int .u8 ((bn ((aj aq bD).f2) dB).f1))) (fun _ hk=>hk.2) (.int .i64 ((bn ((aj aq bD).f2) dB).f2))) (fun _ hk=>hk.2) (.int .i64 ((bn ((aj aq bD).f2) dB).f3))) (fun _ hk=>hk.1.1)):p:=h
theorem V9 {p:Prop} (h:p:=by exact Kd.cB (Kd.bf (p:=⟨cZ,5,none⟩) (Kd.bf (p:=⟨cZ,4,none⟩) (Kd.bf (p:=⟨cZ,3,none⟩) (Kd.bf (p:=⟨cZ,2,none⟩) (Kd.bf (p:=⟨cZ,1,none⟩) (Kd.bf (p:=⟨cZ,0,none⟩) (Kd.cS nu.out ij.out (by decide)) (fun _ hk=>hk.2) (.string ((bn ((aj aq bD).f2) dB).f0.f0))) (fun _ hk=>hk.2) (.string ((bn ((aj aq bD).f2) dB).f0.f1))) (fun _ hk=>hk.2) (.bool ((bn ((aj aq bD).f2) dB).f0.f2))) (fun _ hk=>hk.2) (.int .u8 ((bn ((aj aq bD).f2) dB).f1))) (fun _ hk=>hk.2) (.int .i64 ((bn ((aj aq bD).f2) dB).f2))) (fun _ hk=>hk.2) (.int .i64 ((bn ((aj aq bD).f2) dB).f3))) (fun _ hk=>trivial)):p:=h
theorem o9 {p:Prop} (h:p:=by rw [hg];exact Nat.ne_of_lt (eD (by exact dx.out))):p:=h
theorem pg {p:Prop} (h:p:=by rw [hg];exact Nat.ne_of_gt (eD (by exact dx.out))):p:=h
theorem Ew {p:Prop} (h:p:=by refine aW (cs:=#[.int .i64 ((cT eH eT).f0),.int .i64 0]) ?_ 1 _ rfl;refine aW (cs:=#[.int .i64 0,.int .i64 0]) ?_ 0 _ rfl;exact iF.out):p:=h
theorem uU {p:Prop} (h:p:=by repeat ((with_reducible first|exact HB.out|refine cC ?_ LC.out))):p:=h
theorem wX {p:Prop} (h:p:=by refine aR ?_ mh.out _;refine aR ?_ mh.out _;exact iF.out):p:=h
theorem wY {p:Prop} (h:p:=by repeat ((with_reducible first|exact HB.out|refine cC ?_ aex.out))):p:=h
theorem mj {p:Prop} (h:p:=by repeat (exact ia.refl _)):p:=h
theorem tT {p:Prop} (h:p:=by (with_reducible repeat (apply Kd.sS));exact gh.out):p:=h
theorem nJ {p:Prop} (h:p:=by (rw [add_block];exact CQ)):p:=h
theorem nK {p:Prop} (h:p:=by (rw [add_block];exact CR)):p:=h
theorem nL {p:Prop} (h:p:=by (rw [add_block];exact CS)):p:=h
theorem nM {p:Prop} (h:p:=by (rw [add_block];exact CT)):p:=h
theorem nN {p:Prop} (h:p:=by (rw [add_block];exact CU)):p:=h
theorem nO {p:Prop} (h:p:=by (rw [add_block];exact CV)):p:=h
theorem nP {p:Prop} (h:p:=by (rw [add_block];exact CX)):p:=h
theorem nQ {p:Prop} (h:p:=by (rw [add_block];exact CY)):p:=h
theorem nR {p:Prop} (h:p:=by (rw [add_block];exact CZ)):p:=h
theorem uV {p:Prop} (h:p:=by simp only [List.map_toArray,List.map_cons,List.map_nil];rfl):p:=h
theorem Nw {p:Prop} (h:p:=by exact (Kd.dG (Kd.bS (p:=⟨jm,1,none⟩) (Kd.bS (p:=⟨jm,0,none⟩) (Kd.fN n7.out jg.out (by decide)) (fun _ hk=>hk.2) (.int .i64 t341)) (fun _ hk=>hk.2) (.slice uW qP.length sM)) (fun _ h_ =>h_.1))):p:=h
theorem Ny {p:Prop} (h:p:=by exact (Kd.dG (Kd.bS (p:=⟨jQ,1,none⟩) (Kd.bS (p:=⟨jQ,0,none⟩) (Kd.fN n7.out lA.out (by decide)) (fun _ hk=>hk.2) (.int .i64 yV)) (fun _ hk=>hk.2) (.slice yx wZ.length yz)) (fun _ h_ =>h_.1))):p:=h
theorem Nz {p:Prop} (h:p:=by exact (Kd.dG (Kd.bS (p:=⟨jo,1,none⟩) (Kd.bS (p:=⟨jo,0,none⟩) (Kd.fN rZ.out lB.out (by decide)) (fun _ hk=>hk.2) (.int .i64 wU)) (fun _ hk=>hk.2) (.slice yA uX.length xd)) (fun _ h_ =>h_.1))):p:=h
theorem Hp {p:Prop} (h:p:=by refine aW (cs:=#[.int .i64 nS,.slice none 0 0]) ?_ 1 _ rfl;refine aW (cs:=#[.int .i64 0,.slice none 0 0]) ?_ 0 _ rfl;exact gV.out):p:=h
theorem NA {p:Prop} (h:p:=by refine aR ?_ mo.out _;refine aR ?_ mo.out _;refine aR ?_ mo.out _;refine aR ?_ mo.out _;refine aR ?_ mo.out _;refine aR ?_ mo.out _;exact qQ.out):p:=h
theorem NB {p:Prop} (h:p:=by refine aR ?_ mq.out _;refine aR ?_ mq.out _;refine aR ?_ mq.out _;refine aR ?_ mq.out _;refine aR ?_ mq.out _;refine aR ?_ mq.out _;exact gW.out):p:=h
theorem NC {p:Prop} (h:p:=by refine aR ?_ mz.out _;refine aR ?_ mz.out _;refine aR ?_ mz.out _;refine aR ?_ mz.out _;refine aR ?_ mz.out _;refine aR ?_ mz.out _;exact dx.out):p:=h
theorem ND {p:Prop} (h:p:=by refine aR ?_ mA.out _;refine aR ?_ mA.out _;refine aR ?_ mA.out _;refine aR ?_ mA.out _;refine aR ?_ mA.out _;refine aR ?_ mA.out _;exact fk.out):p:=h
theorem lS {p:Prop} (h:p:=by have:=oI.out;omega):p:=h
theorem lC {p:Prop} (h:p:=by exact cu.out):p:=h
theorem Wa {p:Prop} (h:p:=by repeat ((with_reducible first|exact HB.out|refine cC ?_ Wb.out))):p:=h
theorem Bp {p:Prop} (h:p:=by repeat ((with_reducible first|exact HB.out|refine cC ?_ aiD.out))):p:=h
theorem tU {p:Prop} (h:p:=by repeat ((with_reducible exact sU.out))):p:=h
theorem kr {p:Prop} (h:p:=by exact ay.out):p:=h
theorem ku {p:Prop} (h:p:=by exact fW.out):p:=h
theorem yX {p:Prop} (h:p:=by rw [hg];exact Nat.ne_of_lt (eD (by exact cy.out))):p:=h
theorem yY {p:Prop} (h:p:=by rw [hg];exact Nat.ne_of_gt (eD (by exact cy.out))):p:=h
theorem Ex {p:Prop} (h:p:=by refine aR ?_ mB.out _;refine aR ?_ mB.out _;exact dx.out):p:=h
theorem Ey {p:Prop} (h:p:=by refine aR ?_ mC.out _;refine aR ?_ mC.out _;exact dx.out):p:=h
theorem xe {p:Prop} (h:p:=by first|(with_reducible assumption)|assumption):p:=h
theorem Hq {p:Prop} (h:p:=by rw [hg];exact (bV (by repeat ((with_reducible first|exact HB.out|refine cC ?_ Wb.out))))):p:=h
theorem Wc {p:Prop} (h:p:=by refine aR ?_ lD.out _;refine aR ?_ lD.out _;refine aR ?_ lD.out _;refine aR ?_ lD.out _;refine aR ?_ lD.out _;refine aR ?_ lD.out _;refine aR ?_ lD.out _;refine aR ?_ lD.out _;refine aR ?_ lD.out _;exact ur.out):p:=h
theorem yZ {p:Prop} (h:p:=by rintro w' ⟨s0,s1,s2⟩;go_simp;with_reducible rfl):p:=h
theorem Wd {p:Prop} (h:p:=by refine aR ?_ lF.out _;refine aR ?_ lF.out _;refine aR ?_ lF.out _;refine aR ?_ lF.out _;refine aR ?_ lF.out _;refine aR ?_ lF.out _;refine aR ?_ lF.out _;refine aR ?_ lF.out _;refine aR ?_ lF.out _;exact eF.out):p:=h
theorem dz {p:Prop} (h:p:=by simp):p:=h
theorem za {p:Prop} (h:p:=by exact cy.out):p:=h
theorem Ez {p:Prop} (h:p:=by have:=oI.out;have:=Gv.out;have:=UC.out;have:=HK4.out;omega):p:=h
theorem tV {p:Prop} (h:p:=by exact cG.out):p:=h
theorem Hr {p:Prop} (h:p:=by (with_reducible repeat (apply Kd.sS));exact Kd.cB fW.out (fun _ hk=>trivial)):p:=h
theorem uY {p:Prop} (h:p:=by exact iO.out):p:=h
theorem We {p:Prop} (h:p:=by exact (Kd.dG (Kd.bS (p:=⟨eu,1,none⟩) (Kd.bS (p:=⟨eu,0,none⟩) (Kd.fN kV.out gV.out (by decide)) (fun _ hk=>hk.2) (.int .i64 nS)) (fun _ hk=>hk.2) (.slice Gw mP.length EA)) (fun _ h_ =>h_.1))):p:=h
theorem Wf {p:Prop} (h:p:=by exact (Kd.cB (Kd.bf (p:=⟨eu,1,none⟩) (Kd.bf (p:=⟨eu,0,none⟩) (Kd.cS fW.out gV.out (by decide)) (fun _ hk=>hk.2) (.int .i64 nS)) (fun _ hk=>hk.2) (.slice Gw mP.length EA)) (fun _ h_ =>h_.1))):p:=h
theorem Wh {p:Prop} (h:p:=by exact (Kd.cB (Kd.bf (p:=⟨eu,1,none⟩) (Kd.bf (p:=⟨eu,0,none⟩) (Kd.cS jS.out gV.out (by decide)) (fun _ hk=>hk.2) (.int .i64 nS)) (fun _ hk=>hk.2) (.slice Gw mP.length EA)) (fun _ h_ =>h_.1))):p:=h
theorem Wi {p:Prop} (h:p:=by exact (Kd.dG (Kd.bS (p:=⟨eu,1,none⟩) (Kd.bS (p:=⟨eu,0,none⟩) (Kd.fN kV.out gV.out (by decide)) (fun _ hk=>hk.2) (.int .i64 nS)) (fun _ hk=>hk.2) (.slice Gx mP.length EB)) (fun _ h_ =>h_.1))):p:=h
theorem Wj {p:Prop} (h:p:=by exact (Kd.cB (Kd.bf (p:=⟨eu,1,none⟩) (Kd.bf (p:=⟨eu,0,none⟩) (Kd.cS fW.out gV.out (by decide)) (fun _ hk=>hk.2) (.int .i64 nS)) (fun _ hk=>hk.2) (.slice Gx mP.length EB)) (fun _ h_ =>h_.1))):p:=h
theorem Wk {p:Prop} (h:p:=by exact (Kd.cB (Kd.bf (p:=⟨eu,1,none⟩) (Kd.bf (p:=⟨eu,0,none⟩) (Kd.cS jS.out gV.out (by decide)) (fun _ hk=>hk.2) (.int .i64 nS)) (fun _ hk=>hk.2) (.slice Gx mP.length EB)) (fun _ h_ =>h_.1))):p:=h
theorem Wl {p:Prop} (h:p:=by exact (Kd.dG (Kd.bS (p:=⟨eu,1,none⟩) (Kd.bS (p:=⟨eu,0,none⟩) (Kd.fN kV.out gV.out (by decide)) (fun _ hk=>hk.2) (.int .i64 nS)) (fun _ hk=>hk.2) (.slice Gy mP.length EC)) (fun _ h_ =>h_.1))):p:=h
theorem Wm {p:Prop} (h:p:=by exact (Kd.cB (Kd.bf (p:=⟨eu,1,none⟩) (Kd.bf (p:=⟨eu,0,none⟩) (Kd.cS fW.out gV.out (by decide)) (fun _ hk=>hk.2) (.int .i64 nS)) (fun _ hk=>hk.2) (.slice Gy mP.length EC)) (fun _ h_ =>h_.1))):p:=h
theorem Wn {p:Prop} (h:p:=by exact (Kd.cB (Kd.bf (p:=⟨eu,1,none⟩) (Kd.bf (p:=⟨eu,0,none⟩) (Kd.cS jS.out gV.out (by decide)) (fun _ hk=>hk.2) (.int .i64 nS)) (fun _ hk=>hk.2) (.slice Gy mP.length EC)) (fun _ h_ =>h_.1))):p:=h
theorem Wo {p:Prop} (h:p:=by exact (Kd.dG (Kd.bS (p:=⟨eu,1,none⟩) (Kd.bS (p:=⟨eu,0,none⟩) (Kd.fN kV.out gV.out (by decide)) (fun _ hk=>hk.2) (.int .i64 nS)) (fun _ hk=>hk.2) (.slice Gz mP.length ED)) (fun _ h_ =>h_.1))):p:=h
theorem Wp {p:Prop} (h:p:=by exact (Kd.cB (Kd.bf (p:=⟨eu,1,none⟩) (Kd.bf (p:=⟨eu,0,none⟩) (Kd.cS fW.out gV.out (by decide)) (fun _ hk=>hk.2) (.int .i64 nS)) (fun _ hk=>hk.2) (.slice Gz mP.length ED)) (fun _ h_ =>h_.1))):p:=h
theorem Wq {p:Prop} (h:p:=by exact (Kd.cB (Kd.bf (p:=⟨eu,1,none⟩) (Kd.bf (p:=⟨eu,0,none⟩) (Kd.cS jS.out gV.out (by decide)) (fun _ hk=>hk.2) (.int .i64 nS)) (fun _ hk=>hk.2) (.slice Gz mP.length ED)) (fun _ h_ =>h_.1))):p:=h
theorem Ws {p:Prop} (h:p:=by exact (Kd.dG (Kd.bS (p:=⟨jR,1,none⟩) (Kd.bS (p:=⟨jR,0,none⟩) (Kd.fN mD.out iO.out (by decide)) (fun _ hk=>hk.2) (.int .i64 t332)) (fun _ hk=>hk.2) (.slice uu t333.length tW)) (fun _ h_ =>h_.1))):p:=h
theorem Wt {p:Prop} (h:p:=by exact (Kd.dG (Kd.bS (p:=⟨jm,1,none⟩) (Kd.bS (p:=⟨jm,0,none⟩) (Kd.fN lJ.out jg.out (by decide)) (fun _ hk=>hk.2) (.int .i64 t341)) (fun _ hk=>hk.2) (.slice uW qP.length sM)) (fun _ h_ =>h_.1))):p:=h
theorem Wu {p:Prop} (h:p:=by exact (Kd.cB (Kd.bf (p:=⟨jm,1,none⟩) (Kd.bf (p:=⟨jm,0,none⟩) (Kd.cS lX.out jg.out (by decide)) (fun _ hk=>hk.2) (.int .i64 t341)) (fun _ hk=>hk.2) (.slice uW qP.length sM)) (fun _ h_ =>h_.1))):p:=h
theorem Wv {p:Prop} (h:p:=by exact (Kd.cB (Kd.bf (p:=⟨jm,1,none⟩) (Kd.bf (p:=⟨jm,0,none⟩) (Kd.cS mE.out jg.out (by decide)) (fun _ hk=>hk.2) (.int .i64 t341)) (fun _ hk=>hk.2) (.slice uW qP.length sM)) (fun _ h_ =>h_.1))):p:=h
theorem Pn {p:Prop} (h:p:=by exact (Kd.cB (Kd.bf (p:=⟨jm,1,none⟩) (Kd.bf (p:=⟨jm,0,none⟩) (Kd.cS mF.out jg.out (by decide)) (fun _ hk=>hk.2) (.int .i64 t341)) (fun _ hk=>hk.2) (.slice uW qP.length sM)) (fun _ h_ =>h_.1))):p:=h
theorem Po {p:Prop} (h:p:=by exact (Kd.cB (Kd.bf (p:=⟨jm,1,none⟩) (Kd.bf (p:=⟨jm,0,none⟩) (Kd.cS mG.out jg.out (by decide)) (fun _ hk=>hk.2) (.int .i64 t341)) (fun _ hk=>hk.2) (.slice uW qP.length sM)) (fun _ h_ =>h_.1))):p:=h
theorem Pp {p:Prop} (h:p:=by exact (Kd.dG (Kd.bS (p:=⟨jm,1,none⟩) (Kd.bS (p:=⟨jm,0,none⟩) (Kd.fN mD.out jg.out (by decide)) (fun _ hk=>hk.2) (.int .i64 t341)) (fun _ hk=>hk.2) (.slice uW qP.length sM)) (fun _ h_ =>h_.1))):p:=h
theorem Pq {p:Prop} (h:p:=by exact (Kd.dG (Kd.bS (p:=⟨jQ,1,none⟩) (Kd.bS (p:=⟨jQ,0,none⟩) (Kd.fN lJ.out lA.out (by decide)) (fun _ hk=>hk.2) (.int .i64 yV)) (fun _ hk=>hk.2) (.slice yx wZ.length yz)) (fun _ h_ =>h_.1))):p:=h
theorem Pr {p:Prop} (h:p:=by exact (Kd.cB (Kd.bf (p:=⟨jQ,1,none⟩) (Kd.bf (p:=⟨jQ,0,none⟩) (Kd.cS lX.out lA.out (by decide)) (fun _ hk=>hk.2) (.int .i64 yV)) (fun _ hk=>hk.2) (.slice yx wZ.length yz)) (fun _ h_ =>h_.1))):p:=h
theorem Pv {p:Prop} (h:p:=by exact (Kd.cB (Kd.bf (p:=⟨jQ,1,none⟩) (Kd.bf (p:=⟨jQ,0,none⟩) (Kd.cS mE.out lA.out (by decide)) (fun _ hk=>hk.2) (.int .i64 yV)) (fun _ hk=>hk.2) (.slice yx wZ.length yz)) (fun _ h_ =>h_.1))):p:=h
theorem Pw {p:Prop} (h:p:=by exact (Kd.cB (Kd.bf (p:=⟨jQ,1,none⟩) (Kd.bf (p:=⟨jQ,0,none⟩) (Kd.cS mF.out lA.out (by decide)) (fun _ hk=>hk.2) (.int .i64 yV)) (fun _ hk=>hk.2) (.slice yx wZ.length yz)) (fun _ h_ =>h_.1))):p:=h
theorem Px {p:Prop} (h:p:=by exact (Kd.cB (Kd.bf (p:=⟨jQ,1,none⟩) (Kd.bf (p:=⟨jQ,0,none⟩) (Kd.cS mG.out lA.out (by decide)) (fun _ hk=>hk.2) (.int .i64 yV)) (fun _ hk=>hk.2) (.slice yx wZ.length yz)) (fun _ h_ =>h_.1))):p:=h
theorem Py {p:Prop} (h:p:=by exact (Kd.dG (Kd.bS (p:=⟨jQ,1,none⟩) (Kd.bS (p:=⟨jQ,0,none⟩) (Kd.fN mD.out lA.out (by decide)) (fun _ hk=>hk.2) (.int .i64 yV)) (fun _ hk=>hk.2) (.slice yx wZ.length yz)) (fun _ h_ =>h_.1))):p:=h
theorem Pz {p:Prop} (h:p:=by exact (Kd.dG (Kd.bS (p:=⟨jQ,1,none⟩) (Kd.bS (p:=⟨jQ,0,none⟩) (Kd.fN qR.out lA.out (by decide)) (fun _ hk=>hk.2) (.int .i64 yV)) (fun _ hk=>hk.2) (.slice yx wZ.length yz)) (fun _ h_ =>h_.1))):p:=h
theorem PA {p:Prop} (h:p:=by exact (Kd.dG (Kd.bS (p:=⟨jo,1,none⟩) (Kd.bS (p:=⟨jo,0,none⟩) (Kd.fN lJ.out lB.out (by decide)) (fun _ hk=>hk.2) (.int .i64 wU)) (fun _ hk=>hk.2) (.slice yA uX.length xd)) (fun _ h_ =>h_.1))):p:=h
theorem PB {p:Prop} (h:p:=by exact (Kd.cB (Kd.bf (p:=⟨jo,1,none⟩) (Kd.bf (p:=⟨jo,0,none⟩) (Kd.cS lX.out lB.out (by decide)) (fun _ hk=>hk.2) (.int .i64 wU)) (fun _ hk=>hk.2) (.slice yA uX.length xd)) (fun _ h_ =>h_.1))):p:=h
theorem PC {p:Prop} (h:p:=by exact (Kd.cB (Kd.bf (p:=⟨jo,1,none⟩) (Kd.bf (p:=⟨jo,0,none⟩) (Kd.cS mE.out lB.out (by decide)) (fun _ hk=>hk.2) (.int .i64 wU)) (fun _ hk=>hk.2) (.slice yA uX.length xd)) (fun _ h_ =>h_.1))):p:=h
theorem PD {p:Prop} (h:p:=by exact (Kd.cB (Kd.bf (p:=⟨jo,1,none⟩) (Kd.bf (p:=⟨jo,0,none⟩) (Kd.cS mF.out lB.out (by decide)) (fun _ hk=>hk.2) (.int .i64 wU)) (fun _ hk=>hk.2) (.slice yA uX.length xd)) (fun _ h_ =>h_.1))):p:=h
theorem PE {p:Prop} (h:p:=by exact (Kd.cB (Kd.bf (p:=⟨jo,1,none⟩) (Kd.bf (p:=⟨jo,0,none⟩) (Kd.cS mG.out lB.out (by decide)) (fun _ hk=>hk.2) (.int .i64 wU)) (fun _ hk=>hk.2) (.slice yA uX.length xd)) (fun _ h_ =>h_.1))):p:=h
theorem PF {p:Prop} (h:p:=by exact (Kd.dG (Kd.bS (p:=⟨jo,1,none⟩) (Kd.bS (p:=⟨jo,0,none⟩) (Kd.fN mD.out lB.out (by decide)) (fun _ hk=>hk.2) (.int .i64 wU)) (fun _ hk=>hk.2) (.slice yA uX.length xd)) (fun _ h_ =>h_.1))):p:=h
theorem PG {p:Prop} (h:p:=by exact (Kd.dG (Kd.bS (p:=⟨jo,1,none⟩) (Kd.bS (p:=⟨jo,0,none⟩) (Kd.fN n7.out lB.out (by decide)) (fun _ hk=>hk.2) (.int .i64 wU)) (fun _ hk=>hk.2) (.slice yA uX.length xd)) (fun _ h_ =>h_.1))):p:=h
theorem PI {p:Prop} (h:p:=by exact (Kd.dG (Kd.bS (p:=⟨jo,1,none⟩) (Kd.bS (p:=⟨jo,0,none⟩) (Kd.fN qR.out lB.out (by decide)) (fun _ hk=>hk.2) (.int .i64 wU)) (fun _ hk=>hk.2) (.slice yA uX.length xd)) (fun _ h_ =>h_.1))):p:=h
theorem PJ {p:Prop} (h:p:=by exact (Kd.cB (Kd.bf (p:=⟨jC,1,none⟩) (Kd.bf (p:=⟨jC,0,none⟩) (Kd.cS mG.out nU.out (by decide)) (fun _ hk=>hk.2) (.int .i64 zb)) (fun _ hk=>hk.2) (.slice ze zf.length zg)) (fun _ h_ =>h_.1))):p:=h
theorem lK {p:Prop} (h:p:=by exact lX.out):p:=h
theorem xJ {p:Prop} (h:p:=by show w.heap.size≤w.heap.size + 1 + 1;omega):p:=h
theorem C0 {p:Prop} (h:p:=by repeat ((with_reducible first|exact HB.out|refine cC ?_ aey.out))):p:=h
theorem C2 {p:Prop} (h:p:=by repeat ((with_reducible first|exact HB.out|refine cC ?_ Ww.out))):p:=h
theorem C3 {p:Prop} (h:p:=by repeat ((with_reducible first|exact HB.out|refine cC ?_ Wx.out))):p:=h
theorem zA {p:Prop} (h:p:=by rw [hg];exact Nat.ne_of_lt (eD (by exact cG.out))):p:=h
theorem zB {p:Prop} (h:p:=by rw [hg];exact Nat.ne_of_gt (eD (by exact cG.out))):p:=h
theorem zC {p:Prop} (h:p:=by rw [hg];exact Nat.ne_of_lt (eD (by exact iO.out))):p:=h
theorem zD {p:Prop} (h:p:=by rw [hg];exact Nat.ne_of_gt (eD (by exact iO.out))):p:=h
theorem zE {p:Prop} (h:p:=by rw [hg];exact Nat.ne_of_lt (eD (by exact iF.out))):p:=h
theorem zF {p:Prop} (h:p:=by rw [hg];exact Nat.ne_of_gt (eD (by exact iF.out))):p:=h
theorem lZ {p:Prop} (h:p:=by exact lJ.out):p:=h
theorem zG {p:Prop} (h:p:=by have:=oI.out;have:=Gv.out;have:=HK3.out;omega):p:=h
theorem qH {p:Prop} (h:p:=by exact Kd.Cs _ _ _ _ _):p:=h
theorem mR {p:Prop} (h:p:=by exact aD.out):p:=h
theorem sV {p:Prop} (h:p:=by simp [Close,HF5.out,HN5.out]):p:=h
theorem uZ {p:Prop} (h:p:=by exact qQ.out):p:=h
theorem mS {p:Prop} (h:p:=by exact mE.out):p:=h
theorem mU {p:Prop} (h:p:=by exact mF.out):p:=h
theorem mV {p:Prop} (h:p:=by exact mG.out):p:=h
theorem u6 {p:Prop} (h:p:=by exact jg.out):p:=h
theorem zH {p:Prop} (h:p:=by exact iF.out):p:=h
theorem C4 {p:Prop} (h:p:=by repeat ((with_reducible first|exact sU.out|apply eW.drewN))):p:=h
theorem C5 {p:Prop} (h:p:=by rw [← HG2.out];simp only [xg];rw [HX.out,if_pos (by omega)]):p:=h
theorem C6 {p:Prop} (h:p:=by repeat ((with_reducible first|exact HK.out|apply EE))):p:=h
theorem xK {p:Prop} (h:p:=by have:=oI.out;have:=Gv.out;omega):p:=h
theorem C7 {p:Prop} (h:p:=by (with_reducible repeat (refine GA ?_ _));exact dx.out):p:=h
theorem rJ {p:Prop} (h:p:=by rw [iQ];omega):p:=h
theorem l5 {p:Prop} (h:p:=by go_simp;rfl):p:=h
theorem zI {p:Prop} (h:p:=by first|rfl|(simp;done)|(simp [*];done)):p:=h
theorem ou {p:Prop} (h:p:=by exact nu.out):p:=h
theorem C8 {p:Prop} (h:p:=by (with_reducible repeat (apply Kd.sS));exact jD.out):p:=h
theorem C9 {p:Prop} (h:p:=by rw [hg];exact Nat.ne_of_lt (eD (by exact qQ.out))):p:=h
theorem Da {p:Prop} (h:p:=by rw [hg];exact Nat.ne_of_gt (eD (by exact qQ.out))):p:=h
theorem Db {p:Prop} (h:p:=by rw [hg];exact Nat.ne_of_lt (eD (by exact jg.out))):p:=h
theorem Dc {p:Prop} (h:p:=by rw [hg];exact Nat.ne_of_gt (eD (by exact jg.out))):p:=h
theorem Hs {p:Prop} (h:p:=by rw [← HG2.out];simp only [xg];rw [HX.out,if_neg (by omega),if_neg (by omega)]):p:=h
theorem Ht {p:Prop} (h:p:=by rw [← HG2.out];simp only [xg];rw [HX.out,if_neg (by omega),if_pos (by omega)]):p:=h
theorem oZ {p:Prop} (h:p:=by exact mD.out):p:=h
theorem xL {p:Prop} (h:p:=by exact lA.out):p:=h
theorem Dd {p:Prop} (h:p:=by rw [← iH _ _ 1 (by omega)];exact hc 1 _ rfl):p:=h
theorem Hu {p:Prop} (h:p:=by repeat ((with_reducible first|exact HB.out|refine cC ?_ aiE.out))):p:=h
theorem Hv {p:Prop} (h:p:=by repeat ((with_reducible first|exact HB.out|refine cC ?_ aiF.out))):p:=h
theorem Hw {p:Prop} (h:p:=by repeat ((with_reducible first|exact HB.out|refine cC ?_ aiG.out))):p:=h
theorem Hx {p:Prop} (h:p:=by repeat ((with_reducible first|exact HB.out|refine cC ?_ aiH.out))):p:=h
theorem De {p:Prop} (h:p:=by exact Kd.dG cu.out (fun _ hk=>trivial)):p:=h
theorem pX {p:Prop} (h:p:=by exact cV.out):p:=h
theorem zJ {p:Prop} (h:p:=by exact lY.out):p:=h
theorem zK {p:Prop} (h:p:=by exact fk.out):p:=h
theorem pY {p:Prop} (h:p:=by exact jS.out):p:=h
theorem xM {p:Prop} (h:p:=by rw [List.length_drop];omega):p:=h
theorem Hy {p:Prop} (h:p:=by (try simp only [List.map_toArray,List.map_cons,List.map_nil]);done):p:=h
theorem qI {p:Prop} (h:p:=by exact ur.out):p:=h
theorem Df {p:Prop} (h:p:=by exact gW.out):p:=h
theorem xN {p:Prop} (h:p:=by rw [List.length_map];omega):p:=h
theorem nV {p:Prop} (h:p:=by assumption):p:=h
theorem Hz {p:Prop} (h:p:=by (with_reducible repeat (apply Kd.HJ));exact cu.out):p:=h
theorem rK {p:Prop} (h:p:=by exact oF.out):p:=h
theorem rL {p:Prop} (h:p:=by exact n7.out):p:=h
theorem rM {p:Prop} (h:p:=by exact lB.out):p:=h
theorem u7 {p:Prop} (h:p:=by unfold wrap64;omega):p:=h
theorem xO {p:Prop} (h:p:=by simp [HF5.out,HN5.out]):p:=h
theorem HQ {p:Prop} (h:p:=by rw [hg];exact Nat.ne_of_lt (eD (by exact lY.out))):p:=h
theorem H6 {p:Prop} (h:p:=by rw [hg];exact Nat.ne_of_gt (eD (by exact lY.out))):p:=h
theorem H7 {p:Prop} (h:p:=by rw [hg];exact Nat.ne_of_lt (eD (by exact gW.out))):p:=h
theorem H8 {p:Prop} (h:p:=by rw [hg];exact Nat.ne_of_gt (eD (by exact gW.out))):p:=h
theorem H9 {p:Prop} (h:p:=by rw [hg];exact Nat.ne_of_lt (eD (by exact lA.out))):p:=h
theorem Ia {p:Prop} (h:p:=by rw [hg];exact Nat.ne_of_gt (eD (by exact lA.out))):p:=h
theorem Ib {p:Prop} (h:p:=by rw [hg];exact Nat.ne_of_lt (eD (by exact fk.out))):p:=h
theorem Ic {p:Prop} (h:p:=by rw [hg];exact Nat.ne_of_gt (eD (by exact fk.out))):p:=h
theorem PK {p:Prop} (h:p:=by repeat ((with_reducible first|exact HB.out|apply gy|refine cC ?_ (eW.ge sU.out)))):p:=h
theorem Dg {p:Prop} (h:p:=by rw [List.length_append];simp;omega):p:=h
theorem Ie {p:Prop} (h:p:=by rw [← iH _ _ 2 (by omega)];exact hc 2 _ rfl):p:=h
theorem Ig {p:Prop} (h:p:=by rw [← iH _ _ 3 (by omega)];exact hc 3 _ rfl):p:=h
theorem Ih {p:Prop} (h:p:=by rw [← iH _ _ 4 (by omega)];exact hc 4 _ rfl):p:=h
theorem Ii {p:Prop} (h:p:=by rw [← iH _ _ 5 (by omega)];exact hc 5 _ rfl):p:=h
theorem sW {p:Prop} (h:p:=by exact gH.out):p:=h
theorem sX {p:Prop} (h:p:=by exact n9.out):p:=h
theorem sY {p:Prop} (h:p:=by exact qR.out):p:=h
theorem PL {p:Prop} (h:p:=by rintro w' ⟨s0,s1,s2,s3,s4,s5,s6,s7,s8,s9,F6,F9,s12⟩;go_simp;with_reducible rfl):p:=h
theorem PM {p:Prop} (h:p:=by have:=w2;simp [Lit.wf,IntKind.min,IntKind.max,IntKind.bits,IntKind.signed] at this;omega):p:=h
theorem PN {p:Prop} (h:p:=by (with_reducible repeat (apply Kd.HJ));exact Kd.dG cu.out (fun _ hk=>trivial)):p:=h
theorem Ij {p:Prop} (h:p:=by intro k hk;simp [Value.ownBlock] at hk;omega):p:=h
theorem PO {p:Prop} (h:p:=by (with_reducible repeat (apply Kd.sS));exact Kd.cB jS.out (fun _ hk=>trivial)):p:=h
theorem u9 {p:Prop} (h:p:=by exact uv.out):p:=h
theorem vk {p:Prop} (h:p:=by exact rZ.out):p:=h
theorem vo {p:Prop} (h:p:=by exact nr.out):p:=h
theorem PR {p:Prop} (h:p:=by repeat ((with_reducible first|exact sU.out|apply eW.drewN|apply eW.aiI))):p:=h
theorem zL {p:Prop} (h:p:=by rw [HL.out];exact hlt):p:=h
theorem PS {p:Prop} (h:p:=by rintro w' ⟨s0,s1,s2,s3,s4,s5,s6,s7,s8,s9,F6⟩;go_simp;with_reducible rfl):p:=h
theorem PT {p:Prop} (h:p:=by repeat ((with_reducible first|exact HK.out|apply dW.LD|apply EE))):p:=h
theorem Ik {p:Prop} (h:p:=by have:=hS.body;unfold rz at this;omega):p:=h
theorem Il {p:Prop} (h:p:=by have:=hS.nto;unfold rz at this;omega):p:=h
theorem PU {p:Prop} (h:p:=by repeat ((with_reducible first|exact HB.out|refine cC ?_ aez.out))):p:=h
theorem PV {p:Prop} (h:p:=by repeat ((with_reducible first|exact HB.out|refine cC ?_ aiJ.out))):p:=h
theorem PW {p:Prop} (h:p:=by repeat ((with_reducible first|exact HB.out|refine cC ?_ aiK.out))):p:=h
theorem PX {p:Prop} (h:p:=by repeat ((with_reducible first|exact HB.out|refine cC ?_ aiL.out))):p:=h
theorem PY {p:Prop} (h:p:=by repeat ((with_reducible first|exact HB.out|refine cC ?_ aiM.out))):p:=h
theorem sZ {p:Prop} (h:p:=by simp;omega):p:=h
theorem xP {p:Prop} (h:p:=by exact eX.out):p:=h
theorem xQ {p:Prop} (h:p:=by exact xh.out):p:=h
theorem xR {p:Prop} (h:p:=by exact xj.out):p:=h
theorem xS {p:Prop} (h:p:=by exact nU.out):p:=h
theorem PZ {p:Prop} (h:p:=by simp only [Bool.not_true,Bool.false_eq_true,if_false];rw [hw];exact hr):p:=h
theorem xU {p:Prop} (h:p:=by simpa using hb):p:=h
theorem xV {p:Prop} (h:p:=by exact CI.out):p:=h
theorem Dh {p:Prop} (h:p:=by rw [h1];congr 1;omega):p:=h
theorem zM {p:Prop} (h:p:=by exact jV.out):p:=h
theorem P4 {p:Prop} (h:p:=by rw [HK.out (by unfold Im;rw [if_neg (by omega)])];exact HR.out):p:=h
theorem zN {p:Prop} (h:p:=by rw [HZ.out];rfl):p:=h
theorem P5 {p:Prop} (h:p:=by (with_reducible repeat (refine GA ?_ _));exact aD.out):p:=h
theorem qJ {p:Prop} (h:p:=by go_simp):p:=h
end Go.Proofs
