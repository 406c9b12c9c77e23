import Derived.Test.YtokpnfljjjjikaaGreatDoorProg
import Derived.Deep.AppendLies
import Derived.Deep.OwnRows
import Derived.Lib.ConvBytes
import Derived.WalkKit
import Derived.BigQuiet
import Derived.Deep.DeepCutAuto
import Derived.Deep.CutBlock
import Derived.Deep.RegionHeld3
import Derived.Lib.AppendStr
set_option linter.unusedVariables false
namespace Go.Proofs
theorem cw {p:Prop} (h:p:=by repeat (first|(with_reducible first|exact HB.out|apply aG|apply aM|apply bn)|exact HB.out)):p:=h
theorem cX {p:Prop} (h:p:=by (try simp only [List.map_toArray,List.map_cons,List.map_nil]);first|done|rfl|(simp only [List.length_drop,List.length_take];rfl)):p:=h
theorem dQ {p:Prop} (h:p:=by rw [hg];exact (fL (by repeat (first|(with_reducible first|exact HB.out|apply aG|apply aM|apply bn)|exact HB.out)))):p:=h
theorem ez {p:Prop} (h:p:=by repeat (first|(with_reducible first|exact HK.out|apply br.Ew|apply zj|apply xz|apply oq)|exact HK.out)):p:=h
theorem cO {p:Prop} (h:p:=by first|rfl|(simp [lu,lA]<;>rfl)|(simp [*,lu,lA]<;>rfl)):p:=h
theorem gT {p:Prop} (h:p:=by repeat (first|(with_reducible first|exact HB.out|apply aG|apply aM|apply bn|refine bh ?_ (ay.ge dx.out))|exact HB.out)):p:=h
theorem gU {p:Prop} (h:p:=by repeat (first|(with_reducible first|exact dx.out|apply ay.alloc|apply ay.drewN|apply ay.drew|apply ay.fH|apply ay.fD)|exact dx.out)):p:=h
theorem cL {p:Prop} (h:p:=by first|(with_reducible assumption)|assumption):p:=h
theorem iO {p:Prop} (h:p:=by repeat (first|(with_reducible first|exact HB.out|apply aG|apply aM|apply bn|refine bh ?_ acw.out)|exact HB.out)):p:=h
theorem kJ {p:Prop} (h:p:=by repeat (first|(with_reducible first|exact HB.out|apply aG|apply aM|apply bn|refine bh ?_ Gx.out)|exact HB.out)):p:=h
theorem av {p:Prop} (h:p:=by kernel_rfl):p:=h
theorem lB {p:Prop} (h:p:=by repeat (first|(with_reducible first|exact HB.out|apply aG|apply aM|apply bn|refine bh ?_ (ay.ge gy.out)|refine bh ?_ yZ.out|refine bh ?_ Zr.out)|exact HB.out)):p:=h
theorem jS {p:Prop} (h:p:=by repeat (first|(with_reducible first|exact HB.out|apply aG|apply aM|apply bn|refine bh ?_ acy.out)|exact HB.out)):p:=h
theorem Hw {p:Prop} (h:p:=by (with_reducible repeat (first|refine bF ?_ _|refine bN ?_|refine bB ?_ _));refine cZ (cs:=#[.bool false,.slice none 0 0,.string (⟨#[]⟩:ByteArray),.string (⟨#[]⟩:ByteArray),.bool false]) ?_ 4 _ rfl;(with_reducible repeat (first|refine bF ?_ _|refine bN ?_|refine bB ?_ _));refine cZ (cs:=#[.bool false,.slice none 0 0,.string (⟨#[]⟩:ByteArray),.string (⟨#[]⟩:ByteArray),.bool false]) ?_ 3 _ rfl;(with_reducible repeat (first|refine bF ?_ _|refine bN ?_|refine bB ?_ _));refine cZ (cs:=#[.bool false,.slice none 0 0,.string (⟨#[]⟩:ByteArray),.string (⟨#[]⟩:ByteArray),.bool false]) ?_ 2 _ rfl;(with_reducible repeat (first|refine bF ?_ _|refine bN ?_|refine bB ?_ _));refine cZ (cs:=#[.bool false,.slice none 0 0,.string (⟨#[]⟩:ByteArray),.string (⟨#[]⟩:ByteArray),.bool false]) ?_ 1 _ rfl;(with_reducible repeat (first|refine bF ?_ _|refine bN ?_|refine bB ?_ _));refine cZ (cs:=#[.bool false,.slice none 0 0,.string (⟨#[]⟩:ByteArray),.string (⟨#[]⟩:ByteArray),.bool false]) ?_ 0 _ rfl;(with_reducible repeat (first|refine bF ?_ _|refine bN ?_|refine bB ?_ _));exact dJ.out):p:=h
theorem aq {p:Prop} (h:p:=by omega):p:=h
theorem kE {p:Prop} (h:p:=by repeat (first|(with_reducible first|exact HB.out|apply aG|apply aM|apply bn|refine bh ?_ acz.out)|exact HB.out)):p:=h
theorem dG {p:Prop} (h:p:=by first|rfl|(simp;done)|(simp [*];done)):p:=h
theorem lJ {p:Prop} (h:p:=by repeat (first|(with_reducible first|exact HK.out|apply br.Ew|apply zj|apply xz|apply oq|refine nR ?_ acA.out _)|exact HK.out)):p:=h
theorem lC {p:Prop} (h:p:=by repeat (first|(with_reducible first|exact HB.out|apply aG|apply aM|apply bn|refine bh ?_ Lj.out)|exact HB.out)):p:=h
theorem nM {p:Prop} (h:p:=by repeat (first|(with_reducible first|exact HB.out|apply aG|apply aM|apply bn|refine bh ?_ Ll.out)|exact HB.out)):p:=h
theorem tL {p:Prop} (h:p:=by first|exact (ay.pU gy.out dJ.out (by decide))|(rw [add_block];exact (ay.pU gy.out dJ.out (by decide)))|(show (Addr.add _ _).block≠_;rw [add_block];exact (ay.pU gy.out dJ.out (by decide)))|(dsimp only;exact (ay.pU gy.out dJ.out (by decide)))):p:=h
theorem ot {p:Prop} (h:p:=by repeat (first|(with_reducible first|exact HB.out|apply aG|apply aM|apply bn|refine bh ?_ Lm.out|refine bh ?_ TZ.out)|exact HB.out)):p:=h
theorem NB {p:Prop} (h:p:=by (with_reducible repeat (first|refine bF ?_ _|refine bN ?_|refine bB ?_ _));refine cZ (cs:=#[.bool t215,.slice pN t216.length pO,.string t219,.string t220,.bool false]) ?_ 4 _ rfl;(with_reducible repeat (first|refine bF ?_ _|refine bN ?_|refine bB ?_ _));refine cZ (cs:=#[.bool t215,.slice pN t216.length pO,.string t219,.string (⟨#[]⟩:ByteArray),.bool false]) ?_ 3 _ rfl;(with_reducible repeat (first|refine bF ?_ _|refine bN ?_|refine bB ?_ _));refine cZ (cs:=#[.bool t215,.slice pN t216.length pO,.string (⟨#[]⟩:ByteArray),.string (⟨#[]⟩:ByteArray),.bool false]) ?_ 2 _ rfl;(with_reducible repeat (first|refine bF ?_ _|refine bN ?_|refine bB ?_ _));refine cZ (cs:=#[.bool t215,.slice none 0 0,.string (⟨#[]⟩:ByteArray),.string (⟨#[]⟩:ByteArray),.bool false]) ?_ 1 _ rfl;(with_reducible repeat (first|refine bF ?_ _|refine bN ?_|refine bB ?_ _));refine cZ (cs:=#[.bool false,.slice none 0 0,.string (⟨#[]⟩:ByteArray),.string (⟨#[]⟩:ByteArray),.bool false]) ?_ 0 _ rfl;(with_reducible repeat (first|refine bF ?_ _|refine bN ?_|refine bB ?_ _));exact dF.out):p:=h
theorem ou {p:Prop} (h:p:=by (with_reducible repeat (first|refine bF ?_ _|refine bN ?_|refine bB ?_ _));exact b9.out):p:=h
theorem kV {p:Prop} (h:p:=by (with_reducible repeat (first|refine bF ?_ _|refine bN ?_|refine bB ?_ _));exact cV.out):p:=h
theorem tM {p:Prop} (h:p:=by (with_reducible repeat (first|apply Kd.iD|apply Kd.iL|apply Kd.jT));exact (Kd.gL (Kd.eu (p:=⟨g,1,none⟩) (ay.apart dx.out lK.out (by decide)) (fun _ hk=>hk.2) (.int .i64 (wrap64 (aT + 1)))) (fun _ h_ =>h_.1))):p:=h
theorem ow {p:Prop} (h:p:=by repeat (first|(with_reducible first|exact HB.out|apply aG|apply aM|apply bn|refine bh ?_ acB.out)|exact HB.out)):p:=h
theorem oU {p:Prop} (h:p:=by repeat (first|(with_reducible first|exact HB.out|apply aG|apply aM|apply bn|refine bh ?_ Gy.out)|exact HB.out)):p:=h
theorem oV {p:Prop} (h:p:=by repeat (first|(with_reducible first|exact HB.out|apply aG|apply aM|apply bn|refine bh ?_ Ex.out)|exact HB.out)):p:=h
theorem pV {p:Prop} (h:p:=by (with_reducible repeat (first|refine bF ?_ _|refine bN ?_|refine bB ?_ _));exact cr.out):p:=h
theorem uv {p:Prop} (h:p:=by repeat (first|(with_reducible first|exact gy.out|apply ay.alloc|apply ay.drewN|apply ay.drew|apply ay.fH|apply ay.fD|refine ay.far ?_ kM.out _|refine ay.far ?_ oH.out _)|exact gy.out)):p:=h
theorem rL {p:Prop} (h:p:=by (with_reducible repeat (first|refine bF ?_ _|refine bN ?_|refine bB ?_ _));exact dJ.out):p:=h
theorem tO {p:Prop} (h:p:=by repeat (first|(with_reducible first|exact HB.out|apply aG|apply aM|apply bn|refine bh ?_ (ay.ge dx.out)|refine bh ?_ wA.out)|exact HB.out)):p:=h
theorem uw {p:Prop} (h:p:=by repeat (first|(with_reducible first|exact dx.out|apply ay.alloc|apply ay.drewN|apply ay.drew|apply ay.fH|apply ay.fD|refine ay.far ?_ lM.out _)|exact dx.out)):p:=h
theorem oz {p:Prop} (h:p:=by (with_reducible repeat (first|refine bF ?_ _|refine bN ?_|refine bB ?_ _));exact gu.out):p:=h
theorem NC {p:Prop} (h:p:=by (with_reducible repeat (first|refine bF ?_ _|refine bN ?_|refine bB ?_ _));refine iM ?_ ji.out _;(with_reducible repeat (first|refine bF ?_ _|refine bN ?_|refine bB ?_ _));refine iM ?_ ji.out _;(with_reducible repeat (first|refine bF ?_ _|refine bN ?_|refine bB ?_ _));refine iM ?_ ji.out _;(with_reducible repeat (first|refine bF ?_ _|refine bN ?_|refine bB ?_ _));refine iM ?_ ji.out _;(with_reducible repeat (first|refine bF ?_ _|refine bN ?_|refine bB ?_ _));refine iM ?_ ji.out _;(with_reducible repeat (first|refine bF ?_ _|refine bN ?_|refine bB ?_ _));exact dJ.out):p:=h
theorem bG {p:Prop} (h:p:=by decide):p:=h
theorem wB {p:Prop} (h:p:=by (with_reducible repeat (first|refine bF ?_ _|refine bN ?_|refine bB ?_ _));exact fk.out):p:=h
theorem ux {p:Prop} (h:p:=by (with_reducible repeat (first|refine bF ?_ _|refine bN ?_|refine bB ?_ _));exact cF.out):p:=h
theorem wC {p:Prop} (h:p:=by repeat (first|(with_reducible first|exact HB.out|apply aG|apply aM|apply bn|refine bh ?_ Lp.out|refine bh ?_ T4.out)|exact HB.out)):p:=h
theorem ke {p:Prop} (h:p:=by repeat (first|exact jr.refl _|apply jr.step)):p:=h
theorem ND {p:Prop} (h:p:=by repeat (first|(with_reducible first|exact HB.out|apply aG|apply aM|apply bn|refine bh ?_ Lp.out)|exact HB.out)):p:=h
theorem NF {p:Prop} (h:p:=by repeat (first|(with_reducible first|exact HB.out|apply aG|apply aM|apply bn|refine bh ?_ Lm.out)|exact HB.out)):p:=h
theorem q8 {p:Prop} (h:p:=by (with_reducible repeat (first|refine bF ?_ _|refine bN ?_|refine bB ?_ _));exact cA.out):p:=h
theorem rM {p:Prop} (h:p:=by (with_reducible repeat (first|refine bF ?_ _|refine bN ?_|refine bB ?_ _));exact dg.out):p:=h
theorem wD {p:Prop} (h:p:=by repeat (first|(with_reducible first|exact HB.out|apply aG|apply aM|apply bn|refine bh ?_ Zt.out)|exact HB.out)):p:=h
theorem tP {p:Prop} (h:p:=by (with_reducible repeat (first|refine bF ?_ _|refine bN ?_|refine bB ?_ _));exact cI.out):p:=h
theorem aV {p:Prop} (h:p:=by simp):p:=h
theorem BH {p:Prop} (h:p:=by rw [hg];exact (fL (by repeat (first|(with_reducible first|exact HB.out|apply aG|apply aM|apply bn|refine bh ?_ Lp.out)|exact HB.out)))):p:=h
theorem BI {p:Prop} (h:p:=by rw [hg];exact (fL (by repeat (first|(with_reducible first|exact HB.out|apply aG|apply aM|apply bn|refine bh ?_ Lm.out)|exact HB.out)))):p:=h
theorem BJ {p:Prop} (h:p:=by rw [hg];exact (fL (by repeat (first|(with_reducible first|exact HB.out|apply aG|apply aM|apply bn|refine bh ?_ Gx.out)|exact HB.out)))):p:=h
theorem T5 {p:Prop} (h:p:=by repeat (first|(with_reducible first|exact HB.out|apply aG|apply aM|apply bn|refine bh ?_ yZ.out)|exact HB.out)):p:=h
theorem Ey {p:Prop} (h:p:=by repeat (first|(with_reducible first|exact HB.out|apply aG|apply aM|apply bn|refine bh ?_ T6.out)|exact HB.out)):p:=h
theorem uy {p:Prop} (h:p:=by (with_reducible repeat (first|apply Kd.iD|apply Kd.iL|apply Kd.jT));exact tQ.out):p:=h
theorem wE {p:Prop} (h:p:=by (with_reducible repeat (first|refine bF ?_ _|refine bN ?_|refine bB ?_ _));exact cP.out):p:=h
theorem T7 {p:Prop} (h:p:=by (with_reducible repeat (first|apply Kd.iD|apply Kd.iL|apply Kd.jT));exact (Kd.gL (Kd.eu (p:=⟨kP,7,none⟩) (Kd.eu (p:=⟨kP,6,none⟩) (Kd.eu (p:=⟨kP,5,none⟩) (Kd.eu (p:=⟨kP,4,none⟩) (Kd.eu (p:=⟨kP,3,none⟩) (Kd.eu (p:=⟨kP,2,none⟩) (Kd.eu (p:=⟨kP,1,none⟩) (Kd.eu (p:=⟨kP,0,none⟩) (Kd.nk Cn.out nS.out (by decide)) (fun _ hk=>hk.2) (.int .u8 BK)) (fun _ hk=>hk.2) (.string Dc)) (fun _ hk=>hk.2) (.bool Ez)) (fun _ hk=>hk.2) (.slice NG EA.length Lq)) (fun _ hk=>hk.2) (.string Hx)) (fun _ hk=>hk.2) (.string Lr)) (fun _ hk=>hk.2) (.bool NH)) (fun _ hk=>hk.2) (.slice aar NI.length WK)) (fun _ h_ =>h_.1))):p:=h
theorem T9 {p:Prop} (h:p:=by (with_reducible repeat (first|apply Kd.iD|apply Kd.iL|apply Kd.jT));exact (Kd.gL (Kd.eu (p:=⟨kP,7,none⟩) (Kd.eu (p:=⟨kP,6,none⟩) (Kd.eu (p:=⟨kP,5,none⟩) (Kd.eu (p:=⟨kP,4,none⟩) (Kd.eu (p:=⟨kP,3,none⟩) (Kd.eu (p:=⟨kP,2,none⟩) (Kd.eu (p:=⟨kP,1,none⟩) (Kd.eu (p:=⟨kP,0,none⟩) (Kd.nk Co.out nS.out (by decide)) (fun _ hk=>hk.2) (.int .u8 BK)) (fun _ hk=>hk.2) (.string Dc)) (fun _ hk=>hk.2) (.bool Ez)) (fun _ hk=>hk.2) (.slice NG EA.length Lq)) (fun _ hk=>hk.2) (.string Hx)) (fun _ hk=>hk.2) (.string Lr)) (fun _ hk=>hk.2) (.bool NH)) (fun _ hk=>hk.2) (.slice aar NI.length WK)) (fun _ h_ =>h_.1))):p:=h
theorem Ua {p:Prop} (h:p:=by (with_reducible repeat (first|apply Kd.iD|apply Kd.iL|apply Kd.jT));exact (Kd.gL (Kd.eu (p:=⟨lD,7,none⟩) (Kd.eu (p:=⟨lD,6,none⟩) (Kd.eu (p:=⟨lD,5,none⟩) (Kd.eu (p:=⟨lD,4,none⟩) (Kd.eu (p:=⟨lD,3,none⟩) (Kd.eu (p:=⟨lD,2,none⟩) (Kd.eu (p:=⟨lD,1,none⟩) (Kd.eu (p:=⟨lD,0,none⟩) (Kd.nk Cq.out nT.out (by decide)) (fun _ hk=>hk.2) (.int .u8 t256)) (fun _ hk=>hk.2) (.string t257)) (fun _ hk=>hk.2) (.bool t258)) (fun _ hk=>hk.2) (.slice Ao9 t259.length Zu)) (fun _ hk=>hk.2) (.string t262)) (fun _ hk=>hk.2) (.string t263)) (fun _ hk=>hk.2) (.bool t264)) (fun _ hk=>hk.2) (.slice aat t265.length WL)) (fun _ h_ =>h_.1))):p:=h
theorem Ub {p:Prop} (h:p:=by (with_reducible repeat (first|apply Kd.iD|apply Kd.iL|apply Kd.jT));exact (Kd.gL (Kd.eu (p:=⟨lD,7,none⟩) (Kd.eu (p:=⟨lD,6,none⟩) (Kd.eu (p:=⟨lD,5,none⟩) (Kd.eu (p:=⟨lD,4,none⟩) (Kd.eu (p:=⟨lD,3,none⟩) (Kd.eu (p:=⟨lD,2,none⟩) (Kd.eu (p:=⟨lD,1,none⟩) (Kd.eu (p:=⟨lD,0,none⟩) (Kd.nk Cr.out nT.out (by decide)) (fun _ hk=>hk.2) (.int .u8 t256)) (fun _ hk=>hk.2) (.string t257)) (fun _ hk=>hk.2) (.bool t258)) (fun _ hk=>hk.2) (.slice Ao9 t259.length Zu)) (fun _ hk=>hk.2) (.string t262)) (fun _ hk=>hk.2) (.string t263)) (fun _ hk=>hk.2) (.bool t264)) (fun _ hk=>hk.2) (.slice aat t265.length WL)) (fun _ h_ =>h_.1))):p:=h
theorem Uc {p:Prop} (h:p:=by (with_reducible repeat (first|refine bF ?_ _|refine bN ?_|refine bB ?_ _));refine cZ (cs:=#[.string t180,.string t194,.bool false]) ?_ 2 _ rfl;(with_reducible repeat (first|refine bF ?_ _|refine bN ?_|refine bB ?_ _));refine cZ (cs:=#[.string t180,.string (⟨#[]⟩:ByteArray),.bool false]) ?_ 1 _ rfl;(with_reducible repeat (first|refine bF ?_ _|refine bN ?_|refine bB ?_ _));refine cZ (cs:=#[.string (⟨#[]⟩:ByteArray),.string (⟨#[]⟩:ByteArray),.bool false]) ?_ 0 _ rfl;(with_reducible repeat (first|refine bF ?_ _|refine bN ?_|refine bB ?_ _));exact gu.out):p:=h
theorem iI {p:Prop} (h:p:=by rw [bD];omega):p:=h
theorem zk {p:Prop} (h:p:=by (with_reducible repeat (first|refine bF ?_ _|refine bN ?_|refine bB ?_ _));exact dF.out):p:=h
theorem EB {p:Prop} (h:p:=by repeat (first|(with_reducible first|exact HB.out|apply aG|apply aM|apply bn|refine bh ?_ (ay.ge mN.out))|exact HB.out)):p:=h
theorem BL {p:Prop} (h:p:=by first|exact Kd.eX _ _ _ _ _|exact Kd.acC _ _ _ _ _|exact Kd.acD _ _ _ _ _|exact Kd.acE _ _ _ _ _|exact Kd.acF _ _ _ _ _):p:=h
theorem NJ {p:Prop} (h:p:=by rw [hg];exact Nat.ne_of_lt (kf (g:=dH) (o:= .cells #[.int .u8 aI,.string aZ,.bool bp,.slice dM bX.length dN,.string bC,.string ck,.bool cm,.slice dR bO.length dO] 35 (0,0)) (by (with_reducible repeat (first|refine bF ?_ _|refine bN ?_|refine bB ?_ _));exact b9.out))):p:=h
theorem NK {p:Prop} (h:p:=by rw [hg];exact Nat.ne_of_gt (kf (g:=dH) (o:= .cells #[.int .u8 aI,.string aZ,.bool bp,.slice dM bX.length dN,.string bC,.string ck,.bool cm,.slice dR bO.length dO] 35 (0,0)) (by (with_reducible repeat (first|refine bF ?_ _|refine bN ?_|refine bB ?_ _));exact b9.out))):p:=h
theorem NL {p:Prop} (h:p:=by rw [hg];exact Nat.ne_of_lt (kf (g:=dK) (o:= .cells #[.int .u8 aI,.string aZ,.bool bp,.slice dM bX.length dN,.string bC,.string ck,.bool cm,.slice dR bO.length dO] 35 (0,0)) (by (with_reducible repeat (first|refine bF ?_ _|refine bN ?_|refine bB ?_ _));exact cr.out))):p:=h
theorem NM {p:Prop} (h:p:=by rw [hg];exact Nat.ne_of_gt (kf (g:=dK) (o:= .cells #[.int .u8 aI,.string aZ,.bool bp,.slice dM bX.length dN,.string bC,.string ck,.bool cm,.slice dR bO.length dO] 35 (0,0)) (by (with_reducible repeat (first|refine bF ?_ _|refine bN ?_|refine bB ?_ _));exact cr.out))):p:=h
theorem EC {p:Prop} (h:p:=by repeat (first|(with_reducible first|exact HB.out|apply aG|apply aM|apply bn|refine bh ?_ Ud.out)|exact HB.out)):p:=h
theorem ko {p:Prop} (h:p:=by have:=NN.out;simp;omega):p:=h
theorem Ue {p:Prop} (h:p:=by repeat (first|(with_reducible first|exact HB.out|apply aG|apply aM|apply bn|refine bh ?_ (ay.ge gy.out)|refine bh ?_ yZ.out)|exact HB.out)):p:=h
theorem mJ {p:Prop} (h:p:=by first|omega|exact Nat.le_refl _):p:=h
theorem Hy {p:Prop} (h:p:=by rw [hg];exact (fL (by repeat (first|(with_reducible first|exact HB.out|apply aG|apply aM|apply bn|refine bh ?_ Ll.out)|exact HB.out)))):p:=h
theorem gh {p:Prop} (h:p:=by decide +kernel):p:=h
theorem Hz {p:Prop} (h:p:=by repeat (first|(with_reducible first|exact HB.out|apply aG|apply aM|apply bn|refine bh ?_ T6.out|refine bh ?_ acG.out)|exact HB.out)):p:=h
theorem BM {p:Prop} (h:p:=by (with_reducible repeat (first|refine bF ?_ _|refine bN ?_|refine bB ?_ _));exact jL.out):p:=h
theorem NP {p:Prop} (h:p:=by rw [hg];exact Nat.ne_of_lt (kf (g:=gD) (o:= .cells #[.bool aI,.slice gW dD.length gX,.string bp,.string dY,.bool bC] 32 (0,0)) (by (with_reducible repeat (first|refine bF ?_ _|refine bN ?_|refine bB ?_ _));exact fk.out))):p:=h
theorem NQ {p:Prop} (h:p:=by rw [hg];exact Nat.ne_of_gt (kf (g:=gD) (o:= .cells #[.bool aI,.slice gW dD.length gX,.string bp,.string dY,.bool bC] 32 (0,0)) (by (with_reducible repeat (first|refine bF ?_ _|refine bN ?_|refine bB ?_ _));exact fk.out))):p:=h
theorem kW {p:Prop} (h:p:=by rw [List.length_drop];omega):p:=h
theorem Uf {p:Prop} (h:p:=by (with_reducible repeat (first|apply Kd.iD|apply Kd.iL|apply Kd.jT));exact Kd.gL (Kd.eu (p:=⟨fE,4,none⟩) (Kd.eu (p:=⟨fE,3,none⟩) (Kd.eu (p:=⟨fE,2,none⟩) (Kd.eu (p:=⟨fE,1,none⟩) (Kd.eu (p:=⟨fE,0,none⟩) (Kd.nk Cs.out dF.out (by decide)) (fun _ hk=>hk.2) (.bool t215)) (fun _ hk=>hk.2) (.slice pN t216.length pO)) (fun _ hk=>hk.2) (.string t219)) (fun _ hk=>hk.2) (.string t220)) (fun _ hk=>hk.2) (.bool t221)) (fun _ hk=>trivial)):p:=h
theorem BN {p:Prop} (h:p:=by (with_reducible repeat (first|apply Kd.iD|apply Kd.iL|apply Kd.jT));exact gA.out):p:=h
theorem zl {p:Prop} (h:p:=by rw [List.length_append,List.length_replicate];omega):p:=h
theorem Ug {p:Prop} (h:p:=by (with_reducible repeat (first|refine bF ?_ _|refine bN ?_|refine bB ?_ _));refine iM ?_ rE.out _;(with_reducible repeat (first|refine bF ?_ _|refine bN ?_|refine bB ?_ _));refine iM ?_ rE.out _;(with_reducible repeat (first|refine bF ?_ _|refine bN ?_|refine bB ?_ _));refine iM ?_ rE.out _;(with_reducible repeat (first|refine bF ?_ _|refine bN ?_|refine bB ?_ _));exact cF.out):p:=h
theorem NR {p:Prop} (h:p:=by (with_reducible repeat (first|apply Kd.iD|apply Kd.iL|apply Kd.jT));exact Kd.gL (Kd.eu (p:=⟨g,1,none⟩) (ay.apart dx.out lK.out (by decide)) (fun _ hk=>hk.2) (.int .i64 (wrap64 (aT + 1)))) (fun _ hk=>trivial)):p:=h
theorem NS {p:Prop} (h:p:=by (with_reducible repeat (first|apply Kd.iD|apply Kd.iL|apply Kd.jT));exact Kd.gL (Kd.eu (p:=⟨g,1,none⟩) (ay.apart dx.out lK.out (by decide)) (fun _ hk=>hk.2) (.int .i64 (wrap64 (t171 + 1)))) (fun _ hk=>trivial)):p:=h
theorem wF {p:Prop} (h:p:=by simp only [List.length_append,List.length_cons,List.length_nil];omega):p:=h
theorem ED {p:Prop} (h:p:=by (with_reducible repeat (first|refine bF ?_ _|refine bN ?_|refine bB ?_ _));exact gv.out):p:=h
theorem mK {p:Prop} (h:p:=by rw [List.length_map];omega):p:=h
theorem kX {p:Prop} (h:p:=by have:=uz.out;omega):p:=h
theorem HJ {p:Prop} (h:p:=by have h1:=HR.out;have h2:=(Prod.mk.inj h1).1;have h3:=(Prod.mk.inj h1).2;rw [← h2,← h3];unfold WM DA;rw [← HQ.out];rfl):p:=h
theorem NT {p:Prop} (h:p:=by rw [hg];exact (fL (by repeat (first|(with_reducible first|exact HB.out|apply aG|apply aM|apply bn|refine bh ?_ yZ.out)|exact HB.out)))):p:=h
theorem NU {p:Prop} (h:p:=by repeat (first|(with_reducible first|exact HB.out|apply aG|apply aM|apply bn|refine bh ?_ Gx.out|refine bh ?_ Uh.out)|exact HB.out)):p:=h
theorem H6 {p:Prop} (h:p:=by (with_reducible repeat (first|refine bF ?_ _|refine bN ?_|refine bB ?_ _));exact mO.out):p:=h
theorem H7 {p:Prop} (h:p:=by (with_reducible repeat (first|refine bF ?_ _|refine bN ?_|refine bB ?_ _));exact dW.out):p:=h
theorem Ui {p:Prop} (h:p:=by rw [hg];exact Nat.ne_of_lt (kf (g:=eB) (o:= .cells #[.int .u8 aI,.string aZ,.bool bp,.slice dM bX.length dN,.string bC,.string ck,.bool cm,.slice (some Ls) bO.length dO] 35 (0,0)) (by (with_reducible repeat (first|refine bF ?_ _|refine bN ?_|refine bB ?_ _));exact cF.out))):p:=h
theorem Uj {p:Prop} (h:p:=by rw [hg];exact Nat.ne_of_gt (kf (g:=eB) (o:= .cells #[.int .u8 aI,.string aZ,.bool bp,.slice dM bX.length dN,.string bC,.string ck,.bool cm,.slice (some Ls) bO.length dO] 35 (0,0)) (by (with_reducible repeat (first|refine bF ?_ _|refine bN ?_|refine bB ?_ _));exact cF.out))):p:=h
theorem NV {p:Prop} (h:p:=by rw [HQ2.out,List.length_append];refine congrArg (Value.int .i64) ?_;(try simp only [IntKind.wrap_i64]);simp only [List.length_cons,List.length_nil];omega):p:=h
theorem Ia {p:Prop} (h:p:=by (with_reducible repeat (first|apply Kd.iD|apply Kd.iL|apply Kd.jT));exact wj.out):p:=h
theorem Uk {p:Prop} (h:p:=by rw [hg];exact Nat.ne_of_lt (kf (g:=dP) (o:= .cells #[.bool false,.slice none 0 0,.string (⟨#[]⟩:ByteArray),.string (⟨#[]⟩:ByteArray),.bool false] 32 (0,0)) (by (with_reducible repeat (first|refine bF ?_ _|refine bN ?_|refine bB ?_ _));exact dJ.out))):p:=h
theorem Ul {p:Prop} (h:p:=by rw [hg];exact Nat.ne_of_gt (kf (g:=dP) (o:= .cells #[.bool false,.slice none 0 0,.string (⟨#[]⟩:ByteArray),.string (⟨#[]⟩:ByteArray),.bool false] 32 (0,0)) (by (with_reducible repeat (first|refine bF ?_ _|refine bN ?_|refine bB ?_ _));exact dJ.out))):p:=h
theorem sA {p:Prop} (h:p:=by first|(go_simp;done)|(go_simp;rfl)):p:=h
theorem PN {p:Prop} (h:p:=by rw [hg];exact (fL (by repeat (first|(with_reducible first|exact HB.out|apply aG|apply aM|apply bn|refine bh ?_ (ay.ge gy.out)|refine bh ?_ yZ.out)|exact HB.out)))):p:=h
theorem Ib {p:Prop} (h:p:=by (with_reducible repeat (first|refine bF ?_ _|refine bN ?_|refine bB ?_ _));exact cJ.out):p:=h
theorem Ic {p:Prop} (h:p:=by (with_reducible repeat (first|refine bF ?_ _|refine bN ?_|refine bB ?_ _));exact gm.out):p:=h
theorem oW {p:Prop} (h:p:=by rw [gz];omega):p:=h
theorem oX {p:Prop} (h:p:=by rw [HL.out];exact hlt):p:=h
theorem PO {p:Prop} (h:p:=by rw [hg];exact (oI (w:=w) (g:=g) (row:=none) (by repeat (first|(with_reducible first|exact HK.out|apply br.Ew|apply zj|apply xz|apply oq)|exact HK.out)))):p:=h
theorem uA {p:Prop} (h:p:=by simp only [List.length_cons];omega):p:=h
theorem Ie {p:Prop} (h:p:=by (with_reducible repeat (first|apply Kd.iD|apply Kd.iL|apply Kd.jT));exact wk.out):p:=h
theorem Ig {p:Prop} (h:p:=by (with_reducible repeat (first|apply Kd.iD|apply Kd.iL|apply Kd.jT));exact wm.out):p:=h
theorem DB {p:Prop} (h:p:=by rw [← HG2.out];simp only [rN];rw [HX.out,if_pos (by omega)]):p:=h
theorem PR {p:Prop} (h:p:=by rw [hg];exact (fL (by repeat (first|(with_reducible first|exact HB.out|apply aG|apply aM|apply bn|refine bh ?_ T6.out)|exact HB.out)))):p:=h
theorem PT {p:Prop} (h:p:=by repeat (first|(with_reducible first|exact HB.out|apply aG|apply aM|apply bn|refine bh ?_ Ll.out|refine bh ?_ Zv.out)|exact HB.out)):p:=h
theorem PU {p:Prop} (h:p:=by rw [← hq_];exact (by repeat (first|(with_reducible first|exact HB.out|apply aG|apply aM|apply bn|refine bh ?_ yZ.out)|exact HB.out))):p:=h
theorem PV {p:Prop} (h:p:=by first|rfl|(simp [lu,lA]<;>rfl)|(simp only [← WN];first|rfl|(simp [lu,lA]<;>rfl))|(simp [*,lu,lA]<;>rfl)):p:=h
theorem Ih {p:Prop} (h:p:=by rw [← HG2.out];simp only [rN];rw [HX.out,if_neg (by omega),if_neg (by omega)]):p:=h
theorem Ii {p:Prop} (h:p:=by rw [← HG2.out];simp only [rN];rw [HX.out,if_neg (by omega),if_pos (by omega)]):p:=h
theorem PW {p:Prop} (h:p:=by repeat (first|(with_reducible first|exact HB.out|apply aG|apply aM|apply bn|refine bh ?_ acI.out)|exact HB.out)):p:=h
theorem PX {p:Prop} (h:p:=by repeat (first|(with_reducible first|exact HB.out|apply aG|apply aM|apply bn|refine bh ?_ acJ.out)|exact HB.out)):p:=h
theorem PY {p:Prop} (h:p:=by rw [← hq_];exact (by (with_reducible repeat (first|refine bF ?_ _|refine bN ?_|refine bB ?_ _));exact dJ.out)):p:=h
theorem Ij {p:Prop} (h:p:=by have:=WO.out;have:=ah0.out;first|omega|exact Nat.le_refl _):p:=h
theorem om {p:Prop} (h:p:=by go_simp;rfl):p:=h
theorem PZ {p:Prop} (h:p:=by show (wr.cell? _).isSome=true;rw [(HR.out (X.length + 1) (by rw [List.length_append,List.length_replicate];omega)).1];rfl):p:=h
theorem P4 {p:Prop} (h:p:=by show (wr.cell? _).isSome=true;rw [(HR.out X.length (by rw [List.length_append,List.length_replicate];omega)).1];rfl):p:=h
theorem DC {p:Prop} (h:p:=by rw [h3];rw [hr] at h;simp at h;omega):p:=h
theorem j3 {p:Prop} (h:p:=by go_num):p:=h
theorem Ik {p:Prop} (h:p:=by simp only [List.length_cons,List.length_append];omega):p:=h
theorem DD {p:Prop} (h:p:=by rw [zS,HL.out];exact hlt):p:=h
theorem uB {p:Prop} (h:p:=by rw [HL.out];omega):p:=h
theorem P5 {p:Prop} (h:p:=by have h1:=HR.out;have h2:=(Prod.mk.inj h1).1;have h3:=(Prod.mk.inj h1).2;rw [← h2,← h3];rfl):p:=h
theorem P6 {p:Prop} (h:p:=by (with_reducible repeat (first|apply Kd.iD|apply Kd.iL|apply Kd.jT));exact Cs.out):p:=h
theorem Il {p:Prop} (h:p:=by have:=WO.out;first|omega|exact Nat.le_refl _):p:=h
theorem zT {p:Prop} (h:p:=by rw [bD];exact hl):p:=h
theorem P7 {p:Prop} (h:p:=by rw [List.length_append,List.length_cons,List.length_append,List.length_append];omega):p:=h
theorem P8 {p:Prop} (h:p:=by rw [HK.out (by rw [HT.out];unfold zU;rw [if_neg (by omega)])];exact HR.out):p:=h
theorem xA {p:Prop} (h:p:=by simp at h;omega):p:=h
theorem sB {p:Prop} (h:p:=by simp;omega):p:=h
theorem xB {p:Prop} (h:p:=by simpa using h64):p:=h
theorem DF {p:Prop} (h:p:=by have:=su.out.gl;omega):p:=h
theorem Im {p:Prop} (h:p:=by simp only [List.length_nil];omega):p:=h
theorem P9 {p:Prop} (h:p:=by rw [HK.out (by unfold Io;rw [if_neg (by omega)])];exact HR.out):p:=h
theorem DG {p:Prop} (h:p:=by have:=NN.out;omega):p:=h
end Go.Proofs
