import Derived.Test.YtokpnfljjjjikaaGreatDoorProg
import Derived.Deep.AppendLies
import Derived.Deep.OwnRows
import Derived.Lib.ConvBytes
import Derived.WalkKit
import Derived.BigQuiet
import Derived.Deep.DeepCutAuto
import Derived.Deep.CutBlock
import Derived.Deep.RegionHeld3
import Derived.Lib.AppendStr
set_option linter.unusedVariables false
namespace Go.Proofs
theorem cA {p:Prop} (h:p:=by repeat (first|(with_reducible first|exact HB.out|apply aD|apply aM|apply bq)|exact HB.out)):p:=h
theorem cY {p:Prop} (h:p:=by (try simp only [List.map_toArray,List.map_cons,List.map_nil]);first|done|rfl|(simp only [List.length_drop,List.length_take];rfl)):p:=h
theorem dW {p:Prop} (h:p:=by rw [hg];exact (dK (by repeat (first|(with_reducible first|exact HB.out|apply aD|apply aM|apply bq)|exact HB.out)))):p:=h
theorem gu {p:Prop} (h:p:=by repeat (first|(with_reducible first|exact HB.out|apply aD|apply aM|apply bq|refine bp ?_ I7.out)|exact HB.out)):p:=h
theorem eK {p:Prop} (h:p:=by repeat (first|(with_reducible first|exact HK.out|apply bB.Gh|apply Bc|apply zG|apply pH)|exact HK.out)):p:=h
theorem cU {p:Prop} (h:p:=by first|rfl|(simp [lW,lX]<;>rfl)|(simp [*,lW,lX]<;>rfl)):p:=h
theorem iB {p:Prop} (h:p:=by repeat (first|(with_reducible first|exact HB.out|apply aD|apply aM|apply bq|refine bp ?_ (ay.ge dH.out))|exact HB.out)):p:=h
theorem iC {p:Prop} (h:p:=by repeat (first|(with_reducible first|exact dH.out|apply ay.alloc|apply ay.drewN|apply ay.drew|apply ay.fS|apply ay.fP)|exact dH.out)):p:=h
theorem cO {p:Prop} (h:p:=by first|(with_reducible assumption)|assumption):p:=h
theorem kH {p:Prop} (h:p:=by (with_reducible repeat (first|refine aK ?_ _|refine aV ?_|refine aJ ?_ _));exact bG.out):p:=h
theorem jg {p:Prop} (h:p:=by repeat (first|(with_reducible first|exact HB.out|apply aD|apply aM|apply bq|refine bp ?_ I8.out)|exact HB.out)):p:=h
theorem av {p:Prop} (h:p:=by kernel_rfl):p:=h
theorem lY {p:Prop} (h:p:=by repeat (first|(with_reducible first|exact HB.out|apply aD|apply aM|apply bq|refine bp ?_ (ay.ge gS.out)|refine bp ?_ AR.out|refine bp ?_ abC.out)|exact HB.out)):p:=h
theorem ku {p:Prop} (h:p:=by repeat (first|(with_reducible first|exact HB.out|apply aD|apply aM|apply bq|refine bp ?_ ae0.out)|exact HB.out)):p:=h
theorem JQ {p:Prop} (h:p:=by (with_reducible repeat (first|refine aK ?_ _|refine aV ?_|refine aJ ?_ _));refine cj (cs:=#[.bool false,.slice none 0 0,.string (⟨#[]⟩:ByteArray),.string (⟨#[]⟩:ByteArray),.bool false]) ?_ 4 _ rfl;(with_reducible repeat (first|refine aK ?_ _|refine aV ?_|refine aJ ?_ _));refine cj (cs:=#[.bool false,.slice none 0 0,.string (⟨#[]⟩:ByteArray),.string (⟨#[]⟩:ByteArray),.bool false]) ?_ 3 _ rfl;(with_reducible repeat (first|refine aK ?_ _|refine aV ?_|refine aJ ?_ _));refine cj (cs:=#[.bool false,.slice none 0 0,.string (⟨#[]⟩:ByteArray),.string (⟨#[]⟩:ByteArray),.bool false]) ?_ 2 _ rfl;(with_reducible repeat (first|refine aK ?_ _|refine aV ?_|refine aJ ?_ _));refine cj (cs:=#[.bool false,.slice none 0 0,.string (⟨#[]⟩:ByteArray),.string (⟨#[]⟩:ByteArray),.bool false]) ?_ 1 _ rfl;(with_reducible repeat (first|refine aK ?_ _|refine aV ?_|refine aJ ?_ _));refine cj (cs:=#[.bool false,.slice none 0 0,.string (⟨#[]⟩:ByteArray),.string (⟨#[]⟩:ByteArray),.bool false]) ?_ 0 _ rfl;(with_reducible repeat (first|refine aK ?_ _|refine aV ?_|refine aJ ?_ _));exact dS.out):p:=h
theorem aq {p:Prop} (h:p:=by omega):p:=h
theorem lZ {p:Prop} (h:p:=by rw [hg];exact (dK (by repeat (first|(with_reducible first|exact HB.out|apply aD|apply aM|apply bq|refine bp ?_ I7.out)|exact HB.out)))):p:=h
theorem dL {p:Prop} (h:p:=by first|rfl|(simp;done)|(simp [*];done)):p:=h
theorem kU {p:Prop} (h:p:=by repeat (first|(with_reducible first|exact HB.out|apply aD|apply aM|apply bq|refine bp ?_ ae1.out)|exact HB.out)):p:=h
theorem mA {p:Prop} (h:p:=by repeat (first|(with_reducible first|exact HK.out|apply bB.Gh|apply Bc|apply zG|apply pH|refine oO ?_ ae2.out _)|exact HK.out)):p:=h
theorem l5 {p:Prop} (h:p:=by repeat (first|(with_reducible first|exact HB.out|apply aD|apply aM|apply bq|refine bp ?_ MJ.out)|exact HB.out)):p:=h
theorem oH {p:Prop} (h:p:=by repeat (first|(with_reducible first|exact HB.out|apply aD|apply aM|apply bq|refine bp ?_ MK.out)|exact HB.out)):p:=h
theorem vT {p:Prop} (h:p:=by first|exact (ay.rq gS.out dS.out (by decide))|(rw [add_block];exact (ay.rq gS.out dS.out (by decide)))|(show (Addr.add _ _).block≠_;rw [add_block];exact (ay.rq gS.out dS.out (by decide)))|(dsimp only;exact (ay.rq gS.out dS.out (by decide)))):p:=h
theorem pI {p:Prop} (h:p:=by repeat (first|(with_reducible first|exact HB.out|apply aD|apply aM|apply bq|refine bp ?_ ML.out|refine bp ?_ V3.out)|exact HB.out)):p:=h
theorem Po {p:Prop} (h:p:=by (with_reducible repeat (first|refine aK ?_ _|refine aV ?_|refine aJ ?_ _));refine cj (cs:=#[.bool t215,.slice qR t216.length qT,.string t219,.string t220,.bool false]) ?_ 4 _ rfl;(with_reducible repeat (first|refine aK ?_ _|refine aV ?_|refine aJ ?_ _));refine cj (cs:=#[.bool t215,.slice qR t216.length qT,.string t219,.string (⟨#[]⟩:ByteArray),.bool false]) ?_ 3 _ rfl;(with_reducible repeat (first|refine aK ?_ _|refine aV ?_|refine aJ ?_ _));refine cj (cs:=#[.bool t215,.slice qR t216.length qT,.string (⟨#[]⟩:ByteArray),.string (⟨#[]⟩:ByteArray),.bool false]) ?_ 2 _ rfl;(with_reducible repeat (first|refine aK ?_ _|refine aV ?_|refine aJ ?_ _));refine cj (cs:=#[.bool t215,.slice none 0 0,.string (⟨#[]⟩:ByteArray),.string (⟨#[]⟩:ByteArray),.bool false]) ?_ 1 _ rfl;(with_reducible repeat (first|refine aK ?_ _|refine aV ?_|refine aJ ?_ _));refine cj (cs:=#[.bool false,.slice none 0 0,.string (⟨#[]⟩:ByteArray),.string (⟨#[]⟩:ByteArray),.bool false]) ?_ 0 _ rfl;(with_reducible repeat (first|refine aK ?_ _|refine aV ?_|refine aJ ?_ _));exact dO.out):p:=h
theorem yJ {p:Prop} (h:p:=by rw [hg];exact Nat.ne_of_lt (jq (g:=cG) (o:= .cells #[.int .u8 aI,.string bh,.bool bn,.slice dn bT.length dw,.string bz,.string bW,.bool bX,.slice dF bw.length dx] 35 (0,0)) (by (with_reducible repeat (first|refine aK ?_ _|refine aV ?_|refine aJ ?_ _));exact bG.out))):p:=h
theorem yK {p:Prop} (h:p:=by rw [hg];exact Nat.ne_of_gt (jq (g:=cG) (o:= .cells #[.int .u8 aI,.string bh,.bool bn,.slice dn bT.length dw,.string bz,.string bW,.bool bX,.slice dF bw.length dx] 35 (0,0)) (by (with_reducible repeat (first|refine aK ?_ _|refine aV ?_|refine aJ ?_ _));exact bG.out))):p:=h
theorem pJ {p:Prop} (h:p:=by (with_reducible repeat (first|refine aK ?_ _|refine aV ?_|refine aJ ?_ _));exact cg.out):p:=h
theorem vU {p:Prop} (h:p:=by (with_reducible repeat (first|apply Kd.fX|apply Kd.fY|apply Kd.gW));exact (Kd.gp (Kd.cJ (p:=⟨g,1,none⟩) (ay.apart dH.out mB.out (by decide)) (fun _ hk=>hk.2) (.int .i64 (wrap64 (aY + 1)))) (fun _ h_ =>h_.1))):p:=h
theorem pK {p:Prop} (h:p:=by repeat (first|(with_reducible first|exact HB.out|apply aD|apply aM|apply bq|refine bp ?_ ae3.out)|exact HB.out)):p:=h
theorem sW {p:Prop} (h:p:=by repeat (first|(with_reducible first|exact HB.out|apply aD|apply aM|apply bq|refine bp ?_ I7.out|refine bp ?_ Rj.out)|exact HB.out)):p:=h
theorem sX {p:Prop} (h:p:=by repeat (first|(with_reducible first|exact HB.out|apply aD|apply aM|apply bq|refine bp ?_ I7.out|refine bp ?_ Rk.out)|exact HB.out)):p:=h
theorem p8 {p:Prop} (h:p:=by repeat (first|(with_reducible first|exact HB.out|apply aD|apply aM|apply bq|refine bp ?_ I9.out)|exact HB.out)):p:=h
theorem qa {p:Prop} (h:p:=by repeat (first|(with_reducible first|exact HB.out|apply aD|apply aM|apply bq|refine bp ?_ Gi.out)|exact HB.out)):p:=h
theorem ru {p:Prop} (h:p:=by (with_reducible repeat (first|refine aK ?_ _|refine aV ?_|refine aJ ?_ _));exact cr.out):p:=h
theorem wO {p:Prop} (h:p:=by repeat (first|(with_reducible first|exact gS.out|apply ay.alloc|apply ay.drewN|apply ay.drew|apply ay.fS|apply ay.fP|refine ay.far ?_ lA.out _|refine ay.far ?_ pQ.out _)|exact gS.out)):p:=h
theorem tV {p:Prop} (h:p:=by (with_reducible repeat (first|refine aK ?_ _|refine aV ?_|refine aJ ?_ _));exact dS.out):p:=h
theorem vV {p:Prop} (h:p:=by repeat (first|(with_reducible first|exact HB.out|apply aD|apply aM|apply bq|refine bp ?_ (ay.ge dH.out)|refine bp ?_ yL.out)|exact HB.out)):p:=h
theorem wP {p:Prop} (h:p:=by repeat (first|(with_reducible first|exact dH.out|apply ay.alloc|apply ay.drewN|apply ay.drew|apply ay.fS|apply ay.fP|refine ay.far ?_ mC.out _)|exact dH.out)):p:=h
theorem pL {p:Prop} (h:p:=by (with_reducible repeat (first|refine aK ?_ _|refine aV ?_|refine aJ ?_ _));exact gK.out):p:=h
theorem bL {p:Prop} (h:p:=by decide):p:=h
theorem Pp {p:Prop} (h:p:=by (with_reducible repeat (first|refine aK ?_ _|refine aV ?_|refine aJ ?_ _));refine fG ?_ jA.out _;(with_reducible repeat (first|refine aK ?_ _|refine aV ?_|refine aJ ?_ _));refine fG ?_ jA.out _;(with_reducible repeat (first|refine aK ?_ _|refine aV ?_|refine aJ ?_ _));refine fG ?_ jA.out _;(with_reducible repeat (first|refine aK ?_ _|refine aV ?_|refine aJ ?_ _));refine fG ?_ jA.out _;(with_reducible repeat (first|refine aK ?_ _|refine aV ?_|refine aJ ?_ _));refine fG ?_ jA.out _;(with_reducible repeat (first|refine aK ?_ _|refine aV ?_|refine aJ ?_ _));exact dS.out):p:=h
theorem yM {p:Prop} (h:p:=by (with_reducible repeat (first|refine aK ?_ _|refine aV ?_|refine aJ ?_ _));exact fJ.out):p:=h
theorem wQ {p:Prop} (h:p:=by (with_reducible repeat (first|refine aK ?_ _|refine aV ?_|refine aJ ?_ _));exact cL.out):p:=h
theorem yN {p:Prop} (h:p:=by repeat (first|(with_reducible first|exact HB.out|apply aD|apply aM|apply bq|refine bp ?_ MM.out|refine bp ?_ V4.out)|exact HB.out)):p:=h
theorem kN {p:Prop} (h:p:=by repeat (first|exact kA.refl _|apply kA.step)):p:=h
theorem Pq {p:Prop} (h:p:=by repeat (first|(with_reducible first|exact HB.out|apply aD|apply aM|apply bq|refine bp ?_ MM.out)|exact HB.out)):p:=h
theorem Pr {p:Prop} (h:p:=by repeat (first|(with_reducible first|exact HB.out|apply aD|apply aM|apply bq|refine bp ?_ ML.out)|exact HB.out)):p:=h
theorem sY {p:Prop} (h:p:=by (with_reducible repeat (first|refine aK ?_ _|refine aV ?_|refine aJ ?_ _));exact cH.out):p:=h
theorem V5 {p:Prop} (h:p:=by (with_reducible repeat (first|refine aK ?_ _|refine aV ?_|refine aJ ?_ _));refine fG ?_ j4.out _;(with_reducible repeat (first|refine aK ?_ _|refine aV ?_|refine aJ ?_ _));refine fG ?_ j4.out _;(with_reducible repeat (first|refine aK ?_ _|refine aV ?_|refine aJ ?_ _));refine fG ?_ j4.out _;(with_reducible repeat (first|refine aK ?_ _|refine aV ?_|refine aJ ?_ _));refine fG ?_ j4.out _;(with_reducible repeat (first|refine aK ?_ _|refine aV ?_|refine aJ ?_ _));refine fG ?_ j4.out _;(with_reducible repeat (first|refine aK ?_ _|refine aV ?_|refine aJ ?_ _));refine fG ?_ j4.out _;(with_reducible repeat (first|refine aK ?_ _|refine aV ?_|refine aJ ?_ _));refine fG ?_ j4.out _;(with_reducible repeat (first|refine aK ?_ _|refine aV ?_|refine aJ ?_ _));refine fG ?_ j4.out _;(with_reducible repeat (first|refine aK ?_ _|refine aV ?_|refine aJ ?_ _));exact bG.out):p:=h
theorem V6 {p:Prop} (h:p:=by (with_reducible repeat (first|refine aK ?_ _|refine aV ?_|refine aJ ?_ _));refine fG ?_ j5.out _;(with_reducible repeat (first|refine aK ?_ _|refine aV ?_|refine aJ ?_ _));refine fG ?_ j5.out _;(with_reducible repeat (first|refine aK ?_ _|refine aV ?_|refine aJ ?_ _));refine fG ?_ j5.out _;(with_reducible repeat (first|refine aK ?_ _|refine aV ?_|refine aJ ?_ _));refine fG ?_ j5.out _;(with_reducible repeat (first|refine aK ?_ _|refine aV ?_|refine aJ ?_ _));refine fG ?_ j5.out _;(with_reducible repeat (first|refine aK ?_ _|refine aV ?_|refine aJ ?_ _));refine fG ?_ j5.out _;(with_reducible repeat (first|refine aK ?_ _|refine aV ?_|refine aJ ?_ _));refine fG ?_ j5.out _;(with_reducible repeat (first|refine aK ?_ _|refine aV ?_|refine aJ ?_ _));refine fG ?_ j5.out _;(with_reducible repeat (first|refine aK ?_ _|refine aV ?_|refine aJ ?_ _));exact bG.out):p:=h
theorem tW {p:Prop} (h:p:=by (with_reducible repeat (first|refine aK ?_ _|refine aV ?_|refine aJ ?_ _));exact dz.out):p:=h
theorem yO {p:Prop} (h:p:=by repeat (first|(with_reducible first|exact HB.out|apply aD|apply aM|apply bq|refine bp ?_ abD.out)|exact HB.out)):p:=h
theorem vW {p:Prop} (h:p:=by (with_reducible repeat (first|refine aK ?_ _|refine aV ?_|refine aJ ?_ _));exact cP.out):p:=h
theorem bf {p:Prop} (h:p:=by simp):p:=h
theorem Dj {p:Prop} (h:p:=by rw [hg];exact (dK (by repeat (first|(with_reducible first|exact HB.out|apply aD|apply aM|apply bq|refine bp ?_ MM.out)|exact HB.out)))):p:=h
theorem Dk {p:Prop} (h:p:=by rw [hg];exact (dK (by repeat (first|(with_reducible first|exact HB.out|apply aD|apply aM|apply bq|refine bp ?_ ML.out)|exact HB.out)))):p:=h
theorem Dl {p:Prop} (h:p:=by rw [hg];exact (dK (by repeat (first|(with_reducible first|exact HB.out|apply aD|apply aM|apply bq|refine bp ?_ I8.out)|exact HB.out)))):p:=h
theorem V7 {p:Prop} (h:p:=by repeat (first|(with_reducible first|exact HB.out|apply aD|apply aM|apply bq|refine bp ?_ AR.out)|exact HB.out)):p:=h
theorem Gj {p:Prop} (h:p:=by repeat (first|(with_reducible first|exact HB.out|apply aD|apply aM|apply bq|refine bp ?_ V8.out)|exact HB.out)):p:=h
theorem Dm {p:Prop} (h:p:=by repeat (first|(with_reducible first|exact HB.out|apply aD|apply aM|apply bq|refine bp ?_ I7.out|refine bp ?_ abE.out)|exact HB.out)):p:=h
theorem wR {p:Prop} (h:p:=by (with_reducible repeat (first|apply Kd.fX|apply Kd.fY|apply Kd.gW));exact vX.out):p:=h
theorem yP {p:Prop} (h:p:=by (with_reducible repeat (first|refine aK ?_ _|refine aV ?_|refine aJ ?_ _));exact cZ.out):p:=h
theorem V9 {p:Prop} (h:p:=by (with_reducible repeat (first|apply Kd.fX|apply Kd.fY|apply Kd.gW));exact (Kd.gp (Kd.cJ (p:=⟨eO,7,none⟩) (Kd.cJ (p:=⟨eO,6,none⟩) (Kd.cJ (p:=⟨eO,5,none⟩) (Kd.cJ (p:=⟨eO,4,none⟩) (Kd.cJ (p:=⟨eO,3,none⟩) (Kd.cJ (p:=⟨eO,2,none⟩) (Kd.cJ (p:=⟨eO,1,none⟩) (Kd.cJ (p:=⟨eO,0,none⟩) (Kd.kj l9.out fo.out (by decide)) (fun _ hk=>hk.2) (.int .u8 qU)) (fun _ hk=>hk.2) (.string rZ)) (fun _ hk=>hk.2) (.bool td)) (fun _ hk=>hk.2) (.slice DY tj.length BH)) (fun _ hk=>hk.2) (.string wB)) (fun _ hk=>hk.2) (.string yD)) (fun _ hk=>hk.2) (.bool AH)) (fun _ hk=>hk.2) (.slice Rl AJ.length MN)) (fun _ h_ =>h_.1))):p:=h
theorem Wa {p:Prop} (h:p:=by (with_reducible repeat (first|apply Kd.fX|apply Kd.fY|apply Kd.gW));exact (Kd.gp (Kd.cJ (p:=⟨eO,7,none⟩) (Kd.cJ (p:=⟨eO,6,none⟩) (Kd.cJ (p:=⟨eO,5,none⟩) (Kd.cJ (p:=⟨eO,4,none⟩) (Kd.cJ (p:=⟨eO,3,none⟩) (Kd.cJ (p:=⟨eO,2,none⟩) (Kd.cJ (p:=⟨eO,1,none⟩) (Kd.cJ (p:=⟨eO,0,none⟩) (Kd.kj mg.out fo.out (by decide)) (fun _ hk=>hk.2) (.int .u8 qU)) (fun _ hk=>hk.2) (.string rZ)) (fun _ hk=>hk.2) (.bool td)) (fun _ hk=>hk.2) (.slice DY tj.length BH)) (fun _ hk=>hk.2) (.string wB)) (fun _ hk=>hk.2) (.string yD)) (fun _ hk=>hk.2) (.bool AH)) (fun _ hk=>hk.2) (.slice Rl AJ.length MN)) (fun _ h_ =>h_.1))):p:=h
theorem Wb {p:Prop} (h:p:=by (with_reducible repeat (first|apply Kd.fX|apply Kd.fY|apply Kd.gW));exact (Kd.gp (Kd.cJ (p:=⟨eO,7,none⟩) (Kd.cJ (p:=⟨eO,6,none⟩) (Kd.cJ (p:=⟨eO,5,none⟩) (Kd.cJ (p:=⟨eO,4,none⟩) (Kd.cJ (p:=⟨eO,3,none⟩) (Kd.cJ (p:=⟨eO,2,none⟩) (Kd.cJ (p:=⟨eO,1,none⟩) (Kd.cJ (p:=⟨eO,0,none⟩) (Kd.kj l9.out fo.out (by decide)) (fun _ hk=>hk.2) (.int .u8 qU)) (fun _ hk=>hk.2) (.string rZ)) (fun _ hk=>hk.2) (.bool td)) (fun _ hk=>hk.2) (.slice Gk tj.length DZ)) (fun _ hk=>hk.2) (.string wB)) (fun _ hk=>hk.2) (.string yD)) (fun _ hk=>hk.2) (.bool AH)) (fun _ hk=>hk.2) (.slice Wc AJ.length Rm)) (fun _ h_ =>h_.1))):p:=h
theorem Wd {p:Prop} (h:p:=by (with_reducible repeat (first|apply Kd.fX|apply Kd.fY|apply Kd.gW));exact (Kd.gp (Kd.cJ (p:=⟨eO,7,none⟩) (Kd.cJ (p:=⟨eO,6,none⟩) (Kd.cJ (p:=⟨eO,5,none⟩) (Kd.cJ (p:=⟨eO,4,none⟩) (Kd.cJ (p:=⟨eO,3,none⟩) (Kd.cJ (p:=⟨eO,2,none⟩) (Kd.cJ (p:=⟨eO,1,none⟩) (Kd.cJ (p:=⟨eO,0,none⟩) (Kd.kj mg.out fo.out (by decide)) (fun _ hk=>hk.2) (.int .u8 qU)) (fun _ hk=>hk.2) (.string rZ)) (fun _ hk=>hk.2) (.bool td)) (fun _ hk=>hk.2) (.slice Gk tj.length DZ)) (fun _ hk=>hk.2) (.string wB)) (fun _ hk=>hk.2) (.string yD)) (fun _ hk=>hk.2) (.bool AH)) (fun _ hk=>hk.2) (.slice Wc AJ.length Rm)) (fun _ h_ =>h_.1))):p:=h
theorem We {p:Prop} (h:p:=by (with_reducible repeat (first|apply Kd.fX|apply Kd.fY|apply Kd.gW));exact (Kd.gp (Kd.cJ (p:=⟨lD,7,none⟩) (Kd.cJ (p:=⟨lD,6,none⟩) (Kd.cJ (p:=⟨lD,5,none⟩) (Kd.cJ (p:=⟨lD,4,none⟩) (Kd.cJ (p:=⟨lD,3,none⟩) (Kd.cJ (p:=⟨lD,2,none⟩) (Kd.cJ (p:=⟨lD,1,none⟩) (Kd.cJ (p:=⟨lD,0,none⟩) (Kd.kj D2.out oP.out (by decide)) (fun _ hk=>hk.2) (.int .u8 Dn)) (fun _ hk=>hk.2) (.string EK)) (fun _ hk=>hk.2) (.bool Gl)) (fun _ hk=>hk.2) (.slice Pt Gm.length MO)) (fun _ hk=>hk.2) (.string JR)) (fun _ hk=>hk.2) (.string MP)) (fun _ hk=>hk.2) (.bool Pv)) (fun _ hk=>hk.2) (.slice acP Pw.length Zd)) (fun _ h_ =>h_.1))):p:=h
theorem Wf {p:Prop} (h:p:=by (with_reducible repeat (first|apply Kd.fX|apply Kd.fY|apply Kd.gW));exact (Kd.gp (Kd.cJ (p:=⟨lD,7,none⟩) (Kd.cJ (p:=⟨lD,6,none⟩) (Kd.cJ (p:=⟨lD,5,none⟩) (Kd.cJ (p:=⟨lD,4,none⟩) (Kd.cJ (p:=⟨lD,3,none⟩) (Kd.cJ (p:=⟨lD,2,none⟩) (Kd.cJ (p:=⟨lD,1,none⟩) (Kd.cJ (p:=⟨lD,0,none⟩) (Kd.kj D3.out oP.out (by decide)) (fun _ hk=>hk.2) (.int .u8 Dn)) (fun _ hk=>hk.2) (.string EK)) (fun _ hk=>hk.2) (.bool Gl)) (fun _ hk=>hk.2) (.slice Pt Gm.length MO)) (fun _ hk=>hk.2) (.string JR)) (fun _ hk=>hk.2) (.string MP)) (fun _ hk=>hk.2) (.bool Pv)) (fun _ hk=>hk.2) (.slice acP Pw.length Zd)) (fun _ h_ =>h_.1))):p:=h
theorem Wh {p:Prop} (h:p:=by (with_reducible repeat (first|apply Kd.fX|apply Kd.fY|apply Kd.gW));exact (Kd.gp (Kd.cJ (p:=⟨eP,7,none⟩) (Kd.cJ (p:=⟨eP,6,none⟩) (Kd.cJ (p:=⟨eP,5,none⟩) (Kd.cJ (p:=⟨eP,4,none⟩) (Kd.cJ (p:=⟨eP,3,none⟩) (Kd.cJ (p:=⟨eP,2,none⟩) (Kd.cJ (p:=⟨eP,1,none⟩) (Kd.cJ (p:=⟨eP,0,none⟩) (Kd.kj mh.out fq.out (by decide)) (fun _ hk=>hk.2) (.int .u8 qV)) (fun _ hk=>hk.2) (.string sj)) (fun _ hk=>hk.2) (.bool tq)) (fun _ hk=>hk.2) (.slice MQ tu.length JS)) (fun _ hk=>hk.2) (.string wC)) (fun _ hk=>hk.2) (.string yE)) (fun _ hk=>hk.2) (.bool AK)) (fun _ hk=>hk.2) (.slice Ze AL.length Wi)) (fun _ h_ =>h_.1))):p:=h
theorem Wj {p:Prop} (h:p:=by (with_reducible repeat (first|apply Kd.fX|apply Kd.fY|apply Kd.gW));exact (Kd.gp (Kd.cJ (p:=⟨eP,7,none⟩) (Kd.cJ (p:=⟨eP,6,none⟩) (Kd.cJ (p:=⟨eP,5,none⟩) (Kd.cJ (p:=⟨eP,4,none⟩) (Kd.cJ (p:=⟨eP,3,none⟩) (Kd.cJ (p:=⟨eP,2,none⟩) (Kd.cJ (p:=⟨eP,1,none⟩) (Kd.cJ (p:=⟨eP,0,none⟩) (Kd.kj mj.out fq.out (by decide)) (fun _ hk=>hk.2) (.int .u8 qV)) (fun _ hk=>hk.2) (.string sj)) (fun _ hk=>hk.2) (.bool tq)) (fun _ hk=>hk.2) (.slice MQ tu.length JS)) (fun _ hk=>hk.2) (.string wC)) (fun _ hk=>hk.2) (.string yE)) (fun _ hk=>hk.2) (.bool AK)) (fun _ hk=>hk.2) (.slice Ze AL.length Wi)) (fun _ h_ =>h_.1))):p:=h
theorem Wk {p:Prop} (h:p:=by (with_reducible repeat (first|apply Kd.fX|apply Kd.fY|apply Kd.gW));exact (Kd.gp (Kd.cJ (p:=⟨eP,7,none⟩) (Kd.cJ (p:=⟨eP,6,none⟩) (Kd.cJ (p:=⟨eP,5,none⟩) (Kd.cJ (p:=⟨eP,4,none⟩) (Kd.cJ (p:=⟨eP,3,none⟩) (Kd.cJ (p:=⟨eP,2,none⟩) (Kd.cJ (p:=⟨eP,1,none⟩) (Kd.cJ (p:=⟨eP,0,none⟩) (Kd.kj mh.out fq.out (by decide)) (fun _ hk=>hk.2) (.int .u8 qV)) (fun _ hk=>hk.2) (.string sj)) (fun _ hk=>hk.2) (.bool tq)) (fun _ hk=>hk.2) (.slice Px tu.length MR)) (fun _ hk=>hk.2) (.string wC)) (fun _ hk=>hk.2) (.string yE)) (fun _ hk=>hk.2) (.bool AK)) (fun _ hk=>hk.2) (.slice acQ AL.length Zf)) (fun _ h_ =>h_.1))):p:=h
theorem Wl {p:Prop} (h:p:=by (with_reducible repeat (first|apply Kd.fX|apply Kd.fY|apply Kd.gW));exact (Kd.gp (Kd.cJ (p:=⟨eP,7,none⟩) (Kd.cJ (p:=⟨eP,6,none⟩) (Kd.cJ (p:=⟨eP,5,none⟩) (Kd.cJ (p:=⟨eP,4,none⟩) (Kd.cJ (p:=⟨eP,3,none⟩) (Kd.cJ (p:=⟨eP,2,none⟩) (Kd.cJ (p:=⟨eP,1,none⟩) (Kd.cJ (p:=⟨eP,0,none⟩) (Kd.kj mj.out fq.out (by decide)) (fun _ hk=>hk.2) (.int .u8 qV)) (fun _ hk=>hk.2) (.string sj)) (fun _ hk=>hk.2) (.bool tq)) (fun _ hk=>hk.2) (.slice Px tu.length MR)) (fun _ hk=>hk.2) (.string wC)) (fun _ hk=>hk.2) (.string yE)) (fun _ hk=>hk.2) (.bool AK)) (fun _ hk=>hk.2) (.slice acQ AL.length Zf)) (fun _ h_ =>h_.1))):p:=h
theorem Wm {p:Prop} (h:p:=by (with_reducible repeat (first|apply Kd.fX|apply Kd.fY|apply Kd.gW));exact (Kd.gp (Kd.cJ (p:=⟨l6,7,none⟩) (Kd.cJ (p:=⟨l6,6,none⟩) (Kd.cJ (p:=⟨l6,5,none⟩) (Kd.cJ (p:=⟨l6,4,none⟩) (Kd.cJ (p:=⟨l6,3,none⟩) (Kd.cJ (p:=⟨l6,2,none⟩) (Kd.cJ (p:=⟨l6,1,none⟩) (Kd.cJ (p:=⟨l6,0,none⟩) (Kd.kj D4.out oQ.out (by decide)) (fun _ hk=>hk.2) (.int .u8 t256)) (fun _ hk=>hk.2) (.string t257)) (fun _ hk=>hk.2) (.bool t258)) (fun _ hk=>hk.2) (.slice Ao9 t259.length co9)) (fun _ hk=>hk.2) (.string t262)) (fun _ hk=>hk.2) (.string t263)) (fun _ hk=>hk.2) (.bool t264)) (fun _ hk=>hk.2) (.slice acS t265.length Zg)) (fun _ h_ =>h_.1))):p:=h
theorem Wn {p:Prop} (h:p:=by (with_reducible repeat (first|apply Kd.fX|apply Kd.fY|apply Kd.gW));exact (Kd.gp (Kd.cJ (p:=⟨l6,7,none⟩) (Kd.cJ (p:=⟨l6,6,none⟩) (Kd.cJ (p:=⟨l6,5,none⟩) (Kd.cJ (p:=⟨l6,4,none⟩) (Kd.cJ (p:=⟨l6,3,none⟩) (Kd.cJ (p:=⟨l6,2,none⟩) (Kd.cJ (p:=⟨l6,1,none⟩) (Kd.cJ (p:=⟨l6,0,none⟩) (Kd.kj D5.out oQ.out (by decide)) (fun _ hk=>hk.2) (.int .u8 t256)) (fun _ hk=>hk.2) (.string t257)) (fun _ hk=>hk.2) (.bool t258)) (fun _ hk=>hk.2) (.slice Ao9 t259.length co9)) (fun _ hk=>hk.2) (.string t262)) (fun _ hk=>hk.2) (.string t263)) (fun _ hk=>hk.2) (.bool t264)) (fun _ hk=>hk.2) (.slice acS t265.length Zg)) (fun _ h_ =>h_.1))):p:=h
theorem Wo {p:Prop} (h:p:=by (with_reducible repeat (first|refine aK ?_ _|refine aV ?_|refine aJ ?_ _));refine cj (cs:=#[.string ((cv bw gj).f0),.string ((cv bw gj).f1),.bool false]) ?_ 2 _ rfl;(with_reducible repeat (first|refine aK ?_ _|refine aV ?_|refine aJ ?_ _));refine cj (cs:=#[.string ((cv bw gj).f0),.string (⟨#[]⟩:ByteArray),.bool false]) ?_ 1 _ rfl;(with_reducible repeat (first|refine aK ?_ _|refine aV ?_|refine aJ ?_ _));refine cj (cs:=#[.string (⟨#[]⟩:ByteArray),.string (⟨#[]⟩:ByteArray),.bool false]) ?_ 0 _ rfl;(with_reducible repeat (first|refine aK ?_ _|refine aV ?_|refine aJ ?_ _));exact lf.out):p:=h
theorem Wp {p:Prop} (h:p:=by (with_reducible repeat (first|refine aK ?_ _|refine aV ?_|refine aJ ?_ _));refine cj (cs:=#[.string t180,.string t194,.bool false]) ?_ 2 _ rfl;(with_reducible repeat (first|refine aK ?_ _|refine aV ?_|refine aJ ?_ _));refine cj (cs:=#[.string t180,.string (⟨#[]⟩:ByteArray),.bool false]) ?_ 1 _ rfl;(with_reducible repeat (first|refine aK ?_ _|refine aV ?_|refine aJ ?_ _));refine cj (cs:=#[.string (⟨#[]⟩:ByteArray),.string (⟨#[]⟩:ByteArray),.bool false]) ?_ 0 _ rfl;(with_reducible repeat (first|refine aK ?_ _|refine aV ?_|refine aJ ?_ _));exact gK.out):p:=h
theorem Bd {p:Prop} (h:p:=by (with_reducible repeat (first|refine aK ?_ _|refine aV ?_|refine aJ ?_ _));exact dO.out):p:=h
theorem Gn {p:Prop} (h:p:=by repeat (first|(with_reducible first|exact HB.out|apply aD|apply aM|apply bq|refine bp ?_ (ay.ge nD.out))|exact HB.out)):p:=h
theorem Dp {p:Prop} (h:p:=by first|exact Kd.fF _ _ _ _ _|exact Kd.ae4 _ _ _ _ _|exact Kd.ae5 _ _ _ _ _|exact Kd.ae6 _ _ _ _ _|exact Kd.ae7 _ _ _ _ _):p:=h
theorem Py {p:Prop} (h:p:=by rw [hg];exact Nat.ne_of_lt (jq (g:=dP) (o:= .cells #[.int .u8 aI,.string bh,.bool bn,.slice dn bT.length dw,.string bz,.string bW,.bool bX,.slice dF bw.length dx] 35 (0,0)) (by (with_reducible repeat (first|refine aK ?_ _|refine aV ?_|refine aJ ?_ _));exact cg.out))):p:=h
theorem Pz {p:Prop} (h:p:=by rw [hg];exact Nat.ne_of_gt (jq (g:=dP) (o:= .cells #[.int .u8 aI,.string bh,.bool bn,.slice dn bT.length dw,.string bz,.string bW,.bool bX,.slice dF bw.length dx] 35 (0,0)) (by (with_reducible repeat (first|refine aK ?_ _|refine aV ?_|refine aJ ?_ _));exact cg.out))):p:=h
theorem PA {p:Prop} (h:p:=by rw [hg];exact Nat.ne_of_lt (jq (g:=dU) (o:= .cells #[.int .u8 aI,.string bh,.bool bn,.slice dn bT.length dw,.string bz,.string bW,.bool bX,.slice dF bw.length dx] 35 (0,0)) (by (with_reducible repeat (first|refine aK ?_ _|refine aV ?_|refine aJ ?_ _));exact cr.out))):p:=h
theorem PB {p:Prop} (h:p:=by rw [hg];exact Nat.ne_of_gt (jq (g:=dU) (o:= .cells #[.int .u8 aI,.string bh,.bool bn,.slice dn bT.length dw,.string bz,.string bW,.bool bX,.slice dF bw.length dx] 35 (0,0)) (by (with_reducible repeat (first|refine aK ?_ _|refine aV ?_|refine aJ ?_ _));exact cr.out))):p:=h
theorem Gp {p:Prop} (h:p:=by repeat (first|(with_reducible first|exact HB.out|apply aD|apply aM|apply bq|refine bp ?_ Wq.out)|exact HB.out)):p:=h
theorem kP {p:Prop} (h:p:=by have:=PC.out;simp;omega):p:=h
theorem Ws {p:Prop} (h:p:=by repeat (first|(with_reducible first|exact HB.out|apply aD|apply aM|apply bq|refine bp ?_ (ay.ge gS.out)|refine bp ?_ AR.out)|exact HB.out)):p:=h
theorem j6 {p:Prop} (h:p:=by rw [br];omega):p:=h
theorem nB {p:Prop} (h:p:=by first|omega|exact Nat.le_refl _):p:=h
theorem JT {p:Prop} (h:p:=by rw [hg];exact (dK (by repeat (first|(with_reducible first|exact HB.out|apply aD|apply aM|apply bq|refine bp ?_ MK.out)|exact HB.out)))):p:=h
theorem JU {p:Prop} (h:p:=by repeat (first|(with_reducible first|exact HB.out|apply aD|apply aM|apply bq|refine bp ?_ V8.out|refine bp ?_ ae8.out)|exact HB.out)):p:=h
theorem lq {p:Prop} (h:p:=by rw [List.length_drop];omega):p:=h
theorem Dq {p:Prop} (h:p:=by (with_reducible repeat (first|refine aK ?_ _|refine aV ?_|refine aJ ?_ _));exact jZ.out):p:=h
theorem PD {p:Prop} (h:p:=by rw [hg];exact Nat.ne_of_lt (jq (g:=gX) (o:= .cells #[.bool aI,.slice iF dN.length iG,.string bn,.string eF,.bool bz] 32 (0,0)) (by (with_reducible repeat (first|refine aK ?_ _|refine aV ?_|refine aJ ?_ _));exact fJ.out))):p:=h
theorem PE {p:Prop} (h:p:=by rw [hg];exact Nat.ne_of_gt (jq (g:=gX) (o:= .cells #[.bool aI,.slice iF dN.length iG,.string bn,.string eF,.bool bz] 32 (0,0)) (by (with_reducible repeat (first|refine aK ?_ _|refine aV ?_|refine aJ ?_ _));exact fJ.out))):p:=h
theorem gL {p:Prop} (h:p:=by decide +kernel):p:=h
theorem Wt {p:Prop} (h:p:=by (with_reducible repeat (first|apply Kd.fX|apply Kd.fY|apply Kd.gW));exact Kd.gp (Kd.cJ (p:=⟨fQ,4,none⟩) (Kd.cJ (p:=⟨fQ,3,none⟩) (Kd.cJ (p:=⟨fQ,2,none⟩) (Kd.cJ (p:=⟨fQ,1,none⟩) (Kd.cJ (p:=⟨fQ,0,none⟩) (Kd.kj D6.out dO.out (by decide)) (fun _ hk=>hk.2) (.bool t215)) (fun _ hk=>hk.2) (.slice qR t216.length qT)) (fun _ hk=>hk.2) (.string t219)) (fun _ hk=>hk.2) (.string t220)) (fun _ hk=>hk.2) (.bool t221)) (fun _ hk=>trivial)):p:=h
theorem Dr {p:Prop} (h:p:=by (with_reducible repeat (first|apply Kd.fX|apply Kd.fY|apply Kd.gW));exact gU.out):p:=h
theorem Be {p:Prop} (h:p:=by rw [List.length_append,List.length_replicate];omega):p:=h
theorem Wu {p:Prop} (h:p:=by (with_reducible repeat (first|refine aK ?_ _|refine aV ?_|refine aJ ?_ _));refine fG ?_ tK.out _;(with_reducible repeat (first|refine aK ?_ _|refine aV ?_|refine aJ ?_ _));refine fG ?_ tK.out _;(with_reducible repeat (first|refine aK ?_ _|refine aV ?_|refine aJ ?_ _));refine fG ?_ tK.out _;(with_reducible repeat (first|refine aK ?_ _|refine aV ?_|refine aJ ?_ _));exact cL.out):p:=h
theorem Rn {p:Prop} (h:p:=by (with_reducible repeat (first|refine aK ?_ _|refine aV ?_|refine aJ ?_ _));refine fG ?_ tL.out _;(with_reducible repeat (first|refine aK ?_ _|refine aV ?_|refine aJ ?_ _));refine fG ?_ tL.out _;(with_reducible repeat (first|refine aK ?_ _|refine aV ?_|refine aJ ?_ _));refine fG ?_ tL.out _;(with_reducible repeat (first|refine aK ?_ _|refine aV ?_|refine aJ ?_ _));exact bG.out):p:=h
theorem JV {p:Prop} (h:p:=by (with_reducible repeat (first|apply Kd.fX|apply Kd.fY|apply Kd.gW));exact Kd.gp (Kd.cJ (p:=⟨g,1,none⟩) (ay.apart dH.out mB.out (by decide)) (fun _ hk=>hk.2) (.int .i64 (wrap64 (aY + 1)))) (fun _ hk=>trivial)):p:=h
theorem JW {p:Prop} (h:p:=by (with_reducible repeat (first|apply Kd.fX|apply Kd.fY|apply Kd.gW));exact Kd.gp (Kd.cJ (p:=⟨g,1,none⟩) (ay.apart dH.out mB.out (by decide)) (fun _ hk=>hk.2) (.int .i64 (wrap64 (t171 + 1)))) (fun _ hk=>trivial)):p:=h
theorem BI {p:Prop} (h:p:=by (with_reducible repeat (first|refine aK ?_ _|refine aV ?_|refine aJ ?_ _));exact gM.out):p:=h
theorem ld {p:Prop} (h:p:=by rw [List.length_map];omega):p:=h
theorem ko {p:Prop} (h:p:=by have:=wS.out;omega):p:=h
theorem E8 {p:Prop} (h:p:=by have h1:=HR.out;have h2:=(Prod.mk.inj h1).1;have h3:=(Prod.mk.inj h1).2;rw [← h2,← h3];unfold Zh E9;rw [← HQ.out];rfl):p:=h
theorem BJ {p:Prop} (h:p:=by (with_reducible repeat (first|apply Kd.fX|apply Kd.fY|apply Kd.gW));exact mh.out):p:=h
theorem BK {p:Prop} (h:p:=by (with_reducible repeat (first|apply Kd.fX|apply Kd.fY|apply Kd.gW));exact mj.out):p:=h
theorem BL {p:Prop} (h:p:=by (with_reducible repeat (first|apply Kd.fX|apply Kd.fY|apply Kd.gW));exact l9.out):p:=h
theorem BM {p:Prop} (h:p:=by (with_reducible repeat (first|apply Kd.fX|apply Kd.fY|apply Kd.gW));exact mg.out):p:=h
theorem JX {p:Prop} (h:p:=by rw [hg];exact (dK (by repeat (first|(with_reducible first|exact HB.out|apply aD|apply aM|apply bq|refine bp ?_ AR.out)|exact HB.out)))):p:=h
theorem JY {p:Prop} (h:p:=by repeat (first|(with_reducible first|exact HB.out|apply aD|apply aM|apply bq|refine bp ?_ I8.out|refine bp ?_ Wv.out)|exact HB.out)):p:=h
theorem Fa {p:Prop} (h:p:=by (with_reducible repeat (first|refine aK ?_ _|refine aV ?_|refine aJ ?_ _));exact nE.out):p:=h
theorem Fb {p:Prop} (h:p:=by (with_reducible repeat (first|refine aK ?_ _|refine aV ?_|refine aJ ?_ _));exact eA.out):p:=h
theorem Ro {p:Prop} (h:p:=by rw [hg];exact Nat.ne_of_lt (jq (g:=eT) (o:= .cells #[.int .u8 aI,.string bh,.bool bn,.slice dn bT.length dw,.string bz,.string bW,.bool bX,.slice (some MS) bw.length dx] 35 (0,0)) (by (with_reducible repeat (first|refine aK ?_ _|refine aV ?_|refine aJ ?_ _));exact cL.out))):p:=h
theorem Rp {p:Prop} (h:p:=by rw [hg];exact Nat.ne_of_gt (jq (g:=eT) (o:= .cells #[.int .u8 aI,.string bh,.bool bn,.slice dn bT.length dw,.string bz,.string bW,.bool bX,.slice (some MS) bw.length dx] 35 (0,0)) (by (with_reducible repeat (first|refine aK ?_ _|refine aV ?_|refine aJ ?_ _));exact cL.out))):p:=h
theorem Rq {p:Prop} (h:p:=by rw [hg];exact Nat.ne_of_lt (jq (g:=cG) (o:= .cells #[.int .u8 aI,.string bh,.bool bn,.slice dn bT.length dw,.string bz,.string bW,.bool bX,.slice (some Gq) bw.length dx] 35 (0,0)) (by (with_reducible repeat (first|refine aK ?_ _|refine aV ?_|refine aJ ?_ _));exact bG.out))):p:=h
theorem Rs {p:Prop} (h:p:=by rw [hg];exact Nat.ne_of_gt (jq (g:=cG) (o:= .cells #[.int .u8 aI,.string bh,.bool bn,.slice dn bT.length dw,.string bz,.string bW,.bool bX,.slice (some Gq) bw.length dx] 35 (0,0)) (by (with_reducible repeat (first|refine aK ?_ _|refine aV ?_|refine aJ ?_ _));exact bG.out))):p:=h
theorem JZ {p:Prop} (h:p:=by rw [HQ2.out,List.length_append];refine congrArg (Value.int .i64) ?_;(try simp only [IntKind.wrap_i64]);simp only [List.length_cons,List.length_nil];omega):p:=h
theorem Fe {p:Prop} (h:p:=by (with_reducible repeat (first|apply Kd.fX|apply Kd.fY|apply Kd.gW));exact yu.out):p:=h
theorem Rt {p:Prop} (h:p:=by rw [hg];exact Nat.ne_of_lt (jq (g:=dX) (o:= .cells #[.bool false,.slice none 0 0,.string (⟨#[]⟩:ByteArray),.string (⟨#[]⟩:ByteArray),.bool false] 32 (0,0)) (by (with_reducible repeat (first|refine aK ?_ _|refine aV ?_|refine aJ ?_ _));exact dS.out))):p:=h
theorem Ru {p:Prop} (h:p:=by rw [hg];exact Nat.ne_of_gt (jq (g:=dX) (o:= .cells #[.bool false,.slice none 0 0,.string (⟨#[]⟩:ByteArray),.string (⟨#[]⟩:ByteArray),.bool false] 32 (0,0)) (by (with_reducible repeat (first|refine aK ?_ _|refine aV ?_|refine aJ ?_ _));exact dS.out))):p:=h
theorem ux {p:Prop} (h:p:=by first|(go_simp;done)|(go_simp;rfl)):p:=h
theorem uy {p:Prop} (h:p:=by simp only [List.length_cons];omega):p:=h
theorem Rv {p:Prop} (h:p:=by rw [hg];exact (dK (by repeat (first|(with_reducible first|exact HB.out|apply aD|apply aM|apply bq|refine bp ?_ (ay.ge gS.out)|refine bp ?_ AR.out)|exact HB.out)))):p:=h
theorem J0 {p:Prop} (h:p:=by (with_reducible repeat (first|refine aK ?_ _|refine aV ?_|refine aJ ?_ _));exact cQ.out):p:=h
theorem J1 {p:Prop} (h:p:=by (with_reducible repeat (first|refine aK ?_ _|refine aV ?_|refine aJ ?_ _));exact gD.out):p:=h
theorem qb {p:Prop} (h:p:=by rw [gT];omega):p:=h
theorem qc {p:Prop} (h:p:=by rw [HL.out];exact hlt):p:=h
theorem Rw {p:Prop} (h:p:=by rw [hg];exact (pR (w:=w) (g:=g) (row:=none) (by repeat (first|(with_reducible first|exact HK.out|apply bB.Gh|apply Bc|apply zG|apply pH)|exact HK.out)))):p:=h
theorem J2 {p:Prop} (h:p:=by (with_reducible repeat (first|apply Kd.fX|apply Kd.fY|apply Kd.gW));exact yw.out):p:=h
theorem J3 {p:Prop} (h:p:=by (with_reducible repeat (first|apply Kd.fX|apply Kd.fY|apply Kd.gW));exact yx.out):p:=h
theorem Ff {p:Prop} (h:p:=by rw [← HG2.out];simp only [tX];rw [HX.out,if_pos (by omega)]):p:=h
theorem Rx {p:Prop} (h:p:=by rw [hg];exact (dK (by repeat (first|(with_reducible first|exact HB.out|apply aD|apply aM|apply bq|refine bp ?_ V8.out)|exact HB.out)))):p:=h
theorem Ry {p:Prop} (h:p:=by repeat (first|(with_reducible first|exact HB.out|apply aD|apply aM|apply bq|refine bp ?_ MK.out|refine bp ?_ abG.out)|exact HB.out)):p:=h
theorem Rz {p:Prop} (h:p:=by rw [← hq_];exact (by repeat (first|(with_reducible first|exact HB.out|apply aD|apply aM|apply bq|refine bp ?_ AR.out)|exact HB.out))):p:=h
theorem RA {p:Prop} (h:p:=by first|rfl|(simp [lW,lX]<;>rfl)|(simp only [← Zi];first|rfl|(simp [lW,lX]<;>rfl))|(simp [*,lW,lX]<;>rfl)):p:=h
theorem J4 {p:Prop} (h:p:=by rw [← HG2.out];simp only [tX];rw [HX.out,if_neg (by omega),if_neg (by omega)]):p:=h
theorem J5 {p:Prop} (h:p:=by rw [← HG2.out];simp only [tX];rw [HX.out,if_neg (by omega),if_pos (by omega)]):p:=h
theorem RB {p:Prop} (h:p:=by repeat (first|(with_reducible first|exact HB.out|apply aD|apply aM|apply bq|refine bp ?_ afa.out)|exact HB.out)):p:=h
theorem RD {p:Prop} (h:p:=by repeat (first|(with_reducible first|exact HB.out|apply aD|apply aM|apply bq|refine bp ?_ afb.out)|exact HB.out)):p:=h
theorem RF {p:Prop} (h:p:=by rw [← hq_];exact (by (with_reducible repeat (first|refine aK ?_ _|refine aV ?_|refine aJ ?_ _));exact dS.out)):p:=h
theorem J6 {p:Prop} (h:p:=by rw [HK.out (by unfold tv;rw [if_neg (by omega)])];exact HR.out):p:=h
theorem pG {p:Prop} (h:p:=by go_simp;rfl):p:=h
theorem zH {p:Prop} (h:p:=by rw [br];exact hl):p:=h
theorem RG {p:Prop} (h:p:=by show (wr.cell? _).isSome=true;rw [(HR.out (X.length + 1) (by rw [List.length_append,List.length_replicate];omega)).1];rfl):p:=h
theorem uz {p:Prop} (h:p:=by rw [HL.out];omega):p:=h
theorem RH {p:Prop} (h:p:=by show (wr.cell? _).isSome=true;rw [(HR.out X.length (by rw [List.length_append,List.length_replicate];omega)).1];rfl):p:=h
theorem Fg {p:Prop} (h:p:=by rw [h3];rw [hr] at h;simp at h;omega):p:=h
theorem kI {p:Prop} (h:p:=by go_num):p:=h
theorem BN {p:Prop} (h:p:=by rw [List.length_take];omega):p:=h
theorem qd {p:Prop} (h:p:=by simp;omega):p:=h
theorem J7 {p:Prop} (h:p:=by simp only [List.length_cons,List.length_append];omega):p:=h
theorem J8 {p:Prop} (h:p:=by simp only [List.length_append,List.length_cons];omega):p:=h
theorem Fh {p:Prop} (h:p:=by rw [BO,HL.out];exact hlt):p:=h
theorem RI {p:Prop} (h:p:=by have h1:=HR.out;have h2:=(Prod.mk.inj h1).1;have h3:=(Prod.mk.inj h1).2;rw [← h2,← h3];rfl):p:=h
theorem RJ {p:Prop} (h:p:=by (with_reducible repeat (first|apply Kd.fX|apply Kd.fY|apply Kd.gW));exact D6.out):p:=h
theorem Fi {p:Prop} (h:p:=by rw [List.length_append];omega):p:=h
theorem RL {p:Prop} (h:p:=by rw [List.length_append,List.length_cons,List.length_append,List.length_append];omega):p:=h
theorem RM {p:Prop} (h:p:=by rw [HK.out (by rw [HT.out];unfold BP;rw [if_neg (by omega)])];exact HR.out):p:=h
theorem zI {p:Prop} (h:p:=by simp at h;omega):p:=h
theorem zJ {p:Prop} (h:p:=by simpa using h64):p:=h
theorem Fj {p:Prop} (h:p:=by have:=uu.out.gl;omega):p:=h
theorem Fk {p:Prop} (h:p:=by first|rw [hw]|go_num):p:=h
theorem RN {p:Prop} (h:p:=by rw [HK.out (by unfold J9;rw [if_neg (by omega)])];exact HR.out):p:=h
theorem Fl {p:Prop} (h:p:=by have:=PC.out;omega):p:=h
end Go.Proofs
