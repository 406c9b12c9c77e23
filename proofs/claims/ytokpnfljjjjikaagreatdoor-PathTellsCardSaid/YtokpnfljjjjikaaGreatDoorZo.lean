import Derived.Test.YtokpnfljjjjikaaGreatDoorProg
import Derived.Deep.AppendLies
import Derived.Deep.OwnRows
import Derived.Lib.ConvBytes
import Derived.WalkKit
import Derived.BigQuiet
import Derived.Deep.DeepCutAuto
import Derived.Deep.CutBlock
import Derived.Deep.RegionHeld3
import Derived.Lib.AppendStr
set_option linter.unusedVariables false
namespace Go.Proofs
theorem bG {p:Prop} (h:p:=by repeat (first|(with_reducible first|exact HB.out|apply aV|apply aN|apply bf)|exact HB.out)):p:=h
theorem cz {p:Prop} (h:p:=by (try simp only [List.map_toArray,List.map_cons,List.map_nil]);first|done|rfl|(simp only [List.length_drop,List.length_take];rfl)):p:=h
theorem dI {p:Prop} (h:p:=by rw [hg];exact (dm (by repeat (first|(with_reducible first|exact HB.out|apply aV|apply aN|apply bf)|exact HB.out)))):p:=h
theorem bp {p:Prop} (h:p:=by first|(with_reducible assumption)|assumption):p:=h
theorem cH {p:Prop} (h:p:=by first|rfl|(simp [kP,kQ]<;>rfl)|(simp [*,kP,kQ]<;>rfl)):p:=h
theorem fo {p:Prop} (h:p:=by repeat (first|(with_reducible first|exact HK.out|apply bM.UN|apply zl|apply xM|apply oI)|exact HK.out)):p:=h
theorem dL {p:Prop} (h:p:=by simp only [Act.put,List.setIfInBounds_toArray,List.set_cons_zero,List.set_cons_succ,cU,dh];rfl):p:=h
theorem jy {p:Prop} (h:p:=by repeat (first|(with_reducible first|exact HB.out|apply aV|apply aN|apply bf|refine aZ ?_ Le.out|refine aZ ?_ UO.out)|exact HB.out)):p:=h
theorem kX {p:Prop} (h:p:=by repeat (first|(with_reducible first|exact HB.out|apply aV|apply aN|apply bf|refine aZ ?_ Ae.out|refine aZ ?_ EI.out|refine aZ ?_ Lf.out|refine aZ ?_ UQ.out|refine aZ ?_ afk.out)|exact HB.out)):p:=h
theorem b9 {p:Prop} (h:p:=by first|rfl|(simp;done)|(simp [*];done)):p:=h
theorem gy {p:Prop} (h:p:=by repeat (first|(with_reducible first|exact HB.out|apply aV|apply aN|apply bf|refine aZ ?_ (aD.ge eW.out))|exact HB.out)):p:=h
theorem gz {p:Prop} (h:p:=by repeat (first|(with_reducible first|exact eW.out|apply aD.alloc|apply aD.drewN|apply aD.drew|apply aD.gm|apply aD.gi)|exact eW.out)):p:=h
theorem kU {p:Prop} (h:p:=by repeat (first|(with_reducible first|exact HB.out|apply aV|apply aN|apply bf|refine aZ ?_ Ae.out|refine aZ ?_ EI.out|refine aZ ?_ Lf.out)|exact HB.out)):p:=h
theorem aq {p:Prop} (h:p:=by kernel_rfl):p:=h
theorem gW {p:Prop} (h:p:=by (with_reducible repeat (first|refine ay ?_ _|refine az ?_|refine av ?_ _));exact bY.out):p:=h
theorem EJ {p:Prop} (h:p:=by (with_reducible repeat (first|refine ay ?_ _|refine az ?_|refine av ?_ _));refine bR (cs:=#[.bool oJ,.slice lW jR.length kV,.string pL,.string pY,.bool false]) ?_ 4 _ rfl;(with_reducible repeat (first|refine ay ?_ _|refine az ?_|refine av ?_ _));refine bR (cs:=#[.bool oJ,.slice lW jR.length kV,.string pL,.string (⟨#[]⟩:ByteArray),.bool false]) ?_ 3 _ rfl;(with_reducible repeat (first|refine ay ?_ _|refine az ?_|refine av ?_ _));refine bR (cs:=#[.bool oJ,.slice lW jR.length kV,.string (⟨#[]⟩:ByteArray),.string (⟨#[]⟩:ByteArray),.bool false]) ?_ 2 _ rfl;(with_reducible repeat (first|refine ay ?_ _|refine az ?_|refine av ?_ _));refine bR (cs:=#[.bool oJ,.slice none 0 0,.string (⟨#[]⟩:ByteArray),.string (⟨#[]⟩:ByteArray),.bool false]) ?_ 1 _ rfl;(with_reducible repeat (first|refine ay ?_ _|refine az ?_|refine av ?_ _));refine bR (cs:=#[.bool false,.slice none 0 0,.string (⟨#[]⟩:ByteArray),.string (⟨#[]⟩:ByteArray),.bool false]) ?_ 0 _ rfl;(with_reducible repeat (first|refine ay ?_ _|refine az ?_|refine av ?_ _));exact dH.out):p:=h
theorem ak {p:Prop} (h:p:=by omega):p:=h
theorem tY {p:Prop} (h:p:=by (with_reducible repeat (first|apply Kd.dQ|apply Kd.dR|apply Kd.dV));exact (Kd.fS (Kd.eB (p:=⟨gj,4,none⟩) (Kd.eB (p:=⟨gj,3,none⟩) (Kd.eB (p:=⟨gj,2,none⟩) (Kd.eB (p:=⟨gj,1,none⟩) (Kd.eB (p:=⟨gj,0,none⟩) (Kd.jW nD.out dH.out (by decide)) (fun _ hk=>hk.2) (.bool oJ)) (fun _ hk=>hk.2) (.slice lW jR.length kV)) (fun _ hk=>hk.2) (.string pL)) (fun _ hk=>hk.2) (.string pY)) (fun _ hk=>hk.2) (.bool qd)) (fun _ h_ =>h_.1))):p:=h
theorem tZ {p:Prop} (h:p:=by (with_reducible repeat (first|apply Kd.dQ|apply Kd.dR|apply Kd.dV));exact (Kd.fS (Kd.eB (p:=⟨gj,4,none⟩) (Kd.eB (p:=⟨gj,3,none⟩) (Kd.eB (p:=⟨gj,2,none⟩) (Kd.eB (p:=⟨gj,1,none⟩) (Kd.eB (p:=⟨gj,0,none⟩) (Kd.jW oo.out dH.out (by decide)) (fun _ hk=>hk.2) (.bool oJ)) (fun _ hk=>hk.2) (.slice lW jR.length kV)) (fun _ hk=>hk.2) (.string pL)) (fun _ hk=>hk.2) (.string pY)) (fun _ hk=>hk.2) (.bool qd)) (fun _ h_ =>h_.1))):p:=h
theorem jJ {p:Prop} (h:p:=by (with_reducible repeat (first|refine ay ?_ _|refine az ?_|refine av ?_ _));exact cG.out):p:=h
theorem mz {p:Prop} (h:p:=by repeat (first|(with_reducible first|exact HB.out|apply aV|apply aN|apply bf|refine aZ ?_ (aD.ge jm.out)|refine aZ ?_ yY.out|refine aZ ?_ abv.out)|exact HB.out)):p:=h
theorem dJ {p:Prop} (h:p:=by repeat (first|exact iC.refl _|apply iC.step)):p:=h
theorem ju {p:Prop} (h:p:=by (with_reducible repeat (first|refine ay ?_ _|refine az ?_|refine av ?_ _));exact dw.out):p:=h
theorem kF {p:Prop} (h:p:=by repeat (first|(with_reducible first|exact HB.out|apply aV|apply aN|apply bf|refine aZ ?_ afl.out)|exact HB.out)):p:=h
theorem II {p:Prop} (h:p:=by (with_reducible repeat (first|refine ay ?_ _|refine az ?_|refine av ?_ _));refine bR (cs:=#[.bool false,.slice none 0 0,.string (⟨#[]⟩:ByteArray),.string (⟨#[]⟩:ByteArray),.bool false]) ?_ 4 _ rfl;(with_reducible repeat (first|refine ay ?_ _|refine az ?_|refine av ?_ _));refine bR (cs:=#[.bool false,.slice none 0 0,.string (⟨#[]⟩:ByteArray),.string (⟨#[]⟩:ByteArray),.bool false]) ?_ 3 _ rfl;(with_reducible repeat (first|refine ay ?_ _|refine az ?_|refine av ?_ _));refine bR (cs:=#[.bool false,.slice none 0 0,.string (⟨#[]⟩:ByteArray),.string (⟨#[]⟩:ByteArray),.bool false]) ?_ 2 _ rfl;(with_reducible repeat (first|refine ay ?_ _|refine az ?_|refine av ?_ _));refine bR (cs:=#[.bool false,.slice none 0 0,.string (⟨#[]⟩:ByteArray),.string (⟨#[]⟩:ByteArray),.bool false]) ?_ 1 _ rfl;(with_reducible repeat (first|refine ay ?_ _|refine az ?_|refine av ?_ _));refine bR (cs:=#[.bool false,.slice none 0 0,.string (⟨#[]⟩:ByteArray),.string (⟨#[]⟩:ByteArray),.bool false]) ?_ 0 _ rfl;(with_reducible repeat (first|refine ay ?_ _|refine az ?_|refine av ?_ _));exact dX.out):p:=h
theorem ld {p:Prop} (h:p:=by (with_reducible repeat (first|refine ay ?_ _|refine az ?_|refine av ?_ _));exact cZ.out):p:=h
theorem jG {p:Prop} (h:p:=by (with_reducible repeat (first|refine ay ?_ _|refine az ?_|refine av ?_ _));exact dH.out):p:=h
theorem nv {p:Prop} (h:p:=by repeat (first|(with_reducible first|exact HB.out|apply aV|apply aN|apply bf|refine aZ ?_ UR.out)|exact HB.out)):p:=h
theorem l8 {p:Prop} (h:p:=by repeat (first|(with_reducible first|exact HB.out|apply aV|apply aN|apply bf|refine aZ ?_ PO.out)|exact HB.out)):p:=h
theorem Ns {p:Prop} (h:p:=by (with_reducible repeat (first|refine ay ?_ _|refine az ?_|refine av ?_ _));refine bR (cs:=#[.bool false,.slice none 0 0,.string (⟨#[]⟩:ByteArray),.string (⟨#[]⟩:ByteArray),.bool fU]) ?_ 4 _ rfl;(with_reducible repeat (first|refine ay ?_ _|refine az ?_|refine av ?_ _));refine bR (cs:=#[.bool false,.slice none 0 0,.string (⟨#[]⟩:ByteArray),.string gM,.bool fU]) ?_ 3 _ rfl;(with_reducible repeat (first|refine ay ?_ _|refine az ?_|refine av ?_ _));refine bR (cs:=#[.bool false,.slice none 0 0,.string iH,.string gM,.bool fU]) ?_ 2 _ rfl;(with_reducible repeat (first|refine ay ?_ _|refine az ?_|refine av ?_ _));refine bR (cs:=#[.bool false,.slice none 0 0,.string iH,.string gM,.bool fU]) ?_ 1 _ rfl;(with_reducible repeat (first|refine ay ?_ _|refine az ?_|refine av ?_ _));refine bR (cs:=#[.bool kW,.slice none 0 0,.string iH,.string gM,.bool fU]) ?_ 0 _ rfl;(with_reducible repeat (first|refine ay ?_ _|refine az ?_|refine av ?_ _));refine cQ ?_ kf.out _;(with_reducible repeat (first|refine ay ?_ _|refine az ?_|refine av ?_ _));refine cQ ?_ kf.out _;(with_reducible repeat (first|refine ay ?_ _|refine az ?_|refine av ?_ _));refine cQ ?_ kf.out _;(with_reducible repeat (first|refine ay ?_ _|refine az ?_|refine av ?_ _));exact cG.out):p:=h
theorem mM {p:Prop} (h:p:=by repeat (first|(with_reducible first|exact HK.out|apply bM.UN|apply zl|apply xM|apply oI|refine oq ?_ afm.out _)|exact HK.out)):p:=h
theorem EK {p:Prop} (h:p:=by (with_reducible repeat (first|refine ay ?_ _|refine az ?_|refine av ?_ _));refine cQ ?_ kg.out _;(with_reducible repeat (first|refine ay ?_ _|refine az ?_|refine av ?_ _));refine cQ ?_ kg.out _;(with_reducible repeat (first|refine ay ?_ _|refine az ?_|refine av ?_ _));refine cQ ?_ kg.out _;(with_reducible repeat (first|refine ay ?_ _|refine az ?_|refine av ?_ _));refine cQ ?_ kg.out _;(with_reducible repeat (first|refine ay ?_ _|refine az ?_|refine av ?_ _));refine cQ ?_ kg.out _;(with_reducible repeat (first|refine ay ?_ _|refine az ?_|refine av ?_ _));exact bY.out):p:=h
theorem EL {p:Prop} (h:p:=by (with_reducible repeat (first|refine ay ?_ _|refine az ?_|refine av ?_ _));refine cQ ?_ mA.out _;(with_reducible repeat (first|refine ay ?_ _|refine az ?_|refine av ?_ _));refine cQ ?_ mA.out _;(with_reducible repeat (first|refine ay ?_ _|refine az ?_|refine av ?_ _));refine cQ ?_ mA.out _;(with_reducible repeat (first|refine ay ?_ _|refine az ?_|refine av ?_ _));refine cQ ?_ mA.out _;(with_reducible repeat (first|refine ay ?_ _|refine az ?_|refine av ?_ _));refine cQ ?_ mA.out _;(with_reducible repeat (first|refine ay ?_ _|refine az ?_|refine av ?_ _));exact dw.out):p:=h
theorem mB {p:Prop} (h:p:=by repeat (first|(with_reducible first|exact HB.out|apply aV|apply aN|apply bf|refine aZ ?_ Lg.out)|exact HB.out)):p:=h
theorem n9 {p:Prop} (h:p:=by repeat (first|(with_reducible first|exact HB.out|apply aV|apply aN|apply bf|refine aZ ?_ Ae.out)|exact HB.out)):p:=h
theorem dK {p:Prop} (h:p:=by intro w';go_simp;with_reducible rfl):p:=h
theorem ud {p:Prop} (h:p:=by first|exact (aD.qg jm.out dX.out (by decide))|(rw [add_block];exact (aD.qg jm.out dX.out (by decide)))|(show (Addr.add _ _).block≠_;rw [add_block];exact (aD.qg jm.out dX.out (by decide)))|(dsimp only;exact (aD.qg jm.out dX.out (by decide)))):p:=h
theorem Nt {p:Prop} (h:p:=by (with_reducible repeat (first|refine ay ?_ _|refine az ?_|refine av ?_ _));refine bR (cs:=#[.bool t206,.slice ue t207.length uf,.string t210,.string t211,.bool false]) ?_ 4 _ rfl;(with_reducible repeat (first|refine ay ?_ _|refine az ?_|refine av ?_ _));refine bR (cs:=#[.bool t206,.slice ue t207.length uf,.string t210,.string (⟨#[]⟩:ByteArray),.bool false]) ?_ 3 _ rfl;(with_reducible repeat (first|refine ay ?_ _|refine az ?_|refine av ?_ _));refine bR (cs:=#[.bool t206,.slice ue t207.length uf,.string (⟨#[]⟩:ByteArray),.string (⟨#[]⟩:ByteArray),.bool false]) ?_ 2 _ rfl;(with_reducible repeat (first|refine ay ?_ _|refine az ?_|refine av ?_ _));refine bR (cs:=#[.bool t206,.slice none 0 0,.string (⟨#[]⟩:ByteArray),.string (⟨#[]⟩:ByteArray),.bool false]) ?_ 1 _ rfl;(with_reducible repeat (first|refine ay ?_ _|refine az ?_|refine av ?_ _));refine bR (cs:=#[.bool false,.slice none 0 0,.string (⟨#[]⟩:ByteArray),.string (⟨#[]⟩:ByteArray),.bool false]) ?_ 0 _ rfl;(with_reducible repeat (first|refine ay ?_ _|refine az ?_|refine av ?_ _));exact dM.out):p:=h
theorem mN {p:Prop} (h:p:=by first|exact Kd.vQ _ _ _ _ _|exact Kd.afn _ _ _ _ _|exact Kd.afo _ _ _ _ _|exact Kd.afp _ _ _ _ _|exact Kd.afq _ _ _ _ _):p:=h
theorem IJ {p:Prop} (h:p:=by (with_reducible repeat (first|refine ay ?_ _|refine az ?_|refine av ?_ _));refine bR (cs:=#[.string (⟨#[]⟩:ByteArray),.string (⟨#[]⟩:ByteArray),.bool false]) ?_ 2 _ rfl;(with_reducible repeat (first|refine ay ?_ _|refine az ?_|refine av ?_ _));refine bR (cs:=#[.string (⟨#[]⟩:ByteArray),.string (⟨#[]⟩:ByteArray),.bool false]) ?_ 1 _ rfl;(with_reducible repeat (first|refine ay ?_ _|refine az ?_|refine av ?_ _));refine bR (cs:=#[.string (⟨#[]⟩:ByteArray),.string (⟨#[]⟩:ByteArray),.bool false]) ?_ 0 _ rfl;(with_reducible repeat (first|refine ay ?_ _|refine az ?_|refine av ?_ _));exact gU.out):p:=h
theorem uJ {p:Prop} (h:p:=by repeat (first|(with_reducible first|exact HB.out|apply aV|apply aN|apply bf|refine aZ ?_ Lh.out)|exact HB.out)):p:=h
theorem pM {p:Prop} (h:p:=by repeat (first|(with_reducible first|exact HB.out|apply aV|apply aN|apply bf|refine aZ ?_ Hf.out)|exact HB.out)):p:=h
theorem bh {p:Prop} (h:p:=by decide):p:=h
theorem mO {p:Prop} (h:p:=by (with_reducible repeat (first|refine ay ?_ _|refine az ?_|refine av ?_ _));exact gK.out):p:=h
theorem ug {p:Prop} (h:p:=by rw [hg];exact (dm (by repeat (first|(with_reducible first|exact HB.out|apply aV|apply aN|apply bf|refine aZ ?_ Le.out|refine aZ ?_ UO.out)|exact HB.out)))):p:=h
theorem uK {p:Prop} (h:p:=by repeat (first|(with_reducible first|exact jm.out|apply aD.alloc|apply aD.drewN|apply aD.drew|apply aD.gm|apply aD.gi|refine aD.far ?_ lU.out _|refine aD.far ?_ oP.out _)|exact jm.out)):p:=h
theorem mP {p:Prop} (h:p:=by (with_reducible repeat (first|apply Kd.dQ|apply Kd.dR|apply Kd.dV));exact eG.out):p:=h
theorem mQ {p:Prop} (h:p:=by (with_reducible repeat (first|apply Kd.dQ|apply Kd.dR|apply Kd.dV));exact eH.out):p:=h
theorem sy {p:Prop} (h:p:=by (with_reducible repeat (first|refine ay ?_ _|refine az ?_|refine av ?_ _));exact dX.out):p:=h
theorem sA {p:Prop} (h:p:=by (with_reducible repeat (first|refine ay ?_ _|refine az ?_|refine av ?_ _));exact fu.out):p:=h
theorem uh {p:Prop} (h:p:=by repeat (first|(with_reducible first|exact HB.out|apply aV|apply aN|apply bf|refine aZ ?_ (aD.ge eW.out)|refine aZ ?_ wj.out)|exact HB.out)):p:=h
theorem ny {p:Prop} (h:p:=by (with_reducible repeat (first|apply Kd.dQ|apply Kd.dR|apply Kd.dV));exact dW.out):p:=h
theorem uL {p:Prop} (h:p:=by repeat (first|(with_reducible first|exact HB.out|apply aV|apply aN|apply bf|refine aZ ?_ Le.out|refine aZ ?_ UO.out|refine aZ ?_ Li.out)|exact HB.out)):p:=h
theorem oa {p:Prop} (h:p:=by (with_reducible repeat (first|refine ay ?_ _|refine az ?_|refine av ?_ _));exact gX.out):p:=h
theorem uM {p:Prop} (h:p:=by repeat (first|(with_reducible first|exact eW.out|apply aD.alloc|apply aD.drewN|apply aD.drew|apply aD.gm|apply aD.gi|refine aD.far ?_ mR.out _)|exact eW.out)):p:=h
theorem oK {p:Prop} (h:p:=by (with_reducible repeat (first|refine ay ?_ _|refine az ?_|refine av ?_ _));exact jq.out):p:=h
theorem Nu {p:Prop} (h:p:=by (with_reducible repeat (first|refine ay ?_ _|refine az ?_|refine av ?_ _));refine cQ ?_ jO.out _;(with_reducible repeat (first|refine ay ?_ _|refine az ?_|refine av ?_ _));refine cQ ?_ jO.out _;(with_reducible repeat (first|refine ay ?_ _|refine az ?_|refine av ?_ _));refine cQ ?_ jO.out _;(with_reducible repeat (first|refine ay ?_ _|refine az ?_|refine av ?_ _));refine cQ ?_ jO.out _;(with_reducible repeat (first|refine ay ?_ _|refine az ?_|refine av ?_ _));refine cQ ?_ jO.out _;(with_reducible repeat (first|refine ay ?_ _|refine az ?_|refine av ?_ _));exact dX.out):p:=h
theorem zm {p:Prop} (h:p:=by (with_reducible repeat (first|apply Kd.dQ|apply Kd.dR|apply Kd.dV));exact (Kd.fS (Kd.eB (p:=⟨g,1,none⟩) (aD.apart eW.out nJ.out (by decide)) (fun _ hk=>hk.2) (.int .i64 (wrap64 (bW + 1)))) (fun _ h_ =>h_.1))):p:=h
theorem wk {p:Prop} (h:p:=by (with_reducible repeat (first|refine ay ?_ _|refine az ?_|refine av ?_ _));exact fM.out):p:=h
theorem wm {p:Prop} (h:p:=by (with_reducible repeat (first|refine ay ?_ _|refine az ?_|refine av ?_ _));exact fN.out):p:=h
theorem wo {p:Prop} (h:p:=by repeat (first|(with_reducible first|exact HB.out|apply aV|apply aN|apply bf|refine aZ ?_ Le.out)|exact HB.out)):p:=h
theorem Nv {p:Prop} (h:p:=by (with_reducible repeat (first|refine ay ?_ _|refine az ?_|refine av ?_ _));refine bR (cs:=#[.string lT,.string lX,.bool false]) ?_ 2 _ rfl;(with_reducible repeat (first|refine ay ?_ _|refine az ?_|refine av ?_ _));refine bR (cs:=#[.string lT,.string (⟨#[]⟩:ByteArray),.bool false]) ?_ 1 _ rfl;(with_reducible repeat (first|refine ay ?_ _|refine az ?_|refine av ?_ _));refine bR (cs:=#[.string (⟨#[]⟩:ByteArray),.string (⟨#[]⟩:ByteArray),.bool false]) ?_ 0 _ rfl;(with_reducible repeat (first|refine ay ?_ _|refine az ?_|refine av ?_ _));exact gX.out):p:=h
theorem sB {p:Prop} (h:p:=by (with_reducible repeat (first|refine ay ?_ _|refine az ?_|refine av ?_ _));exact gU.out):p:=h
theorem wq {p:Prop} (h:p:=by repeat (first|(with_reducible first|exact HB.out|apply aV|apply aN|apply bf|refine aZ ?_ Lj.out|refine aZ ?_ UT.out)|exact HB.out)):p:=h
theorem wu {p:Prop} (h:p:=by repeat (first|(with_reducible first|exact HB.out|apply aV|apply aN|apply bf|refine aZ ?_ Ll.out|refine aZ ?_ UU.out)|exact HB.out)):p:=h
theorem UW {p:Prop} (h:p:=by (with_reducible repeat (first|refine ay ?_ _|refine az ?_|refine av ?_ _));refine bR (cs:=#[.bool false,.slice none 0 0,.string (⟨#[]⟩:ByteArray),.string (⟨#[]⟩:ByteArray),.bool false]) ?_ 4 _ rfl;(with_reducible repeat (first|refine ay ?_ _|refine az ?_|refine av ?_ _));refine bR (cs:=#[.bool false,.slice none 0 0,.string (⟨#[]⟩:ByteArray),.string (⟨#[]⟩:ByteArray),.bool false]) ?_ 3 _ rfl;(with_reducible repeat (first|refine ay ?_ _|refine az ?_|refine av ?_ _));refine bR (cs:=#[.bool false,.slice none 0 0,.string (⟨#[]⟩:ByteArray),.string (⟨#[]⟩:ByteArray),.bool false]) ?_ 2 _ rfl;(with_reducible repeat (first|refine ay ?_ _|refine az ?_|refine av ?_ _));refine bR (cs:=#[.bool false,.slice none 0 0,.string (⟨#[]⟩:ByteArray),.string (⟨#[]⟩:ByteArray),.bool false]) ?_ 1 _ rfl;(with_reducible repeat (first|refine ay ?_ _|refine az ?_|refine av ?_ _));refine bR (cs:=#[.bool false,.slice none 0 0,.string (⟨#[]⟩:ByteArray),.string (⟨#[]⟩:ByteArray),.bool false]) ?_ 0 _ rfl;(with_reducible repeat (first|refine ay ?_ _|refine az ?_|refine av ?_ _));exact cG.out):p:=h
theorem Nw {p:Prop} (h:p:=by repeat (first|(with_reducible first|exact HB.out|apply aV|apply aN|apply bf|refine aZ ?_ Lj.out)|exact HB.out)):p:=h
theorem uN {p:Prop} (h:p:=by repeat (first|(with_reducible first|exact HB.out|apply aV|apply aN|apply bf|refine aZ ?_ abw.out)|exact HB.out)):p:=h
theorem Ny {p:Prop} (h:p:=by repeat (first|(with_reducible first|exact HB.out|apply aV|apply aN|apply bf|refine aZ ?_ Ll.out)|exact HB.out)):p:=h
theorem BP {p:Prop} (h:p:=by (with_reducible repeat (first|refine ay ?_ _|refine az ?_|refine av ?_ _));exact kG.out):p:=h
theorem zn {p:Prop} (h:p:=by repeat (first|(with_reducible first|exact HB.out|apply aV|apply aN|apply bf|refine aZ ?_ EM.out|refine aZ ?_ abx.out)|exact HB.out)):p:=h
theorem zo {p:Prop} (h:p:=by repeat (first|(with_reducible first|exact HB.out|apply aV|apply aN|apply bf|refine aZ ?_ Lh.out|refine aZ ?_ UX.out)|exact HB.out)):p:=h
theorem sD {p:Prop} (h:p:=by (with_reducible repeat (first|refine ay ?_ _|refine az ?_|refine av ?_ _));exact dx.out):p:=h
theorem iT {p:Prop} (h:p:=by first|omega|exact Nat.le_refl _):p:=h
theorem wz {p:Prop} (h:p:=by repeat (first|(with_reducible first|exact HB.out|apply aV|apply aN|apply bf|refine aZ ?_ UY.out)|exact HB.out)):p:=h
theorem wA {p:Prop} (h:p:=by repeat (first|(with_reducible first|exact HB.out|apply aV|apply aN|apply bf|refine aZ ?_ UZ.out)|exact HB.out)):p:=h
theorem fZ {p:Prop} (h:p:=by rw [bN];omega):p:=h
theorem Nz {p:Prop} (h:p:=by (with_reducible repeat (first|refine ay ?_ _|refine az ?_|refine av ?_ _));refine cQ ?_ oQ.out _;(with_reducible repeat (first|refine ay ?_ _|refine az ?_|refine av ?_ _));refine cQ ?_ oQ.out _;(with_reducible repeat (first|refine ay ?_ _|refine az ?_|refine av ?_ _));refine cQ ?_ oQ.out _;(with_reducible repeat (first|refine ay ?_ _|refine az ?_|refine av ?_ _));exact bY.out):p:=h
theorem NA {p:Prop} (h:p:=by (with_reducible repeat (first|refine ay ?_ _|refine az ?_|refine av ?_ _));refine cQ ?_ xN.out _;(with_reducible repeat (first|refine ay ?_ _|refine az ?_|refine av ?_ _));refine cQ ?_ xN.out _;(with_reducible repeat (first|refine ay ?_ _|refine az ?_|refine av ?_ _));refine cQ ?_ xN.out _;(with_reducible repeat (first|refine ay ?_ _|refine az ?_|refine av ?_ _));exact dw.out):p:=h
theorem NB {p:Prop} (h:p:=by (with_reducible repeat (first|refine ay ?_ _|refine az ?_|refine av ?_ _));refine cQ ?_ xO.out _;(with_reducible repeat (first|refine ay ?_ _|refine az ?_|refine av ?_ _));refine cQ ?_ xO.out _;(with_reducible repeat (first|refine ay ?_ _|refine az ?_|refine av ?_ _));refine cQ ?_ xO.out _;(with_reducible repeat (first|refine ay ?_ _|refine az ?_|refine av ?_ _));exact dH.out):p:=h
theorem NC {p:Prop} (h:p:=by (with_reducible repeat (first|refine ay ?_ _|refine az ?_|refine av ?_ _));refine cQ ?_ xP.out _;(with_reducible repeat (first|refine ay ?_ _|refine az ?_|refine av ?_ _));refine cQ ?_ xP.out _;(with_reducible repeat (first|refine ay ?_ _|refine az ?_|refine av ?_ _));refine cQ ?_ xP.out _;(with_reducible repeat (first|refine ay ?_ _|refine az ?_|refine av ?_ _));exact gK.out):p:=h
theorem ND {p:Prop} (h:p:=by repeat (first|(with_reducible first|exact HB.out|apply aV|apply aN|apply bf|refine aZ ?_ Ae.out|refine aZ ?_ EI.out|refine aZ ?_ Lf.out|refine aZ ?_ UQ.out)|exact HB.out)):p:=h
theorem sF {p:Prop} (h:p:=by (with_reducible repeat (first|apply Kd.dQ|apply Kd.dR|apply Kd.dV));exact wB.out):p:=h
theorem BQ {p:Prop} (h:p:=by rw [hg];exact (dm (by repeat (first|(with_reducible first|exact HB.out|apply aV|apply aN|apply bf|refine aZ ?_ Lj.out)|exact HB.out)))):p:=h
theorem BR {p:Prop} (h:p:=by rw [hg];exact (dm (by repeat (first|(with_reducible first|exact HB.out|apply aV|apply aN|apply bf|refine aZ ?_ Lh.out)|exact HB.out)))):p:=h
theorem BU {p:Prop} (h:p:=by rw [hg];exact (dm (by repeat (first|(with_reducible first|exact HB.out|apply aV|apply aN|apply bf|refine aZ ?_ Ll.out)|exact HB.out)))):p:=h
theorem BV {p:Prop} (h:p:=by rw [hg];exact (dm (by repeat (first|(with_reducible first|exact HB.out|apply aV|apply aN|apply bf|refine aZ ?_ UR.out)|exact HB.out)))):p:=h
theorem U0 {p:Prop} (h:p:=by repeat (first|(with_reducible first|exact HB.out|apply aV|apply aN|apply bf|refine aZ ?_ yY.out)|exact HB.out)):p:=h
theorem zq {p:Prop} (h:p:=by repeat (first|(with_reducible first|exact HB.out|apply aV|apply aN|apply bf|refine aZ ?_ aby.out)|exact HB.out)):p:=h
theorem IK {p:Prop} (h:p:=by repeat (first|(with_reducible first|exact HB.out|apply aV|apply aN|apply bf|refine aZ ?_ Ae.out|refine aZ ?_ EI.out)|exact HB.out)):p:=h
theorem EN {p:Prop} (h:p:=by (with_reducible repeat (first|refine ay ?_ _|refine az ?_|refine av ?_ _));exact lR.out):p:=h
theorem uj {p:Prop} (h:p:=by (with_reducible repeat (first|apply Kd.dQ|apply Kd.dR|apply Kd.dV));exact nJ.out):p:=h
theorem BW {p:Prop} (h:p:=by (try simp only [List.map_toArray,List.map_cons,List.map_nil]);first|done|(simp only [Lm];rfl)|rfl|(simp only [List.length_drop,List.length_take];rfl)):p:=h
theorem IL {p:Prop} (h:p:=by repeat (first|(with_reducible first|exact HB.out|apply aV|apply aN|apply bf|refine aZ ?_ U1.out)|exact HB.out)):p:=h
theorem wC {p:Prop} (h:p:=by (with_reducible repeat (first|refine ay ?_ _|refine az ?_|refine av ?_ _));exact dg.out):p:=h
theorem BX {p:Prop} (h:p:=by rw [hg];exact Nat.ne_of_lt (iM (by (with_reducible repeat (first|refine ay ?_ _|refine az ?_|refine av ?_ _));exact cG.out))):p:=h
theorem BZ {p:Prop} (h:p:=by rw [hg];exact Nat.ne_of_gt (iM (by (with_reducible repeat (first|refine ay ?_ _|refine az ?_|refine av ?_ _));exact cG.out))):p:=h
theorem EO {p:Prop} (h:p:=by repeat (first|(with_reducible first|exact HB.out|apply aV|apply aN|apply bf|refine aZ ?_ UR.out|refine aZ ?_ U2.out)|exact HB.out)):p:=h
theorem NF {p:Prop} (h:p:=by (with_reducible repeat (first|apply Kd.dQ|apply Kd.dR|apply Kd.dV));exact Kd.fS (Kd.eB (p:=⟨dz,2,none⟩) (Kd.eB (p:=⟨dz,1,none⟩) (Kd.eB (p:=⟨dz,0,none⟩) (Kd.jW eG.out gX.out (by decide)) (fun _ hk=>hk.2) (.string lT)) (fun _ hk=>hk.2) (.string lX)) (fun _ hk=>hk.2) (.bool l9)) (fun _ hk=>hk.1)):p:=h
theorem NG {p:Prop} (h:p:=by (with_reducible repeat (first|apply Kd.dQ|apply Kd.dR|apply Kd.dV));exact Kd.fS (Kd.eB (p:=⟨dz,2,none⟩) (Kd.eB (p:=⟨dz,1,none⟩) (Kd.eB (p:=⟨dz,0,none⟩) (Kd.jW eH.out gX.out (by decide)) (fun _ hk=>hk.2) (.string lT)) (fun _ hk=>hk.2) (.string lX)) (fun _ hk=>hk.2) (.bool l9)) (fun _ hk=>hk.1)):p:=h
theorem PR {p:Prop} (h:p:=by (with_reducible repeat (first|refine ay ?_ _|refine az ?_|refine av ?_ _));refine bR (cs:=#[.string (⟨#[]⟩:ByteArray),.string (⟨#[]⟩:ByteArray),.bool false]) ?_ 2 _ rfl;(with_reducible repeat (first|refine ay ?_ _|refine az ?_|refine av ?_ _));refine bR (cs:=#[.string (⟨#[]⟩:ByteArray),.string (⟨#[]⟩:ByteArray),.bool false]) ?_ 1 _ rfl;(with_reducible repeat (first|refine ay ?_ _|refine az ?_|refine av ?_ _));refine bR (cs:=#[.string (⟨#[]⟩:ByteArray),.string (⟨#[]⟩:ByteArray),.bool false]) ?_ 0 _ rfl;(with_reducible repeat (first|refine ay ?_ _|refine az ?_|refine av ?_ _));exact lR.out):p:=h
theorem tF {p:Prop} (h:p:=by (with_reducible repeat (first|apply Kd.dQ|apply Kd.dR|apply Kd.dV));exact kA.out):p:=h
theorem tG {p:Prop} (h:p:=by (with_reducible repeat (first|apply Kd.dQ|apply Kd.dR|apply Kd.dV));exact nD.out):p:=h
theorem PS {p:Prop} (h:p:=by (with_reducible repeat (first|refine ay ?_ _|refine az ?_|refine av ?_ _));refine bR (cs:=#[.string t164,.string t178,.bool false]) ?_ 2 _ rfl;(with_reducible repeat (first|refine ay ?_ _|refine az ?_|refine av ?_ _));refine bR (cs:=#[.string t164,.string (⟨#[]⟩:ByteArray),.bool false]) ?_ 1 _ rfl;(with_reducible repeat (first|refine ay ?_ _|refine az ?_|refine av ?_ _));refine bR (cs:=#[.string (⟨#[]⟩:ByteArray),.string (⟨#[]⟩:ByteArray),.bool false]) ?_ 0 _ rfl;(with_reducible repeat (first|refine ay ?_ _|refine az ?_|refine av ?_ _));exact jq.out):p:=h
theorem PT {p:Prop} (h:p:=by (with_reducible repeat (first|refine ay ?_ _|refine az ?_|refine av ?_ _));refine bR (cs:=#[.string zu,.string B0,.bool false]) ?_ 2 _ rfl;(with_reducible repeat (first|refine ay ?_ _|refine az ?_|refine av ?_ _));refine bR (cs:=#[.string zu,.string (⟨#[]⟩:ByteArray),.bool false]) ?_ 1 _ rfl;(with_reducible repeat (first|refine ay ?_ _|refine az ?_|refine av ?_ _));refine bR (cs:=#[.string (⟨#[]⟩:ByteArray),.string (⟨#[]⟩:ByteArray),.bool false]) ?_ 0 _ rfl;(with_reducible repeat (first|refine ay ?_ _|refine az ?_|refine av ?_ _));exact lY.out):p:=h
theorem PU {p:Prop} (h:p:=by (with_reducible repeat (first|refine ay ?_ _|refine az ?_|refine av ?_ _));refine bR (cs:=#[.string vZ,.string yU,.bool false]) ?_ 2 _ rfl;(with_reducible repeat (first|refine ay ?_ _|refine az ?_|refine av ?_ _));refine bR (cs:=#[.string vZ,.string (⟨#[]⟩:ByteArray),.bool false]) ?_ 1 _ rfl;(with_reducible repeat (first|refine ay ?_ _|refine az ?_|refine av ?_ _));refine bR (cs:=#[.string (⟨#[]⟩:ByteArray),.string (⟨#[]⟩:ByteArray),.bool false]) ?_ 0 _ rfl;(with_reducible repeat (first|refine ay ?_ _|refine az ?_|refine av ?_ _));exact jd.out):p:=h
theorem PV {p:Prop} (h:p:=by (with_reducible repeat (first|refine ay ?_ _|refine az ?_|refine av ?_ _));refine bR (cs:=#[.string zw,.string B6,.bool false]) ?_ 2 _ rfl;(with_reducible repeat (first|refine ay ?_ _|refine az ?_|refine av ?_ _));refine bR (cs:=#[.string zw,.string (⟨#[]⟩:ByteArray),.bool false]) ?_ 1 _ rfl;(with_reducible repeat (first|refine ay ?_ _|refine az ?_|refine av ?_ _));refine bR (cs:=#[.string (⟨#[]⟩:ByteArray),.string (⟨#[]⟩:ByteArray),.bool false]) ?_ 0 _ rfl;(with_reducible repeat (first|refine ay ?_ _|refine az ?_|refine av ?_ _));exact lZ.out):p:=h
theorem uO {p:Prop} (h:p:=by (with_reducible repeat (first|refine ay ?_ _|refine az ?_|refine av ?_ _));exact dM.out):p:=h
theorem Af {p:Prop} (h:p:=by repeat (first|(with_reducible first|exact HB.out|apply aV|apply aN|apply bf|refine aZ ?_ (aD.ge oU.out))|exact HB.out)):p:=h
theorem Ag {p:Prop} (h:p:=by first|rfl|(simp [kP,kQ]<;>rfl)|(simp only [← Lm];first|rfl|(simp [kP,kQ]<;>rfl))|(simp [*,kP,kQ]<;>rfl)):p:=h
theorem bw {p:Prop} (h:p:=by simp):p:=h
theorem Ah {p:Prop} (h:p:=by repeat (first|(with_reducible first|exact HB.out|apply aV|apply aN|apply bf|refine aZ ?_ U3.out)|exact HB.out)):p:=h
theorem Ai {p:Prop} (h:p:=by repeat (first|(with_reducible first|exact HB.out|apply aV|apply aN|apply bf|refine aZ ?_ U4.out)|exact HB.out)):p:=h
theorem jF {p:Prop} (h:p:=by have:=NH.out;simp;omega):p:=h
theorem Aj {p:Prop} (h:p:=by rw [hg];exact Nat.ne_of_lt (iM (by (with_reducible repeat (first|refine ay ?_ _|refine az ?_|refine av ?_ _));exact cZ.out))):p:=h
theorem Ak {p:Prop} (h:p:=by rw [hg];exact Nat.ne_of_gt (iM (by (with_reducible repeat (first|refine ay ?_ _|refine az ?_|refine av ?_ _));exact cZ.out))):p:=h
theorem fk {p:Prop} (h:p:=by decide +kernel):p:=h
theorem uP {p:Prop} (h:p:=by (with_reducible repeat (first|apply Kd.dQ|apply Kd.dR|apply Kd.dV));exact oo.out):p:=h
theorem PW {p:Prop} (h:p:=by repeat (first|(with_reducible first|exact HB.out|apply aV|apply aN|apply bf|refine aZ ?_ (aD.ge jm.out)|refine aZ ?_ yY.out)|exact HB.out)):p:=h
theorem xQ {p:Prop} (h:p:=by (with_reducible repeat (first|refine ay ?_ _|refine az ?_|refine av ?_ _));exact eT.out):p:=h
theorem jX {p:Prop} (h:p:=by rw [List.length_map];omega):p:=h
theorem rO {p:Prop} (h:p:=by have:=Lp.out;have:=uI.out;first|omega|exact Nat.le_refl _):p:=h
theorem je {p:Prop} (h:p:=by have:=p9.out;omega):p:=h
theorem PX {p:Prop} (h:p:=by (with_reducible repeat (first|apply Kd.dQ|apply Kd.dR|apply Kd.dV));exact Kd.fS (Kd.eB (p:=⟨gp,4,none⟩) (Kd.eB (p:=⟨gp,3,none⟩) (Kd.eB (p:=⟨gp,2,none⟩) (Kd.eB (p:=⟨gp,1,none⟩) (Kd.eB (p:=⟨gp,0,none⟩) (Kd.jW Hg.out dM.out (by decide)) (fun _ hk=>hk.2) (.bool t206)) (fun _ hk=>hk.2) (.slice ue t207.length uf)) (fun _ hk=>hk.2) (.string t210)) (fun _ hk=>hk.2) (.string t211)) (fun _ hk=>hk.2) (.bool t212)) (fun _ hk=>trivial)):p:=h
theorem PY {p:Prop} (h:p:=by (with_reducible repeat (first|apply Kd.dQ|apply Kd.dR|apply Kd.dV));exact (Kd.fS (Kd.eB (p:=⟨sG,4,none⟩) (Kd.eB (p:=⟨sG,3,none⟩) (Kd.eB (p:=⟨sG,2,none⟩) (Kd.eB (p:=⟨sG,1,none⟩) (Kd.eB (p:=⟨sG,0,none⟩) (Kd.jW Hh.out uw.out (by decide)) (fun _ hk=>hk.2) (.bool t227)) (fun _ hk=>hk.2) (.slice U5 t228.length Ti)) (fun _ hk=>hk.2) (.string t231)) (fun _ hk=>hk.2) (.string t232)) (fun _ hk=>hk.2) (.bool t233)) (fun _ h_ =>h_.1))):p:=h
theorem PZ {p:Prop} (h:p:=by (with_reducible repeat (first|apply Kd.dQ|apply Kd.dR|apply Kd.dV));exact (Kd.fS (Kd.eB (p:=⟨qa,4,none⟩) (Kd.eB (p:=⟨qa,3,none⟩) (Kd.eB (p:=⟨qa,2,none⟩) (Kd.eB (p:=⟨qa,1,none⟩) (Kd.eB (p:=⟨qa,0,none⟩) (Kd.jW Hj.out tH.out (by decide)) (fun _ hk=>hk.2) (.bool t242)) (fun _ hk=>hk.2) (.slice Tj t243.length NI)) (fun _ hk=>hk.2) (.string t246)) (fun _ hk=>hk.2) (.string t247)) (fun _ hk=>hk.2) (.bool t248)) (fun _ h_ =>h_.1))):p:=h
theorem P4 {p:Prop} (h:p:=by (with_reducible repeat (first|apply Kd.dQ|apply Kd.dR|apply Kd.dV));exact (Kd.fS (Kd.eB (p:=⟨kH,4,none⟩) (Kd.eB (p:=⟨kH,3,none⟩) (Kd.eB (p:=⟨kH,2,none⟩) (Kd.eB (p:=⟨kH,1,none⟩) (Kd.eB (p:=⟨kH,0,none⟩) (Kd.jW vR.out kI.out (by decide)) (fun _ hk=>hk.2) (.bool GV)) (fun _ hk=>hk.2) (.slice Tk GW.length NJ)) (fun _ hk=>hk.2) (.string Lq)) (fun _ hk=>hk.2) (.string NK)) (fun _ hk=>hk.2) (.bool Tm)) (fun _ h_ =>h_.1))):p:=h
theorem P5 {p:Prop} (h:p:=by (with_reducible repeat (first|apply Kd.dQ|apply Kd.dR|apply Kd.dV));exact (Kd.fS (Kd.eB (p:=⟨gB,4,none⟩) (Kd.eB (p:=⟨gB,3,none⟩) (Kd.eB (p:=⟨gB,2,none⟩) (Kd.eB (p:=⟨gB,1,none⟩) (Kd.eB (p:=⟨gB,0,none⟩) (Kd.jW nD.out dw.out (by decide)) (fun _ hk=>hk.2) (.bool nH)) (fun _ hk=>hk.2) (.slice lI jv.length kO)) (fun _ hk=>hk.2) (.string nQ)) (fun _ hk=>hk.2) (.string oc)) (fun _ hk=>hk.2) (.bool ot)) (fun _ h_ =>h_.1))):p:=h
theorem xR {p:Prop} (h:p:=by (with_reducible repeat (first|apply Kd.dQ|apply Kd.dR|apply Kd.dV));exact jP.out):p:=h
theorem Al {p:Prop} (h:p:=by (with_reducible repeat (first|apply Kd.dQ|apply Kd.dR|apply Kd.dV));exact Kd.fS nD.out (fun _ hk=>hk.2)):p:=h
theorem Am {p:Prop} (h:p:=by (with_reducible repeat (first|apply Kd.dQ|apply Kd.dR|apply Kd.dV));exact Kd.fS oo.out (fun _ hk=>hk.2)):p:=h
theorem kR {p:Prop} (h:p:=by rw [List.length_drop];omega):p:=h
theorem uQ {p:Prop} (h:p:=by rw [List.length_append,List.length_replicate];omega):p:=h
theorem P6 {p:Prop} (h:p:=by (with_reducible repeat (first|refine ay ?_ _|refine az ?_|refine av ?_ _));refine cQ ?_ qh.out _;(with_reducible repeat (first|refine ay ?_ _|refine az ?_|refine av ?_ _));refine cQ ?_ qh.out _;(with_reducible repeat (first|refine ay ?_ _|refine az ?_|refine av ?_ _));refine cQ ?_ qh.out _;(with_reducible repeat (first|refine ay ?_ _|refine az ?_|refine av ?_ _));exact lR.out):p:=h
theorem P7 {p:Prop} (h:p:=by (with_reducible repeat (first|refine ay ?_ _|refine az ?_|refine av ?_ _));refine cQ ?_ kf.out _;(with_reducible repeat (first|refine ay ?_ _|refine az ?_|refine av ?_ _));refine cQ ?_ kf.out _;(with_reducible repeat (first|refine ay ?_ _|refine az ?_|refine av ?_ _));refine cQ ?_ kf.out _;(with_reducible repeat (first|refine ay ?_ _|refine az ?_|refine av ?_ _));exact cG.out):p:=h
theorem P8 {p:Prop} (h:p:=by (with_reducible repeat (first|refine ay ?_ _|refine az ?_|refine av ?_ _));refine cQ ?_ lV.out _;(with_reducible repeat (first|refine ay ?_ _|refine az ?_|refine av ?_ _));refine cQ ?_ lV.out _;(with_reducible repeat (first|refine ay ?_ _|refine az ?_|refine av ?_ _));refine cQ ?_ lV.out _;(with_reducible repeat (first|refine ay ?_ _|refine az ?_|refine av ?_ _));exact cZ.out):p:=h
theorem P9 {p:Prop} (h:p:=by (with_reducible repeat (first|refine ay ?_ _|refine az ?_|refine av ?_ _));refine cQ ?_ mC.out _;(with_reducible repeat (first|refine ay ?_ _|refine az ?_|refine av ?_ _));refine cQ ?_ mC.out _;(with_reducible repeat (first|refine ay ?_ _|refine az ?_|refine av ?_ _));refine cQ ?_ mC.out _;(with_reducible repeat (first|refine ay ?_ _|refine az ?_|refine av ?_ _));exact kG.out):p:=h
theorem Yy {p:Prop} (h:p:=by repeat (first|(with_reducible first|exact HB.out|apply aV|apply aN|apply bf|refine aZ ?_ EM.out)|exact HB.out)):p:=h
theorem DL {p:Prop} (h:p:=by rw [hg];exact Nat.ne_of_lt (iM (by (with_reducible repeat (first|refine ay ?_ _|refine az ?_|refine av ?_ _));exact bY.out))):p:=h
theorem DM {p:Prop} (h:p:=by rw [hg];exact Nat.ne_of_gt (iM (by (with_reducible repeat (first|refine ay ?_ _|refine az ?_|refine av ?_ _));exact bY.out))):p:=h
theorem tI {p:Prop} (h:p:=by rintro w' ⟨s0,s1,s2,s3,s4,s5⟩;go_simp;with_reducible rfl):p:=h
theorem Ao {p:Prop} (h:p:=by (with_reducible repeat (first|refine ay ?_ _|refine az ?_|refine av ?_ _));exact gY.out):p:=h
theorem Ap {p:Prop} (h:p:=by (with_reducible repeat (first|refine ay ?_ _|refine az ?_|refine av ?_ _));exact gZ.out):p:=h
theorem DN {p:Prop} (h:p:=by have h1:=HR.out;have h2:=(Prod.mk.inj h1).1;have h3:=(Prod.mk.inj h1).2;rw [← h2,← h3];unfold Yz DR;rw [← HQ.out];rfl):p:=h
theorem YA {p:Prop} (h:p:=by repeat (first|(with_reducible first|exact HB.out|apply aV|apply aN|apply bf|refine aZ ?_ (aD.ge sH.out)|refine aZ ?_ EM.out)|exact HB.out)):p:=h
theorem IM {p:Prop} (h:p:=by rw [hg];exact (dm (by repeat (first|(with_reducible first|exact HB.out|apply aV|apply aN|apply bf|refine aZ ?_ yY.out)|exact HB.out)))):p:=h
theorem IP {p:Prop} (h:p:=by rw [hg];exact (dm (by repeat (first|(with_reducible first|exact HB.out|apply aV|apply aN|apply bf|refine aZ ?_ EM.out)|exact HB.out)))):p:=h
theorem IQ {p:Prop} (h:p:=by repeat (first|(with_reducible first|exact HB.out|apply aV|apply aN|apply bf|refine aZ ?_ U1.out|refine aZ ?_ afr.out)|exact HB.out)):p:=h
theorem Qa {p:Prop} (h:p:=by (with_reducible repeat (first|apply Kd.dQ|apply Kd.dR|apply Kd.dV));exact (Kd.fS (Kd.eB (p:=⟨gS,2,none⟩) (Kd.eB (p:=⟨gS,1,none⟩) (Kd.eB (p:=⟨gS,0,none⟩) (Kd.jW dW.out jd.out (by decide)) (fun _ hk=>hk.2) (.string vZ)) (fun _ hk=>hk.2) (.string yU)) (fun _ hk=>hk.2) (.bool Aq)) (fun _ h_ =>h_.1))):p:=h
theorem Qb {p:Prop} (h:p:=by (with_reducible repeat (first|refine ay ?_ _|refine az ?_|refine av ?_ _));refine bR (cs:=#[.bool false,jf,.string (⟨#[]⟩:ByteArray),.string (⟨#[]⟩:ByteArray),.bool false]) ?_ 1 _ rfl;(with_reducible repeat (first|refine ay ?_ _|refine az ?_|refine av ?_ _));exact cZ.out):p:=h
theorem DT {p:Prop} (h:p:=by (with_reducible repeat (first|refine ay ?_ _|refine az ?_|refine av ?_ _));exact sI.out):p:=h
theorem DU {p:Prop} (h:p:=by (with_reducible repeat (first|refine ay ?_ _|refine az ?_|refine av ?_ _));exact ez.out):p:=h
theorem DV {p:Prop} (h:p:=by (with_reducible repeat (first|refine ay ?_ _|refine az ?_|refine av ?_ _));exact iD.out):p:=h
theorem uR {p:Prop} (h:p:=by rintro w' ⟨s0,s1,s2⟩;go_simp;with_reducible rfl):p:=h
theorem IU {p:Prop} (h:p:=by rw [hg];exact Nat.ne_of_lt (iM (by (with_reducible repeat (first|refine ay ?_ _|refine az ?_|refine av ?_ _));exact fM.out))):p:=h
theorem IV {p:Prop} (h:p:=by rw [hg];exact Nat.ne_of_gt (iM (by (with_reducible repeat (first|refine ay ?_ _|refine az ?_|refine av ?_ _));exact fM.out))):p:=h
theorem IW {p:Prop} (h:p:=by rw [HQ2.out,List.length_append];refine congrArg (Value.int .i64) ?_;(try simp only [IntKind.wrap_i64]);simp only [List.length_cons,List.length_nil];omega):p:=h
theorem IX {p:Prop} (h:p:=by rw [hg];exact Nat.ne_of_lt (iM (by (with_reducible repeat (first|refine ay ?_ _|refine az ?_|refine av ?_ _));exact kG.out))):p:=h
theorem IY {p:Prop} (h:p:=by rw [hg];exact Nat.ne_of_gt (iM (by (with_reducible repeat (first|refine ay ?_ _|refine az ?_|refine av ?_ _));exact kG.out))):p:=h
theorem IZ {p:Prop} (h:p:=by rw [hg];exact Nat.ne_of_lt (iM (by (with_reducible repeat (first|refine ay ?_ _|refine az ?_|refine av ?_ _));exact fN.out))):p:=h
theorem I0 {p:Prop} (h:p:=by rw [hg];exact Nat.ne_of_gt (iM (by (with_reducible repeat (first|refine ay ?_ _|refine az ?_|refine av ?_ _));exact fN.out))):p:=h
theorem I1 {p:Prop} (h:p:=by rw [hg];exact Nat.ne_of_lt (iM (by (with_reducible repeat (first|refine ay ?_ _|refine az ?_|refine av ?_ _));exact fu.out))):p:=h
theorem I2 {p:Prop} (h:p:=by rw [hg];exact Nat.ne_of_gt (iM (by (with_reducible repeat (first|refine ay ?_ _|refine az ?_|refine av ?_ _));exact fu.out))):p:=h
theorem I3 {p:Prop} (h:p:=by rw [hg];exact Nat.ne_of_lt (iM (by (with_reducible repeat (first|refine ay ?_ _|refine az ?_|refine av ?_ _));exact dw.out))):p:=h
theorem I4 {p:Prop} (h:p:=by rw [hg];exact Nat.ne_of_gt (iM (by (with_reducible repeat (first|refine ay ?_ _|refine az ?_|refine av ?_ _));exact dw.out))):p:=h
theorem DW {p:Prop} (h:p:=by (with_reducible repeat (first|apply Kd.dQ|apply Kd.dR|apply Kd.dV));exact NL.out):p:=h
theorem Qc {p:Prop} (h:p:=by rw [hg];exact (dm (by repeat (first|(with_reducible first|exact HB.out|apply aV|apply aN|apply bf|refine aZ ?_ Ae.out|refine aZ ?_ EI.out|refine aZ ?_ Lf.out|refine aZ ?_ UQ.out)|exact HB.out)))):p:=h
theorem DX {p:Prop} (h:p:=by rintro w' ⟨s0,s1,s2,s3,s4,s5,s6,s7,s8,s9,s10⟩;go_simp;with_reducible rfl):p:=h
theorem Qd {p:Prop} (h:p:=by rw [hg];exact (dm (by repeat (first|(with_reducible first|exact HB.out|apply aV|apply aN|apply bf|refine aZ ?_ Ae.out|refine aZ ?_ EI.out|refine aZ ?_ Lf.out)|exact HB.out)))):p:=h
theorem Qe {p:Prop} (h:p:=by (with_reducible repeat (first|apply Kd.dQ|apply Kd.dR|apply Kd.dV));exact Kd.fS (Kd.eB (p:=⟨g,1,none⟩) (aD.apart eW.out nJ.out (by decide)) (fun _ hk=>hk.2) (.int .i64 (wrap64 (bW + 1)))) (fun _ hk=>trivial)):p:=h
theorem Qf {p:Prop} (h:p:=by (with_reducible repeat (first|apply Kd.dQ|apply Kd.dR|apply Kd.dV));exact Kd.fS (Kd.eB (p:=⟨g,1,none⟩) (aD.apart eW.out nJ.out (by decide)) (fun _ hk=>hk.2) (.int .i64 (wrap64 (t155 + 1)))) (fun _ hk=>trivial)):p:=h
theorem DY {p:Prop} (h:p:=by simp only [bN,List.length_append,List.length_cons,List.length_nil];omega):p:=h
theorem Qg {p:Prop} (h:p:=by (with_reducible repeat (first|refine ay ?_ _|refine az ?_|refine av ?_ _));refine cQ ?_ lC.out _;(with_reducible repeat (first|refine ay ?_ _|refine az ?_|refine av ?_ _));exact cG.out):p:=h
theorem Qh {p:Prop} (h:p:=by rw [hg];exact (dm (by repeat (first|(with_reducible first|exact HB.out|apply aV|apply aN|apply bf|refine aZ ?_ (aD.ge jm.out)|refine aZ ?_ yY.out)|exact HB.out)))):p:=h
theorem Qi {p:Prop} (h:p:=by rw [hg];exact (dm (by repeat (first|(with_reducible first|exact HB.out|apply aV|apply aN|apply bf|refine aZ ?_ (aD.ge sH.out)|refine aZ ?_ EM.out)|exact HB.out)))):p:=h
theorem Qj {p:Prop} (h:p:=by repeat (first|(with_reducible first|exact HB.out|apply aV|apply aN|apply bf|refine aZ ?_ (aD.ge sH.out)|refine aZ ?_ EM.out|refine aZ ?_ abx.out)|exact HB.out)):p:=h
theorem uS {p:Prop} (h:p:=by have:=NM.out;have:=uI.out;omega):p:=h
theorem I5 {p:Prop} (h:p:=by (with_reducible repeat (first|refine ay ?_ _|refine az ?_|refine av ?_ _));exact kJ.out):p:=h
theorem I6 {p:Prop} (h:p:=by (with_reducible repeat (first|refine ay ?_ _|refine az ?_|refine av ?_ _));exact lS.out):p:=h
theorem pN {p:Prop} (h:p:=by rw [fX];omega):p:=h
theorem Qk {p:Prop} (h:p:=by rw [hg];exact (dm (by repeat (first|(with_reducible first|exact HB.out|apply aV|apply aN|apply bf|refine aZ ?_ Ae.out|refine aZ ?_ EI.out)|exact HB.out)))):p:=h
theorem DZ {p:Prop} (h:p:=by simp only [List.length_append,List.length_cons,List.length_nil];omega):p:=h
theorem Ql {p:Prop} (h:p:=by rw [hg];exact (rZ (w:=w) (g:=g) (row:=none) (by repeat (first|(with_reducible first|exact HK.out|apply bM.UN|apply zl|apply xM|apply oI)|exact HK.out)))):p:=h
theorem I7 {p:Prop} (h:p:=by (with_reducible repeat (first|apply Kd.dQ|apply Kd.dR|apply Kd.dV));exact EP.out):p:=h
theorem Ar {p:Prop} (h:p:=by have:=p9.out;first|omega|exact Nat.le_refl _):p:=h
theorem I8 {p:Prop} (h:p:=by (with_reducible repeat (first|apply Kd.dQ|apply Kd.dR|apply Kd.dV));exact vR.out):p:=h
theorem I9 {p:Prop} (h:p:=by (with_reducible repeat (first|apply Kd.dQ|apply Kd.dR|apply Kd.dV));exact ux.out):p:=h
theorem D2 {p:Prop} (h:p:=by rw [← HG2.out];simp only [pO];rw [HX.out,if_pos (by omega)]):p:=h
theorem Qm {p:Prop} (h:p:=by rw [hg];exact (dm (by repeat (first|(with_reducible first|exact HB.out|apply aV|apply aN|apply bf|refine aZ ?_ U1.out)|exact HB.out)))):p:=h
theorem Qn {p:Prop} (h:p:=by rw [hg];exact (dm (by repeat (first|(with_reducible first|exact HB.out|apply aV|apply aN|apply bf|refine aZ ?_ Le.out)|exact HB.out)))):p:=h
theorem Qo {p:Prop} (h:p:=by rw [hg];exact (dm (by repeat (first|(with_reducible first|exact HB.out|apply aV|apply aN|apply bf|refine aZ ?_ Ae.out)|exact HB.out)))):p:=h
theorem Ja {p:Prop} (h:p:=by first|rfl|(simp;done)|(simp only [← U6]<;>(first|rfl|simp))|(simp [*];done)):p:=h
theorem Qp {p:Prop} (h:p:=by rw [← Nq];exact (by repeat (first|(with_reducible first|exact HB.out|apply aV|apply aN|apply bf|refine aZ ?_ yY.out)|exact HB.out))):p:=h
theorem Qq {p:Prop} (h:p:=by rw [← Nq];exact (by repeat (first|(with_reducible first|exact HB.out|apply aV|apply aN|apply bf|refine aZ ?_ PO.out)|exact HB.out))):p:=h
theorem Jb {p:Prop} (h:p:=by have:=Lp.out;have:=uI.out;have:=afs.out;first|omega|exact Nat.le_refl _):p:=h
theorem Qr {p:Prop} (h:p:=by first|rfl|(simp [kP,kQ]<;>rfl)|(simp only [← ER];first|rfl|(simp [kP,kQ]<;>rfl))|(simp [*,kP,kQ]<;>rfl)):p:=h
theorem Jc {p:Prop} (h:p:=by rw [← HG2.out];simp only [pO];rw [HX.out,if_neg (by omega),if_neg (by omega)]):p:=h
theorem Jd {p:Prop} (h:p:=by rw [← HG2.out];simp only [pO];rw [HX.out,if_neg (by omega),if_pos (by omega)]):p:=h
theorem Qs {p:Prop} (h:p:=by repeat (first|(with_reducible first|exact HB.out|apply aV|apply aN|apply bf|refine aZ ?_ aft.out)|exact HB.out)):p:=h
theorem Au {p:Prop} (h:p:=by first|(go_simp;done)|(go_simp;rfl)):p:=h
theorem Qt {p:Prop} (h:p:=by rw [hg];exact Nat.ne_of_lt (iM (by (with_reducible repeat (first|refine ay ?_ _|refine az ?_|refine av ?_ _));exact dX.out))):p:=h
theorem Qu {p:Prop} (h:p:=by rw [hg];exact Nat.ne_of_gt (iM (by (with_reducible repeat (first|refine ay ?_ _|refine az ?_|refine av ?_ _));exact dX.out))):p:=h
theorem Qv {p:Prop} (h:p:=by rw [hg];exact Nat.ne_of_lt (iM (by (with_reducible repeat (first|refine ay ?_ _|refine az ?_|refine av ?_ _));exact lR.out))):p:=h
theorem Qw {p:Prop} (h:p:=by rw [hg];exact Nat.ne_of_gt (iM (by (with_reducible repeat (first|refine ay ?_ _|refine az ?_|refine av ?_ _));exact lR.out))):p:=h
theorem Qx {p:Prop} (h:p:=by rw [hg];exact Nat.ne_of_lt (iM (by (with_reducible repeat (first|refine ay ?_ _|refine az ?_|refine av ?_ _));exact dH.out))):p:=h
theorem Qy {p:Prop} (h:p:=by rw [hg];exact Nat.ne_of_gt (iM (by (with_reducible repeat (first|refine ay ?_ _|refine az ?_|refine av ?_ _));exact dH.out))):p:=h
theorem uT {p:Prop} (h:p:=by rw [bN];exact hl):p:=h
theorem Qz {p:Prop} (h:p:=by (with_reducible repeat (first|apply Kd.dQ|apply Kd.dR|apply Kd.dV));exact Kd.fS kA.out (fun _ hk=>⟨trivial,hk⟩)):p:=h
theorem QA {p:Prop} (h:p:=by rw [← Nq];exact (by (with_reducible repeat (first|refine ay ?_ _|refine az ?_|refine av ?_ _));exact dX.out)):p:=h
theorem QB {p:Prop} (h:p:=by rw [← Nq];exact (by (with_reducible repeat (first|refine ay ?_ _|refine az ?_|refine av ?_ _));exact gU.out)):p:=h
theorem Av {p:Prop} (h:p:=by rw [e];exact List.mem_cons_self ..):p:=h
theorem uU {p:Prop} (h:p:=by rw [HL.out];exact hlt):p:=h
theorem QC {p:Prop} (h:p:=by show (wr.cell? _).isSome=true;rw [(HR.out (X.length + 1) (by rw [List.length_append,List.length_replicate];omega)).1];rfl):p:=h
theorem QD {p:Prop} (h:p:=by show (wr.cell? _).isSome=true;rw [(HR.out X.length (by rw [List.length_append,List.length_replicate];omega)).1];rfl):p:=h
theorem QE {p:Prop} (h:p:=by (with_reducible repeat (first|refine ay ?_ _|refine az ?_|refine av ?_ _));exact lY.out):p:=h
theorem D3 {p:Prop} (h:p:=by rw [h3];rw [hr] at h;simp at h;omega):p:=h
theorem Je {p:Prop} (h:p:=by have:=p9.out;have:=YB.out;have:=YC.out;omega):p:=h
theorem QF {p:Prop} (h:p:=by have h1:=HR.out;have h2:=(Prod.mk.inj h1).1;have h3:=(Prod.mk.inj h1).2;rw [← h2,← h3];rfl):p:=h
theorem QG {p:Prop} (h:p:=by have:=Lp.out;have:=uI.out;have:=afs.out;have:=aoV.out;first|omega|exact Nat.le_refl _):p:=h
theorem QH {p:Prop} (h:p:=by (with_reducible repeat (first|apply Kd.dQ|apply Kd.dR|apply Kd.dV));exact Hg.out):p:=h
theorem D4 {p:Prop} (h:p:=by rw [List.length_take];omega):p:=h
theorem D5 {p:Prop} (h:p:=by rw [List.length_cons];omega):p:=h
theorem Jf {p:Prop} (h:p:=by simp only [List.length_cons] at hn;omega):p:=h
theorem xS {p:Prop} (h:p:=by simp at h;omega):p:=h
theorem nE {p:Prop} (h:p:=by go_num):p:=h
theorem Jg {p:Prop} (h:p:=by have:=Lp.out;have:=uI.out;omega):p:=h
theorem Jh {p:Prop} (h:p:=by have:=p9.out;have:=YB.out;omega):p:=h
theorem xU {p:Prop} (h:p:=by simpa using h64):p:=h
theorem D6 {p:Prop} (h:p:=by have:=BM.out.gl;omega):p:=h
theorem Aw {p:Prop} (h:p:=by rw [HL.out];omega):p:=h
theorem QI {p:Prop} (h:p:=by rintro w' ⟨s0,s1,s2,s3,s4,s5,s6⟩;go_simp;with_reducible rfl):p:=h
theorem QJ {p:Prop} (h:p:=by rw [HK.out (by unfold Ji;rw [if_neg (by omega)])];exact HR.out):p:=h
theorem D7 {p:Prop} (h:p:=by have:=NH.out;omega):p:=h
end Go.Proofs
