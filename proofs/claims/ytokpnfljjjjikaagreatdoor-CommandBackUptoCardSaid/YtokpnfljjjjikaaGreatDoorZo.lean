import Derived.Test.YtokpnfljjjjikaaGreatDoorProg
import Derived.Below
import Derived.Deep.Draws
import Derived.Deep.AppendLies
import Derived.Maps.AppendAt
import Derived.OwnWalk
import Derived.Laws.BytesArg
import Derived.Laws.MakeOwn
import Derived.Laws.OwnMore
import Derived.Deep.OwnRows
import Derived.Tactics
import Derived.Lib.ConvBytes
import Derived.Laws.Slices
import Derived.WalkKit
import Derived.KernelRfl
import Derived.RowKit3
import Derived.Deep.LoopGhost
import Derived.Deep.QuietTactic
import Derived.BigQuiet
import Derived.WideLaws
import Derived.Deep.DeepCutAuto
import Derived.Deep.CutBlock
import Derived.Deep.RegionHeld3
import Derived.Laws.Rows
import Derived.Lib.AppendStr
import Derived.ArgAppend
import Derived.Laws.IdiomCopy
import Derived.OrdersHeld
import Derived.Laws.BitsLemmas
import Derived.RowKit
set_option linter.unusedVariables false
namespace Go.Proofs
theorem cw {p:Prop} (h:p:=by repeat (first|(with_reducible first|exact HB.out|apply az|apply aB|apply bu)|exact HB.out)):p:=h
theorem cV {p:Prop} (h:p:=by (try simp only [List.map_toArray,List.map_cons,List.map_nil]);first|done|rfl|(simp only [List.length_drop,List.length_take];rfl)):p:=h
theorem dK {p:Prop} (h:p:=by rw [hg];exact (eu (by repeat (first|(with_reducible first|exact HB.out|apply az|apply aB|apply bu)|exact HB.out)))):p:=h
theorem fH {p:Prop} (h:p:=by repeat (first|(with_reducible first|exact HB.out|apply az|apply aB|apply bu|refine bp ?_ wF.out)|exact HB.out)):p:=h
theorem eH {p:Prop} (h:p:=by repeat (first|(with_reducible first|exact HK.out|apply bA.EH|apply zf|apply xI|apply oG)|exact HK.out)):p:=h
theorem cZ {p:Prop} (h:p:=by first|rfl|(simp [lQ,lR]<;>rfl)|(simp [*,lQ,lR]<;>rfl)):p:=h
theorem iw {p:Prop} (h:p:=by repeat (first|(with_reducible first|exact HB.out|apply az|apply aB|apply bu|refine bp ?_ (av.ge dO.out))|exact HB.out)):p:=h
theorem iy {p:Prop} (h:p:=by repeat (first|(with_reducible first|exact dO.out|apply av.alloc|apply av.drewN|apply av.drew|apply av.fQ|apply av.fM)|exact dO.out)):p:=h
theorem cX {p:Prop} (h:p:=by first|(with_reducible assumption)|assumption):p:=h
theorem lf {p:Prop} (h:p:=by repeat (first|(with_reducible first|exact HB.out|apply az|apply aB|apply bu|refine bp ?_ GH.out)|exact HB.out)):p:=h
theorem iH {p:Prop} (h:p:=by (with_reducible repeat (first|refine aM ?_ _|refine bh ?_|refine aU ?_ _));exact aH.out):p:=h
theorem au {p:Prop} (h:p:=by kernel_rfl):p:=h
theorem lS {p:Prop} (h:p:=by repeat (first|(with_reducible first|exact HB.out|apply az|apply aB|apply bu|refine bp ?_ (av.ge gI.out)|refine bp ?_ yS.out|refine bp ?_ aao.out)|exact HB.out)):p:=h
theorem kM {p:Prop} (h:p:=by repeat (first|(with_reducible first|exact HB.out|apply az|apply aB|apply bu|refine bp ?_ wF.out|refine bp ?_ GI.out)|exact HB.out)):p:=h
theorem kf {p:Prop} (h:p:=by repeat (first|(with_reducible first|exact HB.out|apply az|apply aB|apply bu|refine bp ?_ adG.out)|exact HB.out)):p:=h
theorem Ib {p:Prop} (h:p:=by (with_reducible repeat (first|refine aM ?_ _|refine bh ?_|refine aU ?_ _));refine cv (cs:=#[.bool false,.slice none 0 0,.string (⟨#[]⟩:ByteArray),.string (⟨#[]⟩:ByteArray),.bool false]) ?_ 4 _ rfl;(with_reducible repeat (first|refine aM ?_ _|refine bh ?_|refine aU ?_ _));refine cv (cs:=#[.bool false,.slice none 0 0,.string (⟨#[]⟩:ByteArray),.string (⟨#[]⟩:ByteArray),.bool false]) ?_ 3 _ rfl;(with_reducible repeat (first|refine aM ?_ _|refine bh ?_|refine aU ?_ _));refine cv (cs:=#[.bool false,.slice none 0 0,.string (⟨#[]⟩:ByteArray),.string (⟨#[]⟩:ByteArray),.bool false]) ?_ 2 _ rfl;(with_reducible repeat (first|refine aM ?_ _|refine bh ?_|refine aU ?_ _));refine cv (cs:=#[.bool false,.slice none 0 0,.string (⟨#[]⟩:ByteArray),.string (⟨#[]⟩:ByteArray),.bool false]) ?_ 1 _ rfl;(with_reducible repeat (first|refine aM ?_ _|refine bh ?_|refine aU ?_ _));refine cv (cs:=#[.bool false,.slice none 0 0,.string (⟨#[]⟩:ByteArray),.string (⟨#[]⟩:ByteArray),.bool false]) ?_ 0 _ rfl;(with_reducible repeat (first|refine aM ?_ _|refine bh ?_|refine aU ?_ _));exact dX.out):p:=h
theorem aq {p:Prop} (h:p:=by omega):p:=h
theorem Ic {p:Prop} (h:p:=by (with_reducible repeat (first|refine aM ?_ _|refine bh ?_|refine aU ?_ _));refine gB ?_ iI.out _;(with_reducible repeat (first|refine aM ?_ _|refine bh ?_|refine aU ?_ _));refine gB ?_ iI.out _;(with_reducible repeat (first|refine aM ?_ _|refine bh ?_|refine aU ?_ _));refine gB ?_ iI.out _;(with_reducible repeat (first|refine aM ?_ _|refine bh ?_|refine aU ?_ _));refine gB ?_ iI.out _;(with_reducible repeat (first|refine aM ?_ _|refine bh ?_|refine aU ?_ _));refine gB ?_ iI.out _;(with_reducible repeat (first|refine aM ?_ _|refine bh ?_|refine aU ?_ _));refine gB ?_ iI.out _;(with_reducible repeat (first|refine aM ?_ _|refine bh ?_|refine aU ?_ _));refine gB ?_ iI.out _;(with_reducible repeat (first|refine aM ?_ _|refine bh ?_|refine aU ?_ _));refine gB ?_ iI.out _;(with_reducible repeat (first|refine aM ?_ _|refine bh ?_|refine aU ?_ _));exact aH.out):p:=h
theorem kT {p:Prop} (h:p:=by repeat (first|(with_reducible first|exact HB.out|apply az|apply aB|apply bu|refine bp ?_ adH.out)|exact HB.out)):p:=h
theorem ey {p:Prop} (h:p:=by first|rfl|(simp;done)|(simp [*];done)):p:=h
theorem l5 {p:Prop} (h:p:=by repeat (first|(with_reducible first|exact HK.out|apply bA.EH|apply zf|apply xI|apply oG|refine n7 ?_ adI.out _)|exact HK.out)):p:=h
theorem lT {p:Prop} (h:p:=by repeat (first|(with_reducible first|exact HB.out|apply az|apply aB|apply bu|refine bp ?_ Ld.out)|exact HB.out)):p:=h
theorem nT {p:Prop} (h:p:=by repeat (first|(with_reducible first|exact HB.out|apply az|apply aB|apply bu|refine bp ?_ Le.out)|exact HB.out)):p:=h
theorem tL {p:Prop} (h:p:=by first|exact (av.qi gI.out dX.out (by decide))|(rw [add_block];exact (av.qi gI.out dX.out (by decide)))|(show (Addr.add _ _).block≠_;rw [add_block];exact (av.qi gI.out dX.out (by decide)))|(dsimp only;exact (av.qi gI.out dX.out (by decide)))):p:=h
theorem oH {p:Prop} (h:p:=by repeat (first|(with_reducible first|exact HB.out|apply az|apply aB|apply bu|refine bp ?_ Lf.out|refine bp ?_ T9.out)|exact HB.out)):p:=h
theorem ND {p:Prop} (h:p:=by (with_reducible repeat (first|refine aM ?_ _|refine bh ?_|refine aU ?_ _));refine cv (cs:=#[.bool t215,.slice p8 t216.length qa,.string t219,.string t220,.bool false]) ?_ 4 _ rfl;(with_reducible repeat (first|refine aM ?_ _|refine bh ?_|refine aU ?_ _));refine cv (cs:=#[.bool t215,.slice p8 t216.length qa,.string t219,.string (⟨#[]⟩:ByteArray),.bool false]) ?_ 3 _ rfl;(with_reducible repeat (first|refine aM ?_ _|refine bh ?_|refine aU ?_ _));refine cv (cs:=#[.bool t215,.slice p8 t216.length qa,.string (⟨#[]⟩:ByteArray),.string (⟨#[]⟩:ByteArray),.bool false]) ?_ 2 _ rfl;(with_reducible repeat (first|refine aM ?_ _|refine bh ?_|refine aU ?_ _));refine cv (cs:=#[.bool t215,.slice none 0 0,.string (⟨#[]⟩:ByteArray),.string (⟨#[]⟩:ByteArray),.bool false]) ?_ 1 _ rfl;(with_reducible repeat (first|refine aM ?_ _|refine bh ?_|refine aU ?_ _));refine cv (cs:=#[.bool false,.slice none 0 0,.string (⟨#[]⟩:ByteArray),.string (⟨#[]⟩:ByteArray),.bool false]) ?_ 0 _ rfl;(with_reducible repeat (first|refine aM ?_ _|refine bh ?_|refine aU ?_ _));exact dS.out):p:=h
theorem oI {p:Prop} (h:p:=by (with_reducible repeat (first|refine aM ?_ _|refine bh ?_|refine aU ?_ _));exact cg.out):p:=h
theorem tM {p:Prop} (h:p:=by (with_reducible repeat (first|apply Kd.gh|apply Kd.gm|apply Kd.iq));exact (Kd.gi (Kd.cH (p:=⟨g,1,none⟩) (av.apart dO.out l6.out (by decide)) (fun _ hk=>hk.2) (.int .i64 (wrap64 (aY + 1)))) (fun _ h_ =>h_.1))):p:=h
theorem oJ {p:Prop} (h:p:=by repeat (first|(with_reducible first|exact HB.out|apply az|apply aB|apply bu|refine bp ?_ adJ.out)|exact HB.out)):p:=h
theorem rA {p:Prop} (h:p:=by rw [hg];exact (eu (by repeat (first|(with_reducible first|exact HB.out|apply az|apply aB|apply bu|refine bp ?_ wF.out)|exact HB.out)))):p:=h
theorem pH {p:Prop} (h:p:=by repeat (first|(with_reducible first|exact HB.out|apply az|apply aB|apply bu|refine bp ?_ GJ.out)|exact HB.out)):p:=h
theorem pI {p:Prop} (h:p:=by repeat (first|(with_reducible first|exact HB.out|apply az|apply aB|apply bu|refine bp ?_ EI.out)|exact HB.out)):p:=h
theorem qj {p:Prop} (h:p:=by (with_reducible repeat (first|refine aM ?_ _|refine bh ?_|refine aU ?_ _));exact cu.out):p:=h
theorem uw {p:Prop} (h:p:=by repeat (first|(with_reducible first|exact gI.out|apply av.alloc|apply av.drewN|apply av.drew|apply av.fQ|apply av.fM|refine av.far ?_ lu.out _|refine av.far ?_ oQ.out _)|exact gI.out)):p:=h
theorem rX {p:Prop} (h:p:=by (with_reducible repeat (first|refine aM ?_ _|refine bh ?_|refine aU ?_ _));exact dX.out):p:=h
theorem tO {p:Prop} (h:p:=by repeat (first|(with_reducible first|exact HB.out|apply az|apply aB|apply bu|refine bp ?_ (av.ge dO.out)|refine bp ?_ wG.out)|exact HB.out)):p:=h
theorem Bz {p:Prop} (h:p:=by rw [hg];exact Nat.ne_of_lt (jV (g:=bI) (o:= .cells #[.int .u8 aK,.string bf,.bool bg,.slice cO bQ.length cP,.string bw,.string bT,.bool bU,.slice cS bG.length cQ] 35 (0,0)) (by (with_reducible repeat (first|refine aM ?_ _|refine bh ?_|refine aU ?_ _));exact aH.out))):p:=h
theorem BA {p:Prop} (h:p:=by rw [hg];exact Nat.ne_of_gt (jV (g:=bI) (o:= .cells #[.int .u8 aK,.string bf,.bool bg,.slice cO bQ.length cP,.string bw,.string bT,.bool bU,.slice cS bG.length cQ] 35 (0,0)) (by (with_reducible repeat (first|refine aM ?_ _|refine bh ?_|refine aU ?_ _));exact aH.out))):p:=h
theorem ux {p:Prop} (h:p:=by repeat (first|(with_reducible first|exact dO.out|apply av.alloc|apply av.drewN|apply av.drew|apply av.fQ|apply av.fM|refine av.far ?_ l7.out _)|exact dO.out)):p:=h
theorem oK {p:Prop} (h:p:=by (with_reducible repeat (first|refine aM ?_ _|refine bh ?_|refine aU ?_ _));exact gF.out):p:=h
theorem NF {p:Prop} (h:p:=by (with_reducible repeat (first|refine aM ?_ _|refine bh ?_|refine aU ?_ _));refine gB ?_ jt.out _;(with_reducible repeat (first|refine aM ?_ _|refine bh ?_|refine aU ?_ _));refine gB ?_ jt.out _;(with_reducible repeat (first|refine aM ?_ _|refine bh ?_|refine aU ?_ _));refine gB ?_ jt.out _;(with_reducible repeat (first|refine aM ?_ _|refine bh ?_|refine aU ?_ _));refine gB ?_ jt.out _;(with_reducible repeat (first|refine aM ?_ _|refine bh ?_|refine aU ?_ _));refine gB ?_ jt.out _;(with_reducible repeat (first|refine aM ?_ _|refine bh ?_|refine aU ?_ _));exact dX.out):p:=h
theorem bR {p:Prop} (h:p:=by decide):p:=h
theorem wH {p:Prop} (h:p:=by (with_reducible repeat (first|refine aM ?_ _|refine bh ?_|refine aU ?_ _));exact fE.out):p:=h
theorem uy {p:Prop} (h:p:=by (with_reducible repeat (first|refine aM ?_ _|refine bh ?_|refine aU ?_ _));exact cM.out):p:=h
theorem wI {p:Prop} (h:p:=by repeat (first|(with_reducible first|exact HB.out|apply az|apply aB|apply bu|refine bp ?_ Lg.out|refine bp ?_ Ua.out)|exact HB.out)):p:=h
theorem kJ {p:Prop} (h:p:=by repeat (first|exact kg.refl _|apply kg.step)):p:=h
theorem NG {p:Prop} (h:p:=by repeat (first|(with_reducible first|exact HB.out|apply az|apply aB|apply bu|refine bp ?_ Lg.out)|exact HB.out)):p:=h
theorem NH {p:Prop} (h:p:=by repeat (first|(with_reducible first|exact HB.out|apply az|apply aB|apply bu|refine bp ?_ Lf.out)|exact HB.out)):p:=h
theorem rB {p:Prop} (h:p:=by (with_reducible repeat (first|refine aM ?_ _|refine bh ?_|refine aU ?_ _));exact cF.out):p:=h
theorem rY {p:Prop} (h:p:=by (with_reducible repeat (first|refine aM ?_ _|refine bh ?_|refine aU ?_ _));exact dF.out):p:=h
theorem wJ {p:Prop} (h:p:=by repeat (first|(with_reducible first|exact HB.out|apply az|apply aB|apply bu|refine bp ?_ aap.out)|exact HB.out)):p:=h
theorem tP {p:Prop} (h:p:=by (with_reducible repeat (first|refine aM ?_ _|refine bh ?_|refine aU ?_ _));exact cT.out):p:=h
theorem BB {p:Prop} (h:p:=by rw [hg];exact (eu (by repeat (first|(with_reducible first|exact HB.out|apply az|apply aB|apply bu|refine bp ?_ Lg.out)|exact HB.out)))):p:=h
theorem BC {p:Prop} (h:p:=by rw [hg];exact (eu (by repeat (first|(with_reducible first|exact HB.out|apply az|apply aB|apply bu|refine bp ?_ Lf.out)|exact HB.out)))):p:=h
theorem BD {p:Prop} (h:p:=by rw [hg];exact (eu (by repeat (first|(with_reducible first|exact HB.out|apply az|apply aB|apply bu|refine bp ?_ GH.out)|exact HB.out)))):p:=h
theorem Ub {p:Prop} (h:p:=by repeat (first|(with_reducible first|exact HB.out|apply az|apply aB|apply bu|refine bp ?_ yS.out)|exact HB.out)):p:=h
theorem EJ {p:Prop} (h:p:=by repeat (first|(with_reducible first|exact HB.out|apply az|apply aB|apply bu|refine bp ?_ Uc.out)|exact HB.out)):p:=h
theorem bn {p:Prop} (h:p:=by simp):p:=h
theorem uz {p:Prop} (h:p:=by (with_reducible repeat (first|apply Kd.gh|apply Kd.gm|apply Kd.iq));exact iD.out):p:=h
theorem uA {p:Prop} (h:p:=by (with_reducible repeat (first|apply Kd.gh|apply Kd.gm|apply Kd.iq));exact iE.out):p:=h
theorem uB {p:Prop} (h:p:=by (with_reducible repeat (first|apply Kd.gh|apply Kd.gm|apply Kd.iq));exact tQ.out):p:=h
theorem wK {p:Prop} (h:p:=by (with_reducible repeat (first|refine aM ?_ _|refine bh ?_|refine aU ?_ _));exact dm.out):p:=h
theorem Ud {p:Prop} (h:p:=by (with_reducible repeat (first|apply Kd.gh|apply Kd.gm|apply Kd.iq));exact (Kd.gi (Kd.cH (p:=⟨lB,7,none⟩) (Kd.cH (p:=⟨lB,6,none⟩) (Kd.cH (p:=⟨lB,5,none⟩) (Kd.cH (p:=⟨lB,4,none⟩) (Kd.cH (p:=⟨lB,3,none⟩) (Kd.cH (p:=⟨lB,2,none⟩) (Kd.cH (p:=⟨lB,1,none⟩) (Kd.cH (p:=⟨lB,0,none⟩) (Kd.j4 Ce.out n9.out (by decide)) (fun _ hk=>hk.2) (.int .u8 BF)) (fun _ hk=>hk.2) (.string CZ)) (fun _ hk=>hk.2) (.bool EK)) (fun _ hk=>hk.2) (.slice NI EL.length Lh)) (fun _ hk=>hk.2) (.string Ie)) (fun _ hk=>hk.2) (.string Li)) (fun _ hk=>hk.2) (.bool NJ)) (fun _ hk=>hk.2) (.slice abx NK.length WV)) (fun _ h_ =>h_.1))):p:=h
theorem Ue {p:Prop} (h:p:=by (with_reducible repeat (first|apply Kd.gh|apply Kd.gm|apply Kd.iq));exact (Kd.gi (Kd.cH (p:=⟨lB,7,none⟩) (Kd.cH (p:=⟨lB,6,none⟩) (Kd.cH (p:=⟨lB,5,none⟩) (Kd.cH (p:=⟨lB,4,none⟩) (Kd.cH (p:=⟨lB,3,none⟩) (Kd.cH (p:=⟨lB,2,none⟩) (Kd.cH (p:=⟨lB,1,none⟩) (Kd.cH (p:=⟨lB,0,none⟩) (Kd.j4 Cf.out n9.out (by decide)) (fun _ hk=>hk.2) (.int .u8 BF)) (fun _ hk=>hk.2) (.string CZ)) (fun _ hk=>hk.2) (.bool EK)) (fun _ hk=>hk.2) (.slice NI EL.length Lh)) (fun _ hk=>hk.2) (.string Ie)) (fun _ hk=>hk.2) (.string Li)) (fun _ hk=>hk.2) (.bool NJ)) (fun _ hk=>hk.2) (.slice abx NK.length WV)) (fun _ h_ =>h_.1))):p:=h
theorem Uf {p:Prop} (h:p:=by (with_reducible repeat (first|apply Kd.gh|apply Kd.gm|apply Kd.iq));exact (Kd.gi (Kd.cH (p:=⟨cN,7,none⟩) (Kd.cH (p:=⟨cN,6,none⟩) (Kd.cH (p:=⟨cN,5,none⟩) (Kd.cH (p:=⟨cN,4,none⟩) (Kd.cH (p:=⟨cN,3,none⟩) (Kd.cH (p:=⟨cN,2,none⟩) (Kd.cH (p:=⟨cN,1,none⟩) (Kd.cH (p:=⟨cN,0,none⟩) (Kd.j4 iD.out dx.out (by decide)) (fun _ hk=>hk.2) (.int .u8 j5)) (fun _ hk=>hk.2) (.string kK)) (fun _ hk=>hk.2) (.bool kZ)) (fun _ hk=>hk.2) (.slice Ig ld.length Gh)) (fun _ hk=>hk.2) (.string mV)) (fun _ hk=>hk.2) (.string nJ)) (fun _ hk=>hk.2) (.bool pz)) (fun _ hk=>hk.2) (.slice Ug pE.length SI)) (fun _ h_ =>h_.1))):p:=h
theorem Uh {p:Prop} (h:p:=by (with_reducible repeat (first|apply Kd.gh|apply Kd.gm|apply Kd.iq));exact (Kd.gi (Kd.cH (p:=⟨cN,7,none⟩) (Kd.cH (p:=⟨cN,6,none⟩) (Kd.cH (p:=⟨cN,5,none⟩) (Kd.cH (p:=⟨cN,4,none⟩) (Kd.cH (p:=⟨cN,3,none⟩) (Kd.cH (p:=⟨cN,2,none⟩) (Kd.cH (p:=⟨cN,1,none⟩) (Kd.cH (p:=⟨cN,0,none⟩) (Kd.j4 iE.out dx.out (by decide)) (fun _ hk=>hk.2) (.int .u8 j5)) (fun _ hk=>hk.2) (.string kK)) (fun _ hk=>hk.2) (.bool kZ)) (fun _ hk=>hk.2) (.slice Ig ld.length Gh)) (fun _ hk=>hk.2) (.string mV)) (fun _ hk=>hk.2) (.string nJ)) (fun _ hk=>hk.2) (.bool pz)) (fun _ hk=>hk.2) (.slice Ug pE.length SI)) (fun _ h_ =>h_.1))):p:=h
theorem Ui {p:Prop} (h:p:=by (with_reducible repeat (first|apply Kd.gh|apply Kd.gm|apply Kd.iq));exact (Kd.gi (Kd.cH (p:=⟨cN,7,none⟩) (Kd.cH (p:=⟨cN,6,none⟩) (Kd.cH (p:=⟨cN,5,none⟩) (Kd.cH (p:=⟨cN,4,none⟩) (Kd.cH (p:=⟨cN,3,none⟩) (Kd.cH (p:=⟨cN,2,none⟩) (Kd.cH (p:=⟨cN,1,none⟩) (Kd.cH (p:=⟨cN,0,none⟩) (Kd.j4 iD.out dx.out (by decide)) (fun _ hk=>hk.2) (.int .u8 j5)) (fun _ hk=>hk.2) (.string kK)) (fun _ hk=>hk.2) (.bool kZ)) (fun _ hk=>hk.2) (.slice Lj ld.length Ih)) (fun _ hk=>hk.2) (.string mV)) (fun _ hk=>hk.2) (.string nJ)) (fun _ hk=>hk.2) (.bool pz)) (fun _ hk=>hk.2) (.slice Uj pE.length SJ)) (fun _ h_ =>h_.1))):p:=h
theorem Uk {p:Prop} (h:p:=by (with_reducible repeat (first|apply Kd.gh|apply Kd.gm|apply Kd.iq));exact (Kd.gi (Kd.cH (p:=⟨cN,7,none⟩) (Kd.cH (p:=⟨cN,6,none⟩) (Kd.cH (p:=⟨cN,5,none⟩) (Kd.cH (p:=⟨cN,4,none⟩) (Kd.cH (p:=⟨cN,3,none⟩) (Kd.cH (p:=⟨cN,2,none⟩) (Kd.cH (p:=⟨cN,1,none⟩) (Kd.cH (p:=⟨cN,0,none⟩) (Kd.j4 iE.out dx.out (by decide)) (fun _ hk=>hk.2) (.int .u8 j5)) (fun _ hk=>hk.2) (.string kK)) (fun _ hk=>hk.2) (.bool kZ)) (fun _ hk=>hk.2) (.slice Lj ld.length Ih)) (fun _ hk=>hk.2) (.string mV)) (fun _ hk=>hk.2) (.string nJ)) (fun _ hk=>hk.2) (.bool pz)) (fun _ hk=>hk.2) (.slice Uj pE.length SJ)) (fun _ h_ =>h_.1))):p:=h
theorem Ul {p:Prop} (h:p:=by (with_reducible repeat (first|apply Kd.gh|apply Kd.gm|apply Kd.iq));exact (Kd.gi (Kd.cH (p:=⟨cN,7,none⟩) (Kd.cH (p:=⟨cN,6,none⟩) (Kd.cH (p:=⟨cN,5,none⟩) (Kd.cH (p:=⟨cN,4,none⟩) (Kd.cH (p:=⟨cN,3,none⟩) (Kd.cH (p:=⟨cN,2,none⟩) (Kd.cH (p:=⟨cN,1,none⟩) (Kd.cH (p:=⟨cN,0,none⟩) (Kd.j4 iD.out dx.out (by decide)) (fun _ hk=>hk.2) (.int .u8 j5)) (fun _ hk=>hk.2) (.string kK)) (fun _ hk=>hk.2) (.bool kZ)) (fun _ hk=>hk.2) (.slice NL ld.length Ll)) (fun _ hk=>hk.2) (.string mV)) (fun _ hk=>hk.2) (.string nJ)) (fun _ hk=>hk.2) (.bool pz)) (fun _ hk=>hk.2) (.slice aby pE.length WW)) (fun _ h_ =>h_.1))):p:=h
theorem Um {p:Prop} (h:p:=by (with_reducible repeat (first|apply Kd.gh|apply Kd.gm|apply Kd.iq));exact (Kd.gi (Kd.cH (p:=⟨cN,7,none⟩) (Kd.cH (p:=⟨cN,6,none⟩) (Kd.cH (p:=⟨cN,5,none⟩) (Kd.cH (p:=⟨cN,4,none⟩) (Kd.cH (p:=⟨cN,3,none⟩) (Kd.cH (p:=⟨cN,2,none⟩) (Kd.cH (p:=⟨cN,1,none⟩) (Kd.cH (p:=⟨cN,0,none⟩) (Kd.j4 iE.out dx.out (by decide)) (fun _ hk=>hk.2) (.int .u8 j5)) (fun _ hk=>hk.2) (.string kK)) (fun _ hk=>hk.2) (.bool kZ)) (fun _ hk=>hk.2) (.slice NL ld.length Ll)) (fun _ hk=>hk.2) (.string mV)) (fun _ hk=>hk.2) (.string nJ)) (fun _ hk=>hk.2) (.bool pz)) (fun _ hk=>hk.2) (.slice aby pE.length WW)) (fun _ h_ =>h_.1))):p:=h
theorem Un {p:Prop} (h:p:=by (with_reducible repeat (first|apply Kd.gh|apply Kd.gm|apply Kd.iq));exact (Kd.gi (Kd.cH (p:=⟨cN,7,none⟩) (Kd.cH (p:=⟨cN,6,none⟩) (Kd.cH (p:=⟨cN,5,none⟩) (Kd.cH (p:=⟨cN,4,none⟩) (Kd.cH (p:=⟨cN,3,none⟩) (Kd.cH (p:=⟨cN,2,none⟩) (Kd.cH (p:=⟨cN,1,none⟩) (Kd.cH (p:=⟨cN,0,none⟩) (Kd.j4 iD.out dx.out (by decide)) (fun _ hk=>hk.2) (.int .u8 j5)) (fun _ hk=>hk.2) (.string kK)) (fun _ hk=>hk.2) (.bool kZ)) (fun _ hk=>hk.2) (.slice NM ld.length Lm)) (fun _ hk=>hk.2) (.string mV)) (fun _ hk=>hk.2) (.string nJ)) (fun _ hk=>hk.2) (.bool pz)) (fun _ hk=>hk.2) (.slice abz pE.length WX)) (fun _ h_ =>h_.1))):p:=h
theorem Uo {p:Prop} (h:p:=by (with_reducible repeat (first|apply Kd.gh|apply Kd.gm|apply Kd.iq));exact (Kd.gi (Kd.cH (p:=⟨cN,7,none⟩) (Kd.cH (p:=⟨cN,6,none⟩) (Kd.cH (p:=⟨cN,5,none⟩) (Kd.cH (p:=⟨cN,4,none⟩) (Kd.cH (p:=⟨cN,3,none⟩) (Kd.cH (p:=⟨cN,2,none⟩) (Kd.cH (p:=⟨cN,1,none⟩) (Kd.cH (p:=⟨cN,0,none⟩) (Kd.j4 iE.out dx.out (by decide)) (fun _ hk=>hk.2) (.int .u8 j5)) (fun _ hk=>hk.2) (.string kK)) (fun _ hk=>hk.2) (.bool kZ)) (fun _ hk=>hk.2) (.slice NM ld.length Lm)) (fun _ hk=>hk.2) (.string mV)) (fun _ hk=>hk.2) (.string nJ)) (fun _ hk=>hk.2) (.bool pz)) (fun _ hk=>hk.2) (.slice abz pE.length WX)) (fun _ h_ =>h_.1))):p:=h
theorem Uq {p:Prop} (h:p:=by (with_reducible repeat (first|apply Kd.gh|apply Kd.gm|apply Kd.iq));exact (Kd.gi (Kd.cH (p:=⟨lU,7,none⟩) (Kd.cH (p:=⟨lU,6,none⟩) (Kd.cH (p:=⟨lU,5,none⟩) (Kd.cH (p:=⟨lU,4,none⟩) (Kd.cH (p:=⟨lU,3,none⟩) (Kd.cH (p:=⟨lU,2,none⟩) (Kd.cH (p:=⟨lU,1,none⟩) (Kd.cH (p:=⟨lU,0,none⟩) (Kd.j4 Cg.out oa.out (by decide)) (fun _ hk=>hk.2) (.int .u8 t256)) (fun _ hk=>hk.2) (.string t257)) (fun _ hk=>hk.2) (.bool t258)) (fun _ hk=>hk.2) (.slice Ao9 t259.length co9)) (fun _ hk=>hk.2) (.string t262)) (fun _ hk=>hk.2) (.string t263)) (fun _ hk=>hk.2) (.bool t264)) (fun _ hk=>hk.2) (.slice abB t265.length WY)) (fun _ h_ =>h_.1))):p:=h
theorem Ur {p:Prop} (h:p:=by (with_reducible repeat (first|apply Kd.gh|apply Kd.gm|apply Kd.iq));exact (Kd.gi (Kd.cH (p:=⟨lU,7,none⟩) (Kd.cH (p:=⟨lU,6,none⟩) (Kd.cH (p:=⟨lU,5,none⟩) (Kd.cH (p:=⟨lU,4,none⟩) (Kd.cH (p:=⟨lU,3,none⟩) (Kd.cH (p:=⟨lU,2,none⟩) (Kd.cH (p:=⟨lU,1,none⟩) (Kd.cH (p:=⟨lU,0,none⟩) (Kd.j4 Ch.out oa.out (by decide)) (fun _ hk=>hk.2) (.int .u8 t256)) (fun _ hk=>hk.2) (.string t257)) (fun _ hk=>hk.2) (.bool t258)) (fun _ hk=>hk.2) (.slice Ao9 t259.length co9)) (fun _ hk=>hk.2) (.string t262)) (fun _ hk=>hk.2) (.string t263)) (fun _ hk=>hk.2) (.bool t264)) (fun _ hk=>hk.2) (.slice abB t265.length WY)) (fun _ h_ =>h_.1))):p:=h
theorem Us {p:Prop} (h:p:=by (with_reducible repeat (first|refine aM ?_ _|refine bh ?_|refine aU ?_ _));refine cv (cs:=#[.string t180,.string t194,.bool false]) ?_ 2 _ rfl;(with_reducible repeat (first|refine aM ?_ _|refine bh ?_|refine aU ?_ _));refine cv (cs:=#[.string t180,.string (⟨#[]⟩:ByteArray),.bool false]) ?_ 1 _ rfl;(with_reducible repeat (first|refine aM ?_ _|refine bh ?_|refine aU ?_ _));refine cv (cs:=#[.string (⟨#[]⟩:ByteArray),.string (⟨#[]⟩:ByteArray),.bool false]) ?_ 0 _ rfl;(with_reducible repeat (first|refine aM ?_ _|refine bh ?_|refine aU ?_ _));exact gF.out):p:=h
theorem zg {p:Prop} (h:p:=by (with_reducible repeat (first|refine aM ?_ _|refine bh ?_|refine aU ?_ _));exact dS.out):p:=h
theorem EM {p:Prop} (h:p:=by repeat (first|(with_reducible first|exact HB.out|apply az|apply aB|apply bu|refine bp ?_ (av.ge mX.out))|exact HB.out)):p:=h
theorem BG {p:Prop} (h:p:=by first|exact Kd.fB _ _ _ _ _|exact Kd.adK _ _ _ _ _|exact Kd.adL _ _ _ _ _|exact Kd.adM _ _ _ _ _|exact Kd.adN _ _ _ _ _):p:=h
theorem NN {p:Prop} (h:p:=by rw [hg];exact Nat.ne_of_lt (jV (g:=dU) (o:= .cells #[.int .u8 aK,.string bf,.bool bg,.slice cO bQ.length cP,.string bw,.string bT,.bool bU,.slice cS bG.length cQ] 35 (0,0)) (by (with_reducible repeat (first|refine aM ?_ _|refine bh ?_|refine aU ?_ _));exact cg.out))):p:=h
theorem NP {p:Prop} (h:p:=by rw [hg];exact Nat.ne_of_gt (jV (g:=dU) (o:= .cells #[.int .u8 aK,.string bf,.bool bg,.slice cO bQ.length cP,.string bw,.string bT,.bool bU,.slice cS bG.length cQ] 35 (0,0)) (by (with_reducible repeat (first|refine aM ?_ _|refine bh ?_|refine aU ?_ _));exact cg.out))):p:=h
theorem NQ {p:Prop} (h:p:=by rw [hg];exact Nat.ne_of_lt (jV (g:=dY) (o:= .cells #[.int .u8 aK,.string bf,.bool bg,.slice cO bQ.length cP,.string bw,.string bT,.bool bU,.slice cS bG.length cQ] 35 (0,0)) (by (with_reducible repeat (first|refine aM ?_ _|refine bh ?_|refine aU ?_ _));exact cu.out))):p:=h
theorem NR {p:Prop} (h:p:=by rw [hg];exact Nat.ne_of_gt (jV (g:=dY) (o:= .cells #[.int .u8 aK,.string bf,.bool bg,.slice cO bQ.length cP,.string bw,.string bT,.bool bU,.slice cS bG.length cQ] 35 (0,0)) (by (with_reducible repeat (first|refine aM ?_ _|refine bh ?_|refine aU ?_ _));exact cu.out))):p:=h
theorem EN {p:Prop} (h:p:=by repeat (first|(with_reducible first|exact HB.out|apply az|apply aB|apply bu|refine bp ?_ Ut.out)|exact HB.out)):p:=h
theorem kN {p:Prop} (h:p:=by have:=NS.out;simp;omega):p:=h
theorem Uu {p:Prop} (h:p:=by repeat (first|(with_reducible first|exact HB.out|apply az|apply aB|apply bu|refine bp ?_ (av.ge gI.out)|refine bp ?_ yS.out)|exact HB.out)):p:=h
theorem Ii {p:Prop} (h:p:=by rw [hg];exact (eu (by repeat (first|(with_reducible first|exact HB.out|apply az|apply aB|apply bu|refine bp ?_ Le.out)|exact HB.out)))):p:=h
theorem Ij {p:Prop} (h:p:=by repeat (first|(with_reducible first|exact HB.out|apply az|apply aB|apply bu|refine bp ?_ Uc.out|refine bp ?_ adO.out)|exact HB.out)):p:=h
theorem BH {p:Prop} (h:p:=by (with_reducible repeat (first|refine aM ?_ _|refine bh ?_|refine aU ?_ _));exact jS.out):p:=h
theorem kj {p:Prop} (h:p:=by rw [bO];omega):p:=h
theorem gG {p:Prop} (h:p:=by decide +kernel):p:=h
theorem NT {p:Prop} (h:p:=by rw [hg];exact Nat.ne_of_lt (jV (g:=gQ) (o:= .cells #[.bool aK,.slice iA dR.length iB,.string bg,.string eD,.bool bw] 32 (0,0)) (by (with_reducible repeat (first|refine aM ?_ _|refine bh ?_|refine aU ?_ _));exact fE.out))):p:=h
theorem NU {p:Prop} (h:p:=by rw [hg];exact Nat.ne_of_gt (jV (g:=gQ) (o:= .cells #[.bool aK,.slice iA dR.length iB,.string bg,.string eD,.bool bw] 32 (0,0)) (by (with_reducible repeat (first|refine aM ?_ _|refine bh ?_|refine aU ?_ _));exact fE.out))):p:=h
theorem lI {p:Prop} (h:p:=by rw [List.length_drop];omega):p:=h
theorem Uv {p:Prop} (h:p:=by (with_reducible repeat (first|apply Kd.gh|apply Kd.gm|apply Kd.iq));exact Kd.gi (Kd.cH (p:=⟨fN,4,none⟩) (Kd.cH (p:=⟨fN,3,none⟩) (Kd.cH (p:=⟨fN,2,none⟩) (Kd.cH (p:=⟨fN,1,none⟩) (Kd.cH (p:=⟨fN,0,none⟩) (Kd.j4 Ci.out dS.out (by decide)) (fun _ hk=>hk.2) (.bool t215)) (fun _ hk=>hk.2) (.slice p8 t216.length qa)) (fun _ hk=>hk.2) (.string t219)) (fun _ hk=>hk.2) (.string t220)) (fun _ hk=>hk.2) (.bool t221)) (fun _ hk=>trivial)):p:=h
theorem BI {p:Prop} (h:p:=by (with_reducible repeat (first|apply Kd.gh|apply Kd.gm|apply Kd.iq));exact gK.out):p:=h
theorem zh {p:Prop} (h:p:=by rw [List.length_append,List.length_replicate];omega):p:=h
theorem Uw {p:Prop} (h:p:=by (with_reducible repeat (first|refine aM ?_ _|refine bh ?_|refine aU ?_ _));refine gB ?_ rQ.out _;(with_reducible repeat (first|refine aM ?_ _|refine bh ?_|refine aU ?_ _));refine gB ?_ rQ.out _;(with_reducible repeat (first|refine aM ?_ _|refine bh ?_|refine aU ?_ _));refine gB ?_ rQ.out _;(with_reducible repeat (first|refine aM ?_ _|refine bh ?_|refine aU ?_ _));exact cM.out):p:=h
theorem nU {p:Prop} (h:p:=by first|omega|exact Nat.le_refl _):p:=h
theorem NV {p:Prop} (h:p:=by (with_reducible repeat (first|apply Kd.gh|apply Kd.gm|apply Kd.iq));exact Kd.gi (Kd.cH (p:=⟨g,1,none⟩) (av.apart dO.out l6.out (by decide)) (fun _ hk=>hk.2) (.int .i64 (wrap64 (aY + 1)))) (fun _ hk=>trivial)):p:=h
theorem NW {p:Prop} (h:p:=by (with_reducible repeat (first|apply Kd.gh|apply Kd.gm|apply Kd.iq));exact Kd.gi (Kd.cH (p:=⟨g,1,none⟩) (av.apart dO.out l6.out (by decide)) (fun _ hk=>hk.2) (.int .i64 (wrap64 (t171 + 1)))) (fun _ hk=>trivial)):p:=h
theorem zI {p:Prop} (h:p:=by (with_reducible repeat (first|refine aM ?_ _|refine bh ?_|refine aU ?_ _));exact gH.out):p:=h
theorem kY {p:Prop} (h:p:=by rw [List.length_map];omega):p:=h
theorem j6 {p:Prop} (h:p:=by have:=uC.out;omega):p:=h
theorem Dq {p:Prop} (h:p:=by have h1:=HR.out;have h2:=(Prod.mk.inj h1).1;have h3:=(Prod.mk.inj h1).2;rw [← h2,← h3];unfold WZ Dr;rw [← HQ.out];rfl):p:=h
theorem Ik {p:Prop} (h:p:=by rw [hg];exact (eu (by repeat (first|(with_reducible first|exact HB.out|apply az|apply aB|apply bu|refine bp ?_ yS.out)|exact HB.out)))):p:=h
theorem Il {p:Prop} (h:p:=by repeat (first|(with_reducible first|exact HB.out|apply az|apply aB|apply bu|refine bp ?_ GH.out|refine bp ?_ Ux.out)|exact HB.out)):p:=h
theorem Ds {p:Prop} (h:p:=by (with_reducible repeat (first|refine aM ?_ _|refine bh ?_|refine aU ?_ _));exact mY.out):p:=h
theorem Dt {p:Prop} (h:p:=by (with_reducible repeat (first|refine aM ?_ _|refine bh ?_|refine aU ?_ _));exact eA.out):p:=h
theorem PC {p:Prop} (h:p:=by rw [hg];exact Nat.ne_of_lt (jV (g:=eN) (o:= .cells #[.int .u8 aK,.string bf,.bool bg,.slice cO bQ.length cP,.string bw,.string bT,.bool bU,.slice (some Lp) bG.length cQ] 35 (0,0)) (by (with_reducible repeat (first|refine aM ?_ _|refine bh ?_|refine aU ?_ _));exact cM.out))):p:=h
theorem PD {p:Prop} (h:p:=by rw [hg];exact Nat.ne_of_gt (jV (g:=eN) (o:= .cells #[.int .u8 aK,.string bf,.bool bg,.slice cO bQ.length cP,.string bw,.string bT,.bool bU,.slice (some Lp) bG.length cQ] 35 (0,0)) (by (with_reducible repeat (first|refine aM ?_ _|refine bh ?_|refine aU ?_ _));exact cM.out))):p:=h
theorem Im {p:Prop} (h:p:=by rw [HQ2.out,List.length_append];refine congrArg (Value.int .i64) ?_;(try simp only [IntKind.wrap_i64]);simp only [List.length_cons,List.length_nil];omega):p:=h
theorem Du {p:Prop} (h:p:=by (with_reducible repeat (first|apply Kd.gh|apply Kd.gm|apply Kd.iq));exact wu.out):p:=h
theorem PE {p:Prop} (h:p:=by rw [hg];exact Nat.ne_of_lt (jV (g:=eo) (o:= .cells #[.bool false,.slice none 0 0,.string (⟨#[]⟩:ByteArray),.string (⟨#[]⟩:ByteArray),.bool false] 32 (0,0)) (by (with_reducible repeat (first|refine aM ?_ _|refine bh ?_|refine aU ?_ _));exact dX.out))):p:=h
theorem PF {p:Prop} (h:p:=by rw [hg];exact Nat.ne_of_gt (jV (g:=eo) (o:= .cells #[.bool false,.slice none 0 0,.string (⟨#[]⟩:ByteArray),.string (⟨#[]⟩:ByteArray),.bool false] 32 (0,0)) (by (with_reducible repeat (first|refine aM ?_ _|refine bh ?_|refine aU ?_ _));exact dX.out))):p:=h
theorem sP {p:Prop} (h:p:=by first|(go_simp;done)|(go_simp;rfl)):p:=h
theorem PG {p:Prop} (h:p:=by rw [hg];exact (eu (by repeat (first|(with_reducible first|exact HB.out|apply az|apply aB|apply bu|refine bp ?_ (av.ge gI.out)|refine bp ?_ yS.out)|exact HB.out)))):p:=h
theorem Io {p:Prop} (h:p:=by (with_reducible repeat (first|refine aM ?_ _|refine bh ?_|refine aU ?_ _));exact cU.out):p:=h
theorem Ip {p:Prop} (h:p:=by (with_reducible repeat (first|refine aM ?_ _|refine bh ?_|refine aU ?_ _));exact gy.out):p:=h
theorem Iq {p:Prop} (h:p:=by (with_reducible repeat (first|refine aM ?_ _|refine bh ?_|refine aU ?_ _));exact dx.out):p:=h
theorem pJ {p:Prop} (h:p:=by rw [gJ];omega):p:=h
theorem pK {p:Prop} (h:p:=by rw [HL.out];exact hlt):p:=h
theorem PI {p:Prop} (h:p:=by rw [hg];exact (oU (w:=w) (g:=g) (row:=none) (by repeat (first|(with_reducible first|exact HK.out|apply bA.EH|apply zf|apply xI|apply oG)|exact HK.out)))):p:=h
theorem Ir {p:Prop} (h:p:=by (with_reducible repeat (first|apply Kd.gh|apply Kd.gm|apply Kd.iq));exact wz.out):p:=h
theorem Iu {p:Prop} (h:p:=by (with_reducible repeat (first|apply Kd.gh|apply Kd.gm|apply Kd.iq));exact wA.out):p:=h
theorem Dv {p:Prop} (h:p:=by rw [← HG2.out];simp only [rZ];rw [HX.out,if_pos (by omega)]):p:=h
theorem PJ {p:Prop} (h:p:=by rw [hg];exact (eu (by repeat (first|(with_reducible first|exact HB.out|apply az|apply aB|apply bu|refine bp ?_ Uc.out)|exact HB.out)))):p:=h
theorem PK {p:Prop} (h:p:=by repeat (first|(with_reducible first|exact HB.out|apply az|apply aB|apply bu|refine bp ?_ Le.out|refine bp ?_ aar.out)|exact HB.out)):p:=h
theorem PL {p:Prop} (h:p:=by rw [← hq_];exact (by repeat (first|(with_reducible first|exact HB.out|apply az|apply aB|apply bu|refine bp ?_ yS.out)|exact HB.out))):p:=h
theorem PM {p:Prop} (h:p:=by first|rfl|(simp [lQ,lR]<;>rfl)|(simp only [← W4];first|rfl|(simp [lQ,lR]<;>rfl))|(simp [*,lQ,lR]<;>rfl)):p:=h
theorem Iw {p:Prop} (h:p:=by rw [← HG2.out];simp only [rZ];rw [HX.out,if_neg (by omega),if_neg (by omega)]):p:=h
theorem Ix {p:Prop} (h:p:=by rw [← HG2.out];simp only [rZ];rw [HX.out,if_neg (by omega),if_pos (by omega)]):p:=h
theorem PN {p:Prop} (h:p:=by repeat (first|(with_reducible first|exact HB.out|apply az|apply aB|apply bu|refine bp ?_ adQ.out)|exact HB.out)):p:=h
theorem PO {p:Prop} (h:p:=by repeat (first|(with_reducible first|exact HB.out|apply az|apply aB|apply bu|refine bp ?_ adR.out)|exact HB.out)):p:=h
theorem PR {p:Prop} (h:p:=by rw [← hq_];exact (by (with_reducible repeat (first|refine aM ?_ _|refine bh ?_|refine aU ?_ _));exact dX.out)):p:=h
theorem zJ {p:Prop} (h:p:=by simp only [List.length_cons];omega):p:=h
theorem oD {p:Prop} (h:p:=by go_simp;rfl):p:=h
theorem PT {p:Prop} (h:p:=by show (wr.cell? _).isSome=true;rw [(HR.out (X.length + 1) (by rw [List.length_append,List.length_replicate];omega)).1];rfl):p:=h
theorem PU {p:Prop} (h:p:=by show (wr.cell? _).isSome=true;rw [(HR.out X.length (by rw [List.length_append,List.length_replicate];omega)).1];rfl):p:=h
theorem Dw {p:Prop} (h:p:=by rw [h3];rw [hr] at h;simp at h;omega):p:=h
theorem kE {p:Prop} (h:p:=by go_num):p:=h
theorem Iy {p:Prop} (h:p:=by simp only [List.length_cons,List.length_append];omega):p:=h
theorem Dx {p:Prop} (h:p:=by rw [zK,HL.out];exact hlt):p:=h
theorem uD {p:Prop} (h:p:=by rw [HL.out];omega):p:=h
theorem PV {p:Prop} (h:p:=by have h1:=HR.out;have h2:=(Prod.mk.inj h1).1;have h3:=(Prod.mk.inj h1).2;rw [← h2,← h3];rfl):p:=h
theorem PW {p:Prop} (h:p:=by (with_reducible repeat (first|apply Kd.gh|apply Kd.gm|apply Kd.iq));exact Ci.out):p:=h
theorem zL {p:Prop} (h:p:=by rw [bO];exact hl):p:=h
theorem Dy {p:Prop} (h:p:=by rw [List.length_append];omega):p:=h
theorem PX {p:Prop} (h:p:=by rw [List.length_append,List.length_cons,List.length_append,List.length_append];omega):p:=h
theorem PY {p:Prop} (h:p:=by rw [HK.out (by rw [HT.out];unfold zM;rw [if_neg (by omega)])];exact HR.out):p:=h
theorem xJ {p:Prop} (h:p:=by simp at h;omega):p:=h
theorem sQ {p:Prop} (h:p:=by simp;omega):p:=h
theorem xK {p:Prop} (h:p:=by simpa using h64):p:=h
theorem Dz {p:Prop} (h:p:=by have:=sM.out.gl;omega):p:=h
theorem PZ {p:Prop} (h:p:=by rw [HK.out (by unfold Iz;rw [if_neg (by omega)])];exact HR.out):p:=h
theorem DA {p:Prop} (h:p:=by have:=NS.out;omega):p:=h
end Go.Proofs
