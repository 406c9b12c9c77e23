import Derived.Test.YtokpnfljjjjikaaGreatDoorProg
import Derived.Deep.AppendLies
import Derived.Deep.OwnRows
import Derived.Lib.ConvBytes
import Derived.WalkKit
import Derived.BigQuiet
import Derived.Deep.DeepCutAuto
import Derived.Deep.CutBlock
import Derived.Deep.RegionHeld3
import Derived.Lib.AppendStr
set_option linter.unusedVariables false
namespace Go.Proofs
theorem bS {p:Prop} (h:p:=by repeat (first|(with_reducible first|exact HB.out|apply aJ|apply aK|apply aW)|exact HB.out)):p:=h
theorem cr {p:Prop} (h:p:=by (try simp only [List.map_toArray,List.map_cons,List.map_nil]);first|done|rfl|(simp only [List.length_drop,List.length_take];rfl)):p:=h
theorem cZ {p:Prop} (h:p:=by repeat (first|(with_reducible first|exact HK.out|apply bh.Hs|apply qF|apply pT|apply jQ)|exact HK.out)):p:=h
theorem eo {p:Prop} (h:p:=by rw [hg];exact (fy (by repeat (first|(with_reducible first|exact HB.out|apply aJ|apply aK|apply aW)|exact HB.out)))):p:=h
theorem cM {p:Prop} (h:p:=by first|rfl|(simp [jW,jX]<;>rfl)|(simp [*,jW,jX]<;>rfl)):p:=h
theorem eZ {p:Prop} (h:p:=by repeat (first|(with_reducible first|exact HB.out|apply aJ|apply aK|apply aW|refine bn ?_ (aq.ge cV.out))|exact HB.out)):p:=h
theorem fk {p:Prop} (h:p:=by repeat (first|(with_reducible first|exact cV.out|apply aq.alloc|apply aq.drewN|apply aq.drew|apply aq.dR|apply aq.dQ)|exact cV.out)):p:=h
theorem jk {p:Prop} (h:p:=by repeat (first|(with_reducible first|exact HB.out|apply aJ|apply aK|apply aW|refine bn ?_ Aj.out|refine bn ?_ Ht.out|refine bn ?_ Eb.out)|exact HB.out)):p:=h
theorem eV {p:Prop} (h:p:=by simp only [Act.put,List.setIfInBounds_toArray,List.set_cons_zero,List.set_cons_succ,cm,cw];rfl):p:=h
theorem ay {p:Prop} (h:p:=by kernel_rfl):p:=h
theorem iO {p:Prop} (h:p:=by repeat (first|(with_reducible first|exact HB.out|apply aJ|apply aK|apply aW|refine bn ?_ (aq.ge fG.out)|refine bn ?_ qq.out|refine bn ?_ Ni.out)|exact HB.out)):p:=h
theorem gG {p:Prop} (h:p:=by repeat (first|(with_reducible first|exact HB.out|apply aJ|apply aK|apply aW|refine bn ?_ PN.out)|exact HB.out)):p:=h
theorem yJ {p:Prop} (h:p:=by (with_reducible repeat (first|refine aR ?_ _|refine aY ?_|refine aM ?_ _));refine cF (cs:=#[.bool false,.slice none 0 0,.string (⟨#[]⟩:ByteArray),.string (⟨#[]⟩:ByteArray),.bool false]) ?_ 4 _ rfl;(with_reducible repeat (first|refine aR ?_ _|refine aY ?_|refine aM ?_ _));refine cF (cs:=#[.bool false,.slice none 0 0,.string (⟨#[]⟩:ByteArray),.string (⟨#[]⟩:ByteArray),.bool false]) ?_ 3 _ rfl;(with_reducible repeat (first|refine aR ?_ _|refine aY ?_|refine aM ?_ _));refine cF (cs:=#[.bool false,.slice none 0 0,.string (⟨#[]⟩:ByteArray),.string (⟨#[]⟩:ByteArray),.bool false]) ?_ 2 _ rfl;(with_reducible repeat (first|refine aR ?_ _|refine aY ?_|refine aM ?_ _));refine cF (cs:=#[.bool false,.slice none 0 0,.string (⟨#[]⟩:ByteArray),.string (⟨#[]⟩:ByteArray),.bool false]) ?_ 1 _ rfl;(with_reducible repeat (first|refine aR ?_ _|refine aY ?_|refine aM ?_ _));refine cF (cs:=#[.bool false,.slice none 0 0,.string (⟨#[]⟩:ByteArray),.string (⟨#[]⟩:ByteArray),.bool false]) ?_ 0 _ rfl;(with_reducible repeat (first|refine aR ?_ _|refine aY ?_|refine aM ?_ _));exact cK.out):p:=h
theorem yK {p:Prop} (h:p:=by (with_reducible repeat (first|refine aR ?_ _|refine aY ?_|refine aM ?_ _));refine cF (cs:=#[.bool bD,.slice cI bG.length cJ,.string bC,.string bI,.bool false]) ?_ 4 _ rfl;(with_reducible repeat (first|refine aR ?_ _|refine aY ?_|refine aM ?_ _));refine cF (cs:=#[.bool bD,.slice cI bG.length cJ,.string bC,.string (⟨#[]⟩:ByteArray),.bool false]) ?_ 3 _ rfl;(with_reducible repeat (first|refine aR ?_ _|refine aY ?_|refine aM ?_ _));refine cF (cs:=#[.bool bD,.slice cI bG.length cJ,.string (⟨#[]⟩:ByteArray),.string (⟨#[]⟩:ByteArray),.bool false]) ?_ 2 _ rfl;(with_reducible repeat (first|refine aR ?_ _|refine aY ?_|refine aM ?_ _));refine cF (cs:=#[.bool bD,.slice none 0 0,.string (⟨#[]⟩:ByteArray),.string (⟨#[]⟩:ByteArray),.bool false]) ?_ 1 _ rfl;(with_reducible repeat (first|refine aR ?_ _|refine aY ?_|refine aM ?_ _));refine cF (cs:=#[.bool false,.slice none 0 0,.string (⟨#[]⟩:ByteArray),.string (⟨#[]⟩:ByteArray),.bool false]) ?_ 0 _ rfl;(with_reducible repeat (first|refine aR ?_ _|refine aY ?_|refine aM ?_ _));exact bP.out):p:=h
theorem iA {p:Prop} (h:p:=by repeat (first|(with_reducible first|exact HB.out|apply aJ|apply aK|apply aW|refine bn ?_ Aj.out)|exact HB.out)):p:=h
theorem iE {p:Prop} (h:p:=by (with_reducible repeat (first|refine aR ?_ _|refine aY ?_|refine aM ?_ _));exact aZ.out):p:=h
theorem cE {p:Prop} (h:p:=by first|(with_reducible assumption)|assumption):p:=h
theorem iZ {p:Prop} (h:p:=by repeat (first|(with_reducible first|exact HK.out|apply bh.Hs|apply qF|apply pT|apply jQ|refine jD ?_ PO.out _)|exact HK.out)):p:=h
theorem om {p:Prop} (h:p:=by repeat (first|(with_reducible first|exact HB.out|apply aJ|apply aK|apply aW|refine bn ?_ Aj.out|refine bn ?_ Ht.out)|exact HB.out)):p:=h
theorem iP {p:Prop} (h:p:=by repeat (first|(with_reducible first|exact HB.out|apply aJ|apply aK|apply aW|refine bn ?_ Ak.out)|exact HB.out)):p:=h
theorem nH {p:Prop} (h:p:=by first|exact (aq.kS fG.out cK.out (by decide))|(rw [add_block];exact (aq.kS fG.out cK.out (by decide)))|(show (Addr.add _ _).block≠_;rw [add_block];exact (aq.kS fG.out cK.out (by decide)))|(dsimp only;exact (aq.kS fG.out cK.out (by decide)))):p:=h
theorem Cn {p:Prop} (h:p:=by (with_reducible repeat (first|refine aR ?_ _|refine aY ?_|refine aM ?_ _));refine cF (cs:=#[.bool t206,.slice nI t207.length nJ,.string t210,.string t211,.bool false]) ?_ 4 _ rfl;(with_reducible repeat (first|refine aR ?_ _|refine aY ?_|refine aM ?_ _));refine cF (cs:=#[.bool t206,.slice nI t207.length nJ,.string t210,.string (⟨#[]⟩:ByteArray),.bool false]) ?_ 3 _ rfl;(with_reducible repeat (first|refine aR ?_ _|refine aY ?_|refine aM ?_ _));refine cF (cs:=#[.bool t206,.slice nI t207.length nJ,.string (⟨#[]⟩:ByteArray),.string (⟨#[]⟩:ByteArray),.bool false]) ?_ 2 _ rfl;(with_reducible repeat (first|refine aR ?_ _|refine aY ?_|refine aM ?_ _));refine cF (cs:=#[.bool t206,.slice none 0 0,.string (⟨#[]⟩:ByteArray),.string (⟨#[]⟩:ByteArray),.bool false]) ?_ 1 _ rfl;(with_reducible repeat (first|refine aR ?_ _|refine aY ?_|refine aM ?_ _));refine cF (cs:=#[.bool false,.slice none 0 0,.string (⟨#[]⟩:ByteArray),.string (⟨#[]⟩:ByteArray),.bool false]) ?_ 0 _ rfl;(with_reducible repeat (first|refine aR ?_ _|refine aY ?_|refine aM ?_ _));exact cz.out):p:=h
theorem Co {p:Prop} (h:p:=by (with_reducible repeat (first|refine aR ?_ _|refine aY ?_|refine aM ?_ _));refine cF (cs:=#[.bool kT,.slice lZ kr.length lQ,.string lR,.string l5,.bool false]) ?_ 4 _ rfl;(with_reducible repeat (first|refine aR ?_ _|refine aY ?_|refine aM ?_ _));refine cF (cs:=#[.bool kT,.slice lZ kr.length lQ,.string lR,.string (⟨#[]⟩:ByteArray),.bool false]) ?_ 3 _ rfl;(with_reducible repeat (first|refine aR ?_ _|refine aY ?_|refine aM ?_ _));refine cF (cs:=#[.bool kT,.slice lZ kr.length lQ,.string (⟨#[]⟩:ByteArray),.string (⟨#[]⟩:ByteArray),.bool false]) ?_ 2 _ rfl;(with_reducible repeat (first|refine aR ?_ _|refine aY ?_|refine aM ?_ _));refine cF (cs:=#[.bool kT,.slice none 0 0,.string (⟨#[]⟩:ByteArray),.string (⟨#[]⟩:ByteArray),.bool false]) ?_ 1 _ rfl;(with_reducible repeat (first|refine aR ?_ _|refine aY ?_|refine aM ?_ _));refine cF (cs:=#[.bool false,.slice none 0 0,.string (⟨#[]⟩:ByteArray),.string (⟨#[]⟩:ByteArray),.bool false]) ?_ 0 _ rfl;(with_reducible repeat (first|refine aR ?_ _|refine aY ?_|refine aM ?_ _));exact dS.out):p:=h
theorem ak {p:Prop} (h:p:=by omega):p:=h
theorem yL {p:Prop} (h:p:=by (with_reducible repeat (first|refine aR ?_ _|refine aY ?_|refine aM ?_ _));refine dU ?_ ig.out _;(with_reducible repeat (first|refine aR ?_ _|refine aY ?_|refine aM ?_ _));refine dU ?_ ig.out _;(with_reducible repeat (first|refine aR ?_ _|refine aY ?_|refine aM ?_ _));refine dU ?_ ig.out _;(with_reducible repeat (first|refine aR ?_ _|refine aY ?_|refine aM ?_ _));refine dU ?_ ig.out _;(with_reducible repeat (first|refine aR ?_ _|refine aY ?_|refine aM ?_ _));refine dU ?_ ig.out _;(with_reducible repeat (first|refine aR ?_ _|refine aY ?_|refine aM ?_ _));exact aZ.out):p:=h
theorem yM {p:Prop} (h:p:=by (with_reducible repeat (first|refine aR ?_ _|refine aY ?_|refine aM ?_ _));refine dU ?_ ij.out _;(with_reducible repeat (first|refine aR ?_ _|refine aY ?_|refine aM ?_ _));refine dU ?_ ij.out _;(with_reducible repeat (first|refine aR ?_ _|refine aY ?_|refine aM ?_ _));refine dU ?_ ij.out _;(with_reducible repeat (first|refine aR ?_ _|refine aY ?_|refine aM ?_ _));refine dU ?_ ij.out _;(with_reducible repeat (first|refine aR ?_ _|refine aY ?_|refine aM ?_ _));refine dU ?_ ij.out _;(with_reducible repeat (first|refine aR ?_ _|refine aY ?_|refine aM ?_ _));exact dS.out):p:=h
theorem dG {p:Prop} (h:p:=by first|rfl|(simp;done)|(simp [*];done)):p:=h
theorem ku {p:Prop} (h:p:=by repeat (first|(with_reducible first|exact HB.out|apply aJ|apply aK|apply aW|refine bn ?_ xB.out)|exact HB.out)):p:=h
theorem oo {p:Prop} (h:p:=by repeat (first|(with_reducible first|exact fG.out|apply aq.alloc|apply aq.drewN|apply aq.drew|apply aq.dR|apply aq.dQ|refine aq.far ?_ iC.out _|refine aq.far ?_ jY.out _)|exact fG.out)):p:=h
theorem mL {p:Prop} (h:p:=by (with_reducible repeat (first|refine aR ?_ _|refine aY ?_|refine aM ?_ _));exact cK.out):p:=h
theorem nK {p:Prop} (h:p:=by repeat (first|(with_reducible first|exact HB.out|apply aJ|apply aK|apply aW|refine bn ?_ (aq.ge cV.out)|refine bn ?_ oV.out)|exact HB.out)):p:=h
theorem yN {p:Prop} (h:p:=by (with_reducible repeat (first|apply Kd.fB|apply Kd.fC|apply Kd.gz));exact (Kd.fA (Kd.dY (p:=⟨cu,4,none⟩) (Kd.dY (p:=⟨cu,3,none⟩) (Kd.dY (p:=⟨cu,2,none⟩) (Kd.dY (p:=⟨cu,1,none⟩) (Kd.dY (p:=⟨cu,0,none⟩) (Kd.kA dh.out bP.out (by decide)) (fun _ hk=>hk.2) (.bool bD)) (fun _ hk=>hk.2) (.slice cI bG.length cJ)) (fun _ hk=>hk.2) (.string bC)) (fun _ hk=>hk.2) (.string bI)) (fun _ hk=>hk.2) (.bool bJ)) (fun _ h_ =>h_.1))):p:=h
theorem oq {p:Prop} (h:p:=by repeat (first|(with_reducible first|exact cV.out|apply aq.alloc|apply aq.drewN|apply aq.drew|apply aq.dR|apply aq.dQ|refine aq.far ?_ jc.out _)|exact cV.out)):p:=h
theorem jR {p:Prop} (h:p:=by (with_reducible repeat (first|refine aR ?_ _|refine aY ?_|refine aM ?_ _));exact fK.out):p:=h
theorem qG {p:Prop} (h:p:=by (with_reducible repeat (first|refine aR ?_ _|refine aY ?_|refine aM ?_ _));exact dS.out):p:=h
theorem Cq {p:Prop} (h:p:=by (with_reducible repeat (first|refine aR ?_ _|refine aY ?_|refine aM ?_ _));refine dU ?_ fX.out _;(with_reducible repeat (first|refine aR ?_ _|refine aY ?_|refine aM ?_ _));refine dU ?_ fX.out _;(with_reducible repeat (first|refine aR ?_ _|refine aY ?_|refine aM ?_ _));refine dU ?_ fX.out _;(with_reducible repeat (first|refine aR ?_ _|refine aY ?_|refine aM ?_ _));refine dU ?_ fX.out _;(with_reducible repeat (first|refine aR ?_ _|refine aY ?_|refine aM ?_ _));refine dU ?_ fX.out _;(with_reducible repeat (first|refine aR ?_ _|refine aY ?_|refine aM ?_ _));exact cK.out):p:=h
theorem Cr {p:Prop} (h:p:=by (with_reducible repeat (first|refine aR ?_ _|refine aY ?_|refine aM ?_ _));refine dU ?_ iQ.out _;(with_reducible repeat (first|refine aR ?_ _|refine aY ?_|refine aM ?_ _));refine dU ?_ iQ.out _;(with_reducible repeat (first|refine aR ?_ _|refine aY ?_|refine aM ?_ _));refine dU ?_ iQ.out _;(with_reducible repeat (first|refine aR ?_ _|refine aY ?_|refine aM ?_ _));refine dU ?_ iQ.out _;(with_reducible repeat (first|refine aR ?_ _|refine aY ?_|refine aM ?_ _));refine dU ?_ iQ.out _;(with_reducible repeat (first|refine aR ?_ _|refine aY ?_|refine aM ?_ _));exact aZ.out):p:=h
theorem oW {p:Prop} (h:p:=by rw [hg];exact (fy (by repeat (first|(with_reducible first|exact HB.out|apply aJ|apply aK|apply aW|refine bn ?_ Aj.out|refine bn ?_ Ht.out)|exact HB.out)))):p:=h
theorem qH {p:Prop} (h:p:=by (with_reducible repeat (first|apply Kd.fB|apply Kd.fC|apply Kd.gz));exact (Kd.fA (Kd.dY (p:=⟨g,1,none⟩) (aq.apart cV.out ju.out (by decide)) (fun _ hk=>hk.2) (.int .i64 (wrap64 (bz + 1)))) (fun _ h_ =>h_.1))):p:=h
theorem oX {p:Prop} (h:p:=by (with_reducible repeat (first|refine aR ?_ _|refine aY ?_|refine aM ?_ _));exact dF.out):p:=h
theorem bg {p:Prop} (h:p:=by decide):p:=h
theorem oY {p:Prop} (h:p:=by repeat (first|(with_reducible first|exact HB.out|apply aJ|apply aK|apply aW|refine bn ?_ Al.out|refine bn ?_ Hu.out)|exact HB.out)):p:=h
theorem Cs {p:Prop} (h:p:=by repeat (first|(with_reducible first|exact HB.out|apply aJ|apply aK|apply aW|refine bn ?_ Al.out)|exact HB.out)):p:=h
theorem eT {p:Prop} (h:p:=by intro w';go_simp;with_reducible rfl):p:=h
theorem iw {p:Prop} (h:p:=by repeat (first|exact fV.refl _|apply fV.step)):p:=h
theorem mM {p:Prop} (h:p:=by (with_reducible repeat (first|refine aR ?_ _|refine aY ?_|refine aM ?_ _));exact b9.out):p:=h
theorem uS {p:Prop} (h:p:=by rw [hg];exact Nat.ne_of_lt (jd (g:=bV) (o:= .cells #[.bool bD,.slice cI bG.length cJ,.string bC,.string bI,.bool bJ] 32 (0,0)) (by (with_reducible repeat (first|refine aR ?_ _|refine aY ?_|refine aM ?_ _));exact aZ.out))):p:=h
theorem uT {p:Prop} (h:p:=by rw [hg];exact Nat.ne_of_gt (jd (g:=bV) (o:= .cells #[.bool bD,.slice cI bG.length cJ,.string bC,.string bI,.bool bJ] 32 (0,0)) (by (with_reducible repeat (first|refine aR ?_ _|refine aY ?_|refine aM ?_ _));exact aZ.out))):p:=h
theorem yO {p:Prop} (h:p:=by (with_reducible repeat (first|refine aR ?_ _|refine aY ?_|refine aM ?_ _));refine cF (cs:=#[.bool bD,.slice cI bG.length cJ,.string bC,.string bI,.bool bJ]) ?_ 2 _ rfl;(with_reducible repeat (first|refine aR ?_ _|refine aY ?_|refine aM ?_ _));exact bP.out):p:=h
theorem sD {p:Prop} (h:p:=by rw [hg];exact (fy (by repeat (first|(with_reducible first|exact HB.out|apply aJ|apply aK|apply aW|refine bn ?_ Al.out)|exact HB.out)))):p:=h
theorem Hv {p:Prop} (h:p:=by repeat (first|(with_reducible first|exact HB.out|apply aJ|apply aK|apply aW|refine bn ?_ qq.out)|exact HB.out)):p:=h
theorem nL {p:Prop} (h:p:=by (with_reducible repeat (first|apply Kd.fB|apply Kd.fC|apply Kd.gz));exact ju.out):p:=h
theorem yP {p:Prop} (h:p:=by rw [hg];exact Nat.ne_of_lt (jd (g:=eJ) (o:= .cells #[.bool kT,.slice lZ kr.length lQ,.string lR,.string l5,.bool mN] 32 (0,0)) (by (with_reducible repeat (first|refine aR ?_ _|refine aY ?_|refine aM ?_ _));exact dS.out))):p:=h
theorem yQ {p:Prop} (h:p:=by rw [hg];exact Nat.ne_of_gt (jd (g:=eJ) (o:= .cells #[.bool kT,.slice lZ kr.length lQ,.string lR,.string l5,.bool mN] 32 (0,0)) (by (with_reducible repeat (first|refine aR ?_ _|refine aY ?_|refine aM ?_ _));exact dS.out))):p:=h
theorem yR {p:Prop} (h:p:=by repeat (first|(with_reducible first|exact HB.out|apply aJ|apply aK|apply aW|refine bn ?_ Hw.out)|exact HB.out)):p:=h
theorem oZ {p:Prop} (h:p:=by (with_reducible repeat (first|refine aR ?_ _|refine aY ?_|refine aM ?_ _));exact bX.out):p:=h
theorem yS {p:Prop} (h:p:=by (with_reducible repeat (first|refine aR ?_ _|refine aY ?_|refine aM ?_ _));refine dU ?_ ig.out _;(with_reducible repeat (first|refine aR ?_ _|refine aY ?_|refine aM ?_ _));exact aZ.out):p:=h
theorem yT {p:Prop} (h:p:=by (with_reducible repeat (first|refine aR ?_ _|refine aY ?_|refine aM ?_ _));refine dU ?_ ij.out _;(with_reducible repeat (first|refine aR ?_ _|refine aY ?_|refine aM ?_ _));exact dS.out):p:=h
theorem yU {p:Prop} (h:p:=by (with_reducible repeat (first|apply Kd.fB|apply Kd.fC|apply Kd.gz));exact (Kd.fA (Kd.dY (p:=⟨cu,2,none⟩) (Kd.kA dh.out bP.out (by decide)) (fun _ hk=>hk.2) (.string gJ)) (fun _ h_ =>h_.1))):p:=h
theorem Hx {p:Prop} (h:p:=by (with_reducible repeat (first|refine aR ?_ _|refine aY ?_|refine aM ?_ _));refine cF (cs:=#[.string t164,.string t178,.bool false]) ?_ 2 _ rfl;(with_reducible repeat (first|refine aR ?_ _|refine aY ?_|refine aM ?_ _));refine cF (cs:=#[.string t164,.string (⟨#[]⟩:ByteArray),.bool false]) ?_ 1 _ rfl;(with_reducible repeat (first|refine aR ?_ _|refine aY ?_|refine aM ?_ _));refine cF (cs:=#[.string (⟨#[]⟩:ByteArray),.string (⟨#[]⟩:ByteArray),.bool false]) ?_ 0 _ rfl;(with_reducible repeat (first|refine aR ?_ _|refine aY ?_|refine aM ?_ _));exact fK.out):p:=h
theorem qI {p:Prop} (h:p:=by (with_reducible repeat (first|refine aR ?_ _|refine aY ?_|refine aM ?_ _));exact cz.out):p:=h
theorem sF {p:Prop} (h:p:=by first|exact Kd.oP _ _ _ _ _|exact Kd.PR _ _ _ _ _|exact Kd.PS _ _ _ _ _|exact Kd.PT _ _ _ _ _|exact Kd.PU _ _ _ _ _):p:=h
theorem uU {p:Prop} (h:p:=by repeat (first|(with_reducible first|exact HB.out|apply aJ|apply aK|apply aW|refine bn ?_ (aq.ge jZ.out))|exact HB.out)):p:=h
theorem fS {p:Prop} (h:p:=by rw [bT];omega):p:=h
theorem uV {p:Prop} (h:p:=by repeat (first|(with_reducible first|exact HB.out|apply aJ|apply aK|apply aW|refine bn ?_ Hy.out)|exact HB.out)):p:=h
theorem gT {p:Prop} (h:p:=by have:=Ct.out;simp;omega):p:=h
theorem Hz {p:Prop} (h:p:=by repeat (first|(with_reducible first|exact HB.out|apply aJ|apply aK|apply aW|refine bn ?_ (aq.ge fG.out)|refine bn ?_ qq.out)|exact HB.out)):p:=h
theorem bB {p:Prop} (h:p:=by simp):p:=h
theorem ey {p:Prop} (h:p:=by decide +kernel):p:=h
theorem HJ {p:Prop} (h:p:=by (with_reducible repeat (first|apply Kd.fB|apply Kd.fC|apply Kd.gz));exact Kd.fA (Kd.dY (p:=⟨dP,4,none⟩) (Kd.dY (p:=⟨dP,3,none⟩) (Kd.dY (p:=⟨dP,2,none⟩) (Kd.dY (p:=⟨dP,1,none⟩) (Kd.dY (p:=⟨dP,0,none⟩) (Kd.kA xC.out cz.out (by decide)) (fun _ hk=>hk.2) (.bool t206)) (fun _ hk=>hk.2) (.slice nI t207.length nJ)) (fun _ hk=>hk.2) (.string t210)) (fun _ hk=>hk.2) (.string t211)) (fun _ hk=>hk.2) (.bool t212)) (fun _ hk=>trivial)):p:=h
theorem H6 {p:Prop} (h:p:=by (with_reducible repeat (first|apply Kd.fB|apply Kd.fC|apply Kd.gz));exact Kd.fA (Kd.dY (p:=⟨eJ,4,none⟩) (Kd.dY (p:=⟨eJ,3,none⟩) (Kd.dY (p:=⟨eJ,2,none⟩) (Kd.dY (p:=⟨eJ,1,none⟩) (Kd.dY (p:=⟨eJ,0,none⟩) (Kd.kA ru.out dS.out (by decide)) (fun _ hk=>hk.2) (.bool kT)) (fun _ hk=>hk.2) (.slice lZ kr.length lQ)) (fun _ hk=>hk.2) (.string lR)) (fun _ hk=>hk.2) (.string l5)) (fun _ hk=>hk.2) (.bool mN)) (fun _ hk=>trivial)):p:=h
theorem H7 {p:Prop} (h:p:=by (with_reducible repeat (first|apply Kd.fB|apply Kd.fC|apply Kd.gz));exact (Kd.fA (Kd.dY (p:=⟨mO,4,none⟩) (Kd.dY (p:=⟨mO,3,none⟩) (Kd.dY (p:=⟨mO,2,none⟩) (Kd.dY (p:=⟨mO,1,none⟩) (Kd.dY (p:=⟨mO,0,none⟩) (Kd.kA xD.out nT.out (by decide)) (fun _ hk=>hk.2) (.bool t227)) (fun _ hk=>hk.2) (.slice Ia t228.length Gl)) (fun _ hk=>hk.2) (.string t231)) (fun _ hk=>hk.2) (.string t232)) (fun _ hk=>hk.2) (.bool t233)) (fun _ h_ =>h_.1))):p:=h
theorem Ib {p:Prop} (h:p:=by (with_reducible repeat (first|apply Kd.fB|apply Kd.fC|apply Kd.gz));exact (Kd.fA (Kd.dY (p:=⟨kP,4,none⟩) (Kd.dY (p:=⟨kP,3,none⟩) (Kd.dY (p:=⟨kP,2,none⟩) (Kd.dY (p:=⟨kP,1,none⟩) (Kd.dY (p:=⟨kP,0,none⟩) (Kd.kA xE.out nk.out (by decide)) (fun _ hk=>hk.2) (.bool t242)) (fun _ hk=>hk.2) (.slice Gm t243.length Cu)) (fun _ hk=>hk.2) (.string t246)) (fun _ hk=>hk.2) (.string t247)) (fun _ hk=>hk.2) (.bool t248)) (fun _ h_ =>h_.1))):p:=h
theorem Ic {p:Prop} (h:p:=by (with_reducible repeat (first|apply Kd.fB|apply Kd.fC|apply Kd.gz));exact (Kd.fA (Kd.dY (p:=⟨eJ,4,none⟩) (Kd.dY (p:=⟨eJ,3,none⟩) (Kd.dY (p:=⟨eJ,2,none⟩) (Kd.dY (p:=⟨eJ,1,none⟩) (Kd.dY (p:=⟨eJ,0,none⟩) (Kd.kA ru.out dS.out (by decide)) (fun _ hk=>hk.2) (.bool kT)) (fun _ hk=>hk.2) (.slice lZ kr.length lQ)) (fun _ hk=>hk.2) (.string lR)) (fun _ hk=>hk.2) (.string l5)) (fun _ hk=>hk.2) (.bool mN)) (fun _ h_ =>h_.1))):p:=h
theorem sG {p:Prop} (h:p:=by (with_reducible repeat (first|apply Kd.fB|apply Kd.fC|apply Kd.gz));exact fY.out):p:=h
theorem sH {p:Prop} (h:p:=by (with_reducible repeat (first|apply Kd.fB|apply Kd.fC|apply Kd.gz));exact dh.out):p:=h
theorem qJ {p:Prop} (h:p:=by rw [List.length_append,List.length_replicate];omega):p:=h
theorem uW {p:Prop} (h:p:=by (with_reducible repeat (first|refine aR ?_ _|refine aY ?_|refine aM ?_ _));exact eB.out):p:=h
theorem yV {p:Prop} (h:p:=by have h1:=HR.out;have h2:=(Prod.mk.inj h1).1;have h3:=(Prod.mk.inj h1).2;rw [← h2,← h3];unfold KH uw;rw [← HQ.out];rfl):p:=h
theorem Cv {p:Prop} (h:p:=by rw [hg];exact (fy (by repeat (first|(with_reducible first|exact HB.out|apply aJ|apply aK|apply aW|refine bn ?_ qq.out)|exact HB.out)))):p:=h
theorem Cw {p:Prop} (h:p:=by repeat (first|(with_reducible first|exact HB.out|apply aJ|apply aK|apply aW|refine bn ?_ Hw.out|refine bn ?_ PV.out)|exact HB.out)):p:=h
theorem lS {p:Prop} (h:p:=by first|omega|exact Nat.le_refl _):p:=h
theorem yX {p:Prop} (h:p:=by (with_reducible repeat (first|refine aR ?_ _|refine aY ?_|refine aM ?_ _));exact mP.out):p:=h
theorem yY {p:Prop} (h:p:=by (with_reducible repeat (first|refine aR ?_ _|refine aY ?_|refine aM ?_ _));exact cO.out):p:=h
theorem qK {p:Prop} (h:p:=by rintro w' ⟨s0,s1,s2⟩;go_simp;with_reducible rfl):p:=h
theorem Cx {p:Prop} (h:p:=by repeat (first|(with_reducible first|exact HB.out|apply aJ|apply aK|apply aW|refine bn ?_ PW.out)|exact HB.out)):p:=h
theorem kU {p:Prop} (h:p:=by rw [List.length_map];omega):p:=h
theorem Cy {p:Prop} (h:p:=by rw [hg];exact Nat.ne_of_lt (jd (by (with_reducible repeat (first|refine aR ?_ _|refine aY ?_|refine aM ?_ _));exact dF.out))):p:=h
theorem Cz {p:Prop} (h:p:=by rw [hg];exact Nat.ne_of_gt (jd (by (with_reducible repeat (first|refine aR ?_ _|refine aY ?_|refine aM ?_ _));exact dF.out))):p:=h
theorem CC {p:Prop} (h:p:=by rw [Py.out,List.length_append];refine congrArg (Value.int .i64) ?_;(try simp only [IntKind.wrap_i64]);simp only [List.length_cons,List.length_nil];omega):p:=h
theorem lT {p:Prop} (h:p:=by rw [List.length_drop];omega):p:=h
theorem kV {p:Prop} (h:p:=by have:=sI.out;omega):p:=h
theorem Ie {p:Prop} (h:p:=by (with_reducible repeat (first|apply Kd.fB|apply Kd.fC|apply Kd.gz));exact Kd.fA (Kd.dY (p:=⟨g,1,none⟩) (aq.apart cV.out ju.out (by decide)) (fun _ hk=>hk.2) (.int .i64 (wrap64 (bz + 1)))) (fun _ hk=>trivial)):p:=h
theorem Ig {p:Prop} (h:p:=by (with_reducible repeat (first|apply Kd.fB|apply Kd.fC|apply Kd.gz));exact Kd.fA (Kd.dY (p:=⟨g,1,none⟩) (aq.apart cV.out ju.out (by decide)) (fun _ hk=>hk.2) (.int .i64 (wrap64 (t155 + 1)))) (fun _ hk=>trivial)):p:=h
theorem Ih {p:Prop} (h:p:=by rw [hg];exact (fy (by repeat (first|(with_reducible first|exact HB.out|apply aJ|apply aK|apply aW|refine bn ?_ (aq.ge fG.out)|refine bn ?_ qq.out)|exact HB.out)))):p:=h
theorem Ii {p:Prop} (h:p:=by rw [hg];exact (mB (w:=w) (g:=g) (row:=none) (by repeat (first|(with_reducible first|exact HK.out|apply bh.Hs|apply qF|apply pT|apply jQ)|exact HK.out)))):p:=h
theorem CD {p:Prop} (h:p:=by (with_reducible repeat (first|apply Kd.fB|apply Kd.fC|apply Kd.gz));exact uX.out):p:=h
theorem yZ {p:Prop} (h:p:=by rw [← HG2.out];simp only [mQ];rw [HX.out,if_pos (by omega)]):p:=h
theorem Ij {p:Prop} (h:p:=by rw [hg];exact (fy (by repeat (first|(with_reducible first|exact HB.out|apply aJ|apply aK|apply aW|refine bn ?_ Hw.out)|exact HB.out)))):p:=h
theorem Ik {p:Prop} (h:p:=by rw [hg];exact (fy (by repeat (first|(with_reducible first|exact HB.out|apply aJ|apply aK|apply aW|refine bn ?_ Aj.out)|exact HB.out)))):p:=h
theorem Ec {p:Prop} (h:p:=by rw [← KJ];exact (by repeat (first|(with_reducible first|exact HB.out|apply aJ|apply aK|apply aW|refine bn ?_ qq.out)|exact HB.out))):p:=h
theorem l6 {p:Prop} (h:p:=by rw [eH];omega):p:=h
theorem za {p:Prop} (h:p:=by rw [← HG2.out];simp only [mQ];rw [HX.out,if_neg (by omega),if_neg (by omega)]):p:=h
theorem zb {p:Prop} (h:p:=by rw [← HG2.out];simp only [mQ];rw [HX.out,if_neg (by omega),if_pos (by omega)]):p:=h
theorem Ed {p:Prop} (h:p:=by repeat (first|(with_reducible first|exact HB.out|apply aJ|apply aK|apply aW|refine bn ?_ PX.out)|exact HB.out)):p:=h
theorem ry {p:Prop} (h:p:=by first|(go_simp;done)|(go_simp;rfl)):p:=h
theorem Ee {p:Prop} (h:p:=by rw [hg];exact Nat.ne_of_lt (jd (by (with_reducible repeat (first|refine aR ?_ _|refine aY ?_|refine aM ?_ _));exact cK.out))):p:=h
theorem Ef {p:Prop} (h:p:=by rw [hg];exact Nat.ne_of_gt (jd (by (with_reducible repeat (first|refine aR ?_ _|refine aY ?_|refine aM ?_ _));exact cK.out))):p:=h
theorem ot {p:Prop} (h:p:=by first|rw [hw]|go_num):p:=h
theorem Eg {p:Prop} (h:p:=by rw [← KJ];exact (by (with_reducible repeat (first|refine aR ?_ _|refine aY ?_|refine aM ?_ _));exact cK.out)):p:=h
theorem ze {p:Prop} (h:p:=by have:=HJ3.out;have:=aal.out;first|omega|exact Nat.le_refl _):p:=h
theorem zf {p:Prop} (h:p:=by rw [HK.out (by unfold lq;rw [if_neg (by omega)])];exact HR.out):p:=h
theorem ou {p:Prop} (h:p:=by rw [HL.out];exact hlt):p:=h
theorem Eh {p:Prop} (h:p:=by show (wr.cell? _).isSome=true;rw [(HR.out (X.length + 1) (by rw [List.length_append,List.length_replicate];omega)).1];rfl):p:=h
theorem Ei {p:Prop} (h:p:=by show (wr.cell? _).isSome=true;rw [(HR.out X.length (by rw [List.length_append,List.length_replicate];omega)).1];rfl):p:=h
theorem Ej {p:Prop} (h:p:=by (with_reducible repeat (first|refine aR ?_ _|refine aY ?_|refine aM ?_ _));exact bP.out):p:=h
theorem ux {p:Prop} (h:p:=by rw [h3];rw [hr] at h;simp at h;omega):p:=h
theorem zg {p:Prop} (h:p:=by simp only [List.length_cons,List.length_append];omega):p:=h
theorem Ek {p:Prop} (h:p:=by have h1:=HR.out;have h2:=(Prod.mk.inj h1).1;have h3:=(Prod.mk.inj h1).2;rw [← h2,← h3];rfl):p:=h
theorem El {p:Prop} (h:p:=by (with_reducible repeat (first|apply Kd.fB|apply Kd.fC|apply Kd.gz));exact xC.out):p:=h
theorem Em {p:Prop} (h:p:=by (with_reducible repeat (first|apply Kd.fB|apply Kd.fC|apply Kd.gz));exact ru.out):p:=h
theorem pU {p:Prop} (h:p:=by rw [HL.out];omega):p:=h
theorem En {p:Prop} (h:p:=by rw [bT];simp only [List.length_cons,List.length_append,List.length_nil];omega):p:=h
theorem zh {p:Prop} (h:p:=by simp only [List.length_cons] at hn;omega):p:=h
theorem jl {p:Prop} (h:p:=by go_num):p:=h
theorem pV {p:Prop} (h:p:=by simpa using h64):p:=h
theorem uy {p:Prop} (h:p:=by have:=sA.out.gl;omega):p:=h
theorem Eo {p:Prop} (h:p:=by simp only [List.length_cons,List.length_append,List.length_nil];omega):p:=h
theorem Ep {p:Prop} (h:p:=by rintro w' ⟨s0,s1,s2,s3,s4,s5,s6⟩;go_simp;with_reducible rfl):p:=h
theorem zi {p:Prop} (h:p:=by rw [e];exact List.mem_cons_self ..):p:=h
theorem Er {p:Prop} (h:p:=by rw [HK.out (by unfold zj;rw [if_neg (by omega)])];exact HR.out):p:=h
theorem uz {p:Prop} (h:p:=by have:=Ct.out;omega):p:=h
end Go.Proofs
