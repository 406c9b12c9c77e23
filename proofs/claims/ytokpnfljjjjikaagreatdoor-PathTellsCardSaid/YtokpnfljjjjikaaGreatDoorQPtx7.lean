import Derived.Test.YtokpnfljjjjikaaGreatDoorQPtx6
namespace Go.Proofs.YtokpnfljjjjikaaGreatDoor.mY
open Go.RowKit Go.Proofs.YtokpnfljjjjikaaGreatDoor.qP Go.Proofs.aj.bO Go.Proofs.aj.fA Go.Proofs.aj.cK
attribute [local go_sem] ia ig iU iV gf gh ij iq
set_option linter.unusedVariables false
set_option linter.unusedSimpArgs false
def bJ.f (k:Nat) (l0:List ByteArray):Option (Bool):=(aR.f k l0).bind fun t199=>(some (decide (t199≥0)))
theorem bJ.mono:∀ a0 k,bL (bJ.f k a0) (bJ.f (k + 1) a0):=by
 intro a0 k
 unfold bJ.f
 repeat' first
  |(with_reducible first|exact aR.mono _ _|exact bL.refl _|exact bL.none _|refine bL.ite ?_ ?_|refine bL.bind ?_ (fun _ =>?_))
  |exact aR.mono _ _
  |exact bL.none _
  |refine bL.ite ?_ ?_
  |refine bL.bind ?_ (fun _ =>?_)
set_option maxHeartbeats 8000000 in
set_option maxRecDepth 100000 in
theorem bJ.calls (k:Nat) (A0:Option Addr) (c0:Nat) (l0:List ByteArray) (r:Bool) (w:World) (Dn:Kd.C Kd.string w A0 l0.length l0) (hc0:l0.length≤c0) (hG:aJ w) (h:bJ.f k l0=some r):
 Calls Tryz.prog 59 #[.slice A0 l0.length c0,.func (.func 60) #[] #[]] w fun e w'=>e= .returned (.bool r)∧Below w.heap.size w w':=by
 have Ce:=aa.mk Dn
 have Vs:=aa.mk hc0
 clear Dn hc0
 have HB:=aa.mk (Below.refl w.heap.size w)
 have HG:=aa.mk hG
 clear hG
 have H:((aR.f k l0).bind fun t199=>(some (decide (t199≥0))))=some r:=h
 clear h
 obtain ⟨t199,A3,H⟩:=bd_ H
 obtain rfl:=Option.some.inj H
 go_enter Tryz.func59,Tryz.ntmps59
 go_wp2_with (first|((with_reducible refine aK (f:=117) rfl ?_);refine bU (some 7) rfl rfl Tryz.func117 aq rfl #[.slice A0 l0.length c0,.func (.func 60) #[] #[]] rfl cz ?_;(with_reducible refine (aR.calls k _ _ l0 t199 _ ?aT ?cw ?fO A3.out).mono ?_);(case aT=>repeat (first|exact Ce.out|(with_reducible refine Kd.jg ?_ _)|(with_reducible refine Kd.jh ?_ _)|(with_reducible refine Kd.kL ?_)));(case cw=>exact Vs.out);(case fO=>exact aJ.below HG.out bG);rintro e w4 ⟨rfl,hb⟩;refine ⟨_,rfl,?_⟩;replace HB:=aa.mk (aA bG hb);(try clear hb)))
 go_ret
 exact ⟨cH,bG⟩
end Go.Proofs.YtokpnfljjjjikaaGreatDoor.mY
