import Derived.Test.YtokpnfljjjjikaaGreatDoorQPtx6
namespace Go.Proofs.YtokpnfljjjjikaaGreatDoor.lO
open Go.RowKit Go.Proofs.YtokpnfljjjjikaaGreatDoor.sL Go.Proofs.aj.bw Go.Proofs.aj.eU Go.Proofs.aj.cj
attribute [local go_sem] gL gM iL iM fZ gf gP gQ
set_option linter.unusedVariables false
set_option linter.unusedSimpArgs false
def bf.f (k:Nat) (l0:List ByteArray):Option (Bool):=(aB.f k l0).bind fun t199=>(some (decide (t199≥0)))
theorem bf.mono:∀ a0 k,bZ (bf.f k a0) (bf.f (k + 1) a0):=by
 intro a0 k
 unfold bf.f
 repeat' first
  |(with_reducible first|exact aB.mono _ _|exact bZ.refl _|exact bZ.none _|refine bZ.ite ?_ ?_|refine bZ.bind ?_ (fun _ =>?_))
  |exact aB.mono _ _
  |exact bZ.none _
  |refine bZ.ite ?_ ?_
  |refine bZ.bind ?_ (fun _ =>?_)
set_option maxHeartbeats 8000000 in
set_option maxRecDepth 100000 in
theorem bf.calls (k:Nat) (A0:Option Addr) (c0:Nat) (l0:List ByteArray) (r:Bool) (w:World) (tX:Kd.C Kd.string w A0 l0.length l0) (hc0:l0.length≤c0) (hG:aQ w) (h:bf.f k l0=some r):
 Calls Tryz.prog 59 #[.slice A0 l0.length c0,.func (.func 60) #[] #[]] w fun e w'=>e= .returned (.bool r)∧Below w.heap.size w w':=by
 have rE:=af.mk tX
 have IU:=af.mk hc0
 clear tX hc0
 have HB:=af.mk (Below.refl w.heap.size w)
 have HG:=af.mk hG
 clear hG
 have H:((aB.f k l0).bind fun t199=>(some (decide (t199≥0))))=some r:=h
 clear h
 obtain ⟨t199,A3,H⟩:=bd_ H
 obtain rfl:=Option.some.inj H
 go_enter Tryz.func59,Tryz.ntmps59
 go_wp2_with (first|((with_reducible refine aU (f:=117) rfl ?_);refine bY (some 7) rfl rfl Tryz.func117 ay rfl #[.slice A0 l0.length c0,.func (.func 60) #[] #[]] rfl cr ?_;(with_reducible refine (aB.calls k _ _ l0 t199 _ ?aX ?bL ?eF A3.out).mono ?_);(case aX=>repeat (first|exact rE.out|(with_reducible refine Kd.gu ?_ _)|(with_reducible refine Kd.gv ?_ _)|(with_reducible refine Kd.iB ?_)));(case bL=>exact IU.out);(case eF=>exact aQ.below HG.out bS);rintro e w4 ⟨rfl,hb⟩;refine ⟨_,rfl,?_⟩;replace HB:=af.mk (aH bS hb);(try clear hb)))
 go_ret
 exact ⟨cM,bS⟩
end Go.Proofs.YtokpnfljjjjikaaGreatDoor.lO
