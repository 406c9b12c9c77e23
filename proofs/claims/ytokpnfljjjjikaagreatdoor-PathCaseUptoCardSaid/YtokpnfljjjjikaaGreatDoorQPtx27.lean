import Derived.Test.YtokpnfljjjjikaaGreatDoorEBox
import Derived.Test.YtokpnfljjjjikaaGreatDoorEIdx
namespace Go.Proofs.YtokpnfljjjjikaaGreatDoor.lO
open Go.RowKit Go.Proofs.aj.bw Go.Proofs.aj.eU Go.Proofs.aj.cj
attribute [local go_sem] gL gM iL iM fZ gf gP gQ
set_option linter.unusedVariables false
set_option linter.unusedSimpArgs false
def cB.f (k:Nat) (bD:Bool) (bG:List ByteArray) (bC:ByteArray) (bI:ByteArray) (bJ:Bool):Option (ByteArray):=(eG.f k bC bI bJ).bind fun wh=>((dO.f wh.1 (⟨#[64]⟩:ByteArray)).bind fun oI=>(if 0≤(mx oI 0) then (if (mx oI 0)≤(wh.1.size:Int) then (some (wh.1.extract 0 ((mx oI 0):Int).toNat)) else (none)) else (none)))
set_option maxHeartbeats 8000000 in
set_option maxRecDepth 100000 in
theorem cB.calls (k:Nat) (bD:Bool) (cI:Option Addr) (cJ:Nat) (bG:List ByteArray) (bC:ByteArray) (bI:ByteArray) (bJ:Bool) (r:ByteArray) (w:World) (nB:Kd.C Kd.string w cI bG.length bG) (nC:bG.length≤cJ) (hG:aQ w) (h:cB.f k bD bG bC bI bJ=some r):
 Calls Tryz.prog 49 #[.agg #[.bool bD,.slice cI bG.length cJ,.string bC,.string bI,.bool bJ]] w fun e w'=>e= .returned (.string r)∧Below w.heap.size w w':=by
 have Dh:=Tryz.underlying32
 have Bf:=Tryz.underlying30
 have jK:=af.mk nB
 have kF:=af.mk nC
 clear nB nC
 have HB:=af.mk (Below.refl w.heap.size w)
 have HG:=af.mk hG
 clear hG
 have H:((eG.f k bC bI bJ).bind fun wh=>((dO.f wh.1 (⟨#[64]⟩:ByteArray)).bind fun oI=>(if 0≤(mx oI 0) then (if (mx oI 0)≤(wh.1.size:Int) then (some (wh.1.extract 0 ((mx oI 0):Int).toNat)) else (none)) else (none))))=some r:=h
 clear h
 replace H:=Option.bind_eq_some_iff.mp H
 obtain ⟨⟨uu,abf⟩,Tg,H⟩:=H
 replace H:((dO.f uu (⟨#[64]⟩:ByteArray)).bind fun oI=>(if 0≤(mx oI 0) then (if (mx oI 0)≤(uu.size:Int) then (some (uu.extract 0 ((mx oI 0):Int).toNat)) else (none)) else (none)))=some r:=H
 have A2:=af.mk Tg
 clear Tg
 replace H:=Option.bind_eq_some_iff.mp H
 obtain ⟨oI,Rj,H⟩:=H
 replace H:(if 0≤(mx oI 0) then (if (mx oI 0)≤(uu.size:Int) then (some (uu.extract 0 ((mx oI 0):Int).toNat)) else (none)) else (none))=some r:=H
 have A3:=af.mk Rj
 clear Rj
 obtain ⟨Kz,Dt⟩:∃ j_:Int,(mx oI 0)=j_ :=⟨_,rfl⟩
 replace H:(if 0≤(Kz) then (if (Kz)≤(uu.size:Int) then (some (uu.extract 0 ((Kz):Int).toNat)) else (none)) else (none))=some r:=by first|(rw [Dt] at H;exact H)|(simp only [Dt] at H ⊢;exact H)
 (try rw [Dt] at A2)
 (try rw [Dt] at A3)
 (try (have adi: 0≤Kz:=by (rw [← Dt];unfold mx;(repeat' split)<;>omega)))
 (try (have adj: 0≤Kz:=by omega))
 have adk:(if oI < 0 then 0 else oI)=Kz:=Dt
 by_cases c5: 0≤(Kz)
 ·rw [if_pos c5] at H
  have pG:=eq_true c5
  have K5:decide (0≤(Kz))=true:=decide_eq_true c5
  clear c5
  by_cases c6:(Kz)≤(uu.size:Int)
  ·rw [if_pos c6] at H
   have qo:=eq_true c6
   have CW:decide ((Kz)≤(uu.size:Int))=true:=decide_eq_true c6
   clear c6
   obtain rfl:=Option.some.inj H
   go_enter Tryz.func49,Tryz.ntmps49
   go_wp2_with (first|((with_reducible refine cU (N:=1) rfl ?_);refine cL ?hg (N:=1) ?hd (cs:=#[.bool bD,.slice cI bG.length cJ,.string bC,.string bI,.bool bJ]) (t:=32) ?hr ?_;(case hd=>rfl);(case hg=>rfl);(case hr=>first|(go_simp;done)|(go_simp;rfl));intro tG hg w7 dg hb;have fH:=af.mk (aH bS hb);have fI:=af.mk (dg);have jI:=af.mk ((eo:w.heap.size≤tG));have kR:=af.mk ((eo:w.heap.size≤tG));clear HB;have HB:=fH;have nY:=fI;have adl:=jI;have PW:=kR;clear fH fI jI kR;clear hb dg hg;have vC:w7.cell? ⟨tG,0,none⟩=some (.bool bD):=(ah nY.out 0).trans rfl;have vD:w7.cell? ⟨tG,1,none⟩=some (.slice cI bG.length cJ):=(ah nY.out 1).trans rfl;have Dc:w7.cell? ⟨tG,2,none⟩=some (.string bC):=(ah nY.out 2).trans rfl;have Jn:w7.cell? ⟨tG,3,none⟩=some (.string bI):=(ah nY.out 3).trans rfl;have Jo:w7.cell? ⟨tG,4,none⟩=some (.bool bJ):=(ah nY.out 4).trans rfl;have vE:=aa nY.out 0;have vF:=aa nY.out 1;have Dd:=aa nY.out 2;have Jp:=aa nY.out 3;have Jq:=aa nY.out 4)|((with_reducible refine aU (f:=22) rfl ?_);refine bY (some 8) rfl rfl Tryz.func22 ay rfl #[.agg #[.string bC,.string bI,.bool bJ]] rfl cr ?_;(with_reducible refine (eG.calls k bC bI bJ uu abf _ ?aX A2.out).mono ?_);(case aX=>exact aQ.below HG.out Cx);rintro e w9 ⟨rfl,hb⟩;refine ⟨_,rfl,?_⟩;have fH:=af.mk (bq (g:=tG) (o:= .cells #[.bool bD,.slice cI bG.length cJ,.string bC,.string bI,.bool bJ] 32 (0,0)) (by (with_reducible repeat (first|refine aR ?_ _|refine aY ?_|refine aM ?_ _));exact nY.out) hb);have fI:=af.mk (aH Cx hb);clear nY;clear HB;have nY:=fH;have HB:=fI;clear fH fI;(try clear hb);(try clear hb2);(try clear hk);(try clear hi))|((with_reducible refine aU (f:=46) rfl ?_);refine bY (some 13) rfl rfl Tryz.func46 ay rfl #[.string uu,.string (⟨#[64]⟩:ByteArray)] rfl cr ?_;(with_reducible refine (dO.calls uu (⟨#[64]⟩:ByteArray) oI _ A3.out).mono ?_);rintro e w' ⟨rfl,⟨nd,rfl⟩⟩;refine ⟨_,rfl,?_⟩))
   go_ret
   exact ⟨by first|rfl|(simp [jW,jX]<;>rfl)|(simp only [← Dt];first|rfl|(simp [jW,jX]<;>rfl))|(simp [*,jW,jX]<;>rfl),Cx⟩
  ·rw [if_neg c6] at H
   exact absurd H bB
 ·rw [if_neg c5] at H
  exact absurd H bB
end Go.Proofs.YtokpnfljjjjikaaGreatDoor.lO
