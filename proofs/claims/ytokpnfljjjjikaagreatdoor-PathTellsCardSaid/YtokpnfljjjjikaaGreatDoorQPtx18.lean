import Derived.Test.YtokpnfljjjjikaaGreatDoorQPtx14
import Derived.Test.YtokpnfljjjjikaaGreatDoorQPtx16
set_option maxHeartbeats 8000000
set_option maxRecDepth 100000
namespace Go.Proofs.YtokpnfljjjjikaaGreatDoor.mY
open Go.RowKit Go.Proofs.YtokpnfljjjjikaaGreatDoor.qP Go.Proofs.aj.bO Go.Proofs.aj.fA Go.Proofs.aj.cK
attribute [local go_sem] ia ig iU iV gf gh ij iq
set_option linter.unusedVariables false
set_option linter.unusedSimpArgs false
mutual
def aU.j0:Nat→ByteArray→Bool→Option (Bool)
 | 0,_,_ =>none
 |k + 1,x0,x17=>if x17=true then (if 5≤(x0.size:Int) then ((strings_Index.f (x0.extract 5 x0.size) (⟨#[58,58]⟩:ByteArray)).bind fun ur=>(if ur < 0 then ((bu.f k (x0.extract 5 x0.size)).bind fun WG=>(some (WG == 8))) else (if 0≤ur then (if ur≤((x0.extract 5 x0.size).size:Int) then ((bu.f k ((x0.extract 5 x0.size).extract 0 (ur:Int).toNat)).bind fun TP=>(if 0≤(wrap64 (ur + 2)) then (if (wrap64 (ur + 2))≤((x0.extract 5 x0.size).size:Int) then ((bu.f k ((x0.extract 5 x0.size).extract ((wrap64 (ur + 2)):Int).toNat (x0.extract 5 x0.size).size)).bind fun OE=>(some (decide ((wrap64 (TP + OE))≤6)))) else (none)) else (none))) else (none)) else (none)))) else (none)) else ((strings_Split.f x0 (⟨#[46]⟩:ByteArray)).bind fun ko=>(if (ko.length:Int)=4 then (aU.l0 k ko 0) else (some false)))
def aU.l0:Nat→List ByteArray→Int→Option (Bool)
 | 0,_,_ =>none
 |k + 1,x5,x6=>if x6 < 4 then (aU.l1 k x5 x6 0 0) else (some true)
def aU.l1:Nat→List ByteArray→Int→Int→Int→Option (Bool)
 | 0,_,_,_,_ =>none
 |k + 1,x5,x6,x7,x8=>if 0≤x6 then (if x6 < (x5.length:Int) then (if x8 < ((cV ByteArray.empty x5 x6).size:Int) then (if 0≤x8 then (if (bt (cV ByteArray.empty x5 x6) x8) < 48 then (some false) else (if (bt (cV ByteArray.empty x5 x6) x8) > 57 then (some false) else (if x8=3 then (some false) else (aU.l1 k x5 x6 (wrap64 ((wrap64 ((wrap64 (10 * x7)) + (wrap64 (bt (cV ByteArray.empty x5 x6) x8)))) - 48)) (wrap64 (x8 + 1)))))) else (none)) else (if (cV ByteArray.empty x5 x6).toList=([]:List UInt8) then (some false) else (if x7 > 255 then (some false) else (aU.l0 k x5 (wrap64 (x6 + 1)))))) else (none)) else (none)
end
def aU.f (k:Nat) (a0:ByteArray):Option (Bool):=if (a0.size:Int) > 5 then (if 0≤5 then (if 5≤(a0.size:Int) then ((aY.f k (a0.extract 0 5)).bind fun OG=>(aU.j0 k a0 (OG.toList == ([105,112,118,54,58]:List UInt8)))) else (none)) else (none)) else (aU.j0 k a0 false)
theorem aU.dF:∀ k,(∀ y0 y1,bL (aU.j0 k y0 y1) (aU.j0 (k + 1) y0 y1))∧(∀ y0 y1,bL (aU.l0 k y0 y1) (aU.l0 (k + 1) y0 y1))∧(∀ y0 y1 y2 y3,bL (aU.l1 k y0 y1 y2 y3) (aU.l1 (k + 1) y0 y1 y2 y3))
 | 0=>⟨fun _ _ r h=>by simp [aU.j0] at h,fun _ _ r h=>by simp [aU.l0] at h,fun _ _ _ _ r h=>by simp [aU.l1] at h⟩
 |k + 1=>by
  obtain ⟨fV,ih1,ih2⟩:=aU.dF k
  refine ⟨?_,?_,?_⟩
  ·intro y0 y1
   unfold aU.j0
   repeat' first
   |(with_reducible first|exact fV _ _|exact ih1 _ _|exact ih2 _ _ _ _|exact aY.mono _ _|exact bu.mono _ _|exact bL.refl _|exact bL.none _|refine bL.ite ?_ ?_|refine bL.bind ?_ (fun _ =>?_))
   |exact fV _ _
   |exact ih1 _ _
   |exact ih2 _ _ _ _
   |exact aY.mono _ _
   |exact bu.mono _ _
   |exact bL.none _
   |refine bL.ite ?_ ?_
   |refine bL.bind ?_ (fun _ =>?_)
  ·intro y0 y1
   unfold aU.l0
   repeat' first
   |(with_reducible first|exact fV _ _|exact ih1 _ _|exact ih2 _ _ _ _|exact aY.mono _ _|exact bu.mono _ _|exact bL.refl _|exact bL.none _|refine bL.ite ?_ ?_|refine bL.bind ?_ (fun _ =>?_))
   |exact fV _ _
   |exact ih1 _ _
   |exact ih2 _ _ _ _
   |exact aY.mono _ _
   |exact bu.mono _ _
   |exact bL.none _
   |refine bL.ite ?_ ?_
   |refine bL.bind ?_ (fun _ =>?_)
  ·intro y0 y1 y2 y3
   unfold aU.l1
   repeat' first
   |(with_reducible first|exact fV _ _|exact ih1 _ _|exact ih2 _ _ _ _|exact aY.mono _ _|exact bu.mono _ _|exact bL.refl _|exact bL.none _|refine bL.ite ?_ ?_|refine bL.bind ?_ (fun _ =>?_))
   |exact fV _ _
   |exact ih1 _ _
   |exact ih2 _ _ _ _
   |exact aY.mono _ _
   |exact bu.mono _ _
   |exact bL.none _
   |refine bL.ite ?_ ?_
   |refine bL.bind ?_ (fun _ =>?_)
theorem aU.mono:∀ a0 k,bL (aU.f k a0) (aU.f (k + 1) a0):=by
 intro a0 k
 obtain ⟨fV,ih1,ih2⟩:=aU.dF k
 unfold aU.f
 repeat' first
  |(with_reducible first|exact fV _ _|exact ih1 _ _|exact ih2 _ _ _ _|exact aY.mono _ _|exact bu.mono _ _|exact bL.refl _|exact bL.none _|refine bL.ite ?_ ?_|refine bL.bind ?_ (fun _ =>?_))
  |exact fV _ _
  |exact ih1 _ _
  |exact ih2 _ _ _ _
  |exact aY.mono _ _
  |exact bu.mono _ _
  |exact bL.none _
  |refine bL.ite ?_ ?_
  |refine bL.bind ?_ (fun _ =>?_)
theorem aU.calls (k:Nat) (a0:ByteArray) (r:Bool) (w:World) (hG:aJ w) (h:aU.f k a0=some r):
 Calls Tryz.prog 28 #[.string a0] w fun e w'=>e= .returned (.bool r)∧Below w.heap.size w w':=by
 have HB:=aa.mk (Below.refl w.heap.size w)
 have HG:=aa.mk hG
 clear hG
 have H:(if (a0.size:Int) > 5 then (if 0≤5 then (if 5≤(a0.size:Int) then ((aY.f k (a0.extract 0 5)).bind fun OG=>(aU.j0 k a0 (OG.toList == ([105,112,118,54,58]:List UInt8)))) else (none)) else (none)) else (aU.j0 k a0 false))=some r:=h
 clear h
 have LI:=aa.mk H
 clear H
 go_enter Tryz.func28,Tryz.ntmps28
 go_upto_region 1 with (fail)
 repeat (go_quiet (fail);go_upto_region 1 with (fail))
 go_cut [17] (fun v17 wc=>∃ (kq:Nat) (Bj:Bool),v17= .bool Bj∧aa (aU.j0 kq a0 Bj=some r)∧aa (kq≤k)∧aa (Below w.heap.size w wc))
 case first=>
  have H:=LI.out
  clear LI
  by_cases c3:(a0.size:Int) > 5
  ·rw [if_pos c3] at H
   have mg:decide (5 < (a0.size:Int))=true:=decide_eq_true c3
   have E7:decide (5 < a0.size)=true:=decide_eq_true ak
   clear c3
   (first|rw [mg]|(simp only [cU,dh];rw [mg])|skip)
   obtain ⟨c4,H⟩:=iA H
   have nB:=eq_true c4
   have LJ:=decide_eq_true c4
   clear c4
   obtain ⟨c5,H⟩:=iA H
   have lF:=eq_true c5
   have Cf:=decide_eq_true c5
   clear c5
   obtain ⟨OG,A6,H⟩:=bd_ H
   have H':=aa.mk H
   clear H
   go_wp2_with (first|(go_at_call 73;(with_reducible refine (aY.calls k (a0.extract 0 5) OG _ A6.out).mono ?_);rintro e w7 ⟨rfl,hb⟩;replace HB:=aa.mk (aA bG hb);(try clear hb)))
   repeat (go_quiet (fail);try go_wp2_with (first|(go_at_call 73;(with_reducible refine (aY.calls k (a0.extract 0 5) OG _ A6.out).mono ?_);rintro e w7 ⟨rfl,hb⟩;replace HB:=aa.mk (aA bG hb);(try clear hb))))
   go_meet
   case rel=>exact ⟨_,((OG.toList == ([105,112,118,54,58]:List UInt8))),b9,H',⟨iT⟩,⟨bG⟩⟩
  ·rw [if_neg c3] at H
   have mg:decide (5 < (a0.size:Int))=false:=decide_eq_false c3
   have E7:decide (5 < a0.size)=false:=decide_eq_false ak
   clear c3
   (first|rw [mg]|(simp only [cU,dh];rw [mg])|skip)
   have H':=aa.mk H
   clear H
   go_wp2
   repeat (go_quiet (fail);try go_wp2)
   go_meet
   case rel=>exact ⟨_,(false),b9,H',⟨iT⟩,⟨bG⟩⟩
 case rest=>
  clear LI
  obtain ⟨kq,Bj,rfl,HA,NM,HB⟩:=hcut
  cases kq with
  |zero=>exact absurd HA.out (by simp [aU.j0])
  |succ Dp=>
   have H:=HA.out
   clear HA
   simp only [aU.j0] at H
   by_cases c8:Bj=true
   ·subst c8
    rw [if_pos rfl] at H
    obtain ⟨c9,H⟩:=iA H
    have Cg:=eq_true c9
    have TB:=decide_eq_true c9
    clear c9
    obtain ⟨ur,Vt,H⟩:=bd_ H
    by_cases c11:ur < 0
    ·rw [if_pos c11] at H
     have oC:=decide_eq_true c11
     clear c11
     obtain ⟨WG,G1,H⟩:=bd_ H
     obtain rfl:=Option.some.inj H
     go_wp2_with (first|(go_at_call 74;(with_reducible refine (strings_Index.calls (a0.extract 5 a0.size) (⟨#[58,58]⟩:ByteArray) ur _ ?aT Vt.out).mono ?_);(case aT=>exact aJ.below HG.out bG);rintro e w' ⟨rfl,⟨nd,rfl⟩⟩;(try first|exact ⟨rfl,_,World.drewN_drewN _ _ _⟩|exact ⟨rfl,_,Eq.trans (World.drewN_drewN _ _ _) (congrArg (World.drewN _) (Nat.add_assoc _ _ _))⟩))|(go_at_call 85;(with_reducible refine (bu.calls Dp (a0.extract 5 a0.size) WG _ ?aT G1.out).mono ?_);(case aT=>exact aJ.below HG.out bG);rintro e w' ⟨rfl,⟨nd,rfl⟩⟩;(try first|exact ⟨rfl,_,World.drewN_drewN _ _ _⟩|exact ⟨rfl,_,Eq.trans (World.drewN_drewN _ _ _) (congrArg (World.drewN _) (Nat.add_assoc _ _ _))⟩)))
     repeat (go_quiet (first|(go_at_call 74;(with_reducible refine (strings_Index.calls (a0.extract 5 a0.size) (⟨#[58,58]⟩:ByteArray) ur _ ?aT Vt.out).mono ?_);(case aT=>exact aJ.below HG.out bG);rintro e w' ⟨rfl,⟨nd,rfl⟩⟩;(try first|exact ⟨rfl,_,World.drewN_drewN _ _ _⟩|exact ⟨rfl,_,Eq.trans (World.drewN_drewN _ _ _) (congrArg (World.drewN _) (Nat.add_assoc _ _ _))⟩))|(go_at_call 85;(with_reducible refine (bu.calls Dp (a0.extract 5 a0.size) WG _ ?aT G1.out).mono ?_);(case aT=>exact aJ.below HG.out bG);rintro e w' ⟨rfl,⟨nd,rfl⟩⟩;(try first|exact ⟨rfl,_,World.drewN_drewN _ _ _⟩|exact ⟨rfl,_,Eq.trans (World.drewN_drewN _ _ _) (congrArg (World.drewN _) (Nat.add_assoc _ _ _))⟩)));try go_wp2_with (first|(go_at_call 74;(with_reducible refine (strings_Index.calls (a0.extract 5 a0.size) (⟨#[58,58]⟩:ByteArray) ur _ ?aT Vt.out).mono ?_);(case aT=>exact aJ.below HG.out bG);rintro e w' ⟨rfl,⟨nd,rfl⟩⟩;(try first|exact ⟨rfl,_,World.drewN_drewN _ _ _⟩|exact ⟨rfl,_,Eq.trans (World.drewN_drewN _ _ _) (congrArg (World.drewN _) (Nat.add_assoc _ _ _))⟩))|(go_at_call 85;(with_reducible refine (bu.calls Dp (a0.extract 5 a0.size) WG _ ?aT G1.out).mono ?_);(case aT=>exact aJ.below HG.out bG);rintro e w' ⟨rfl,⟨nd,rfl⟩⟩;(try first|exact ⟨rfl,_,World.drewN_drewN _ _ _⟩|exact ⟨rfl,_,Eq.trans (World.drewN_drewN _ _ _) (congrArg (World.drewN _) (Nat.add_assoc _ _ _))⟩))))
     go_ret
     exact ⟨cH,bG⟩
    ·rw [if_neg c11] at H
     have oC:=decide_eq_false c11
     clear c11
     obtain ⟨c13,H⟩:=iA H
     have vW:=eq_true c13
     have Fb:=decide_eq_true c13
     clear c13
     obtain ⟨c14,H⟩:=iA H
     have CT:=eq_true c14
     have LM:=decide_eq_true c14
     have al3:(ur≤((a0.size - 5:Nat):Int))=True:=by {have z9_ :=c14;simp only [ByteArray.size_extract] at z9_;exact eq_true ak}
     clear c14
     obtain ⟨TP,VF,H⟩:=bd_ H
     obtain ⟨TQ,Hw⟩:∃ j_:Int,(wrap64 (ur + 2))=j_ :=⟨_,rfl⟩
     (first|rw [Hw] at H|simp only [Hw] at H)
     (try rw [Hw] at Vt)
     (try rw [Hw] at VF)
     have apJ:(IntKind.i64.wrap (ur + 2))=TQ:=(cU _).trans Hw
     obtain ⟨c17,H⟩:=iA H
     have wO:=eq_true c17
     have ab6:=decide_eq_true c17
     clear c17
     obtain ⟨c18,H⟩:=iA H
     have xd:=eq_true c18
     have Mr:=decide_eq_true c18
     have al4:((TQ)≤((a0.size - 5:Nat):Int))=True:=by {have z9_ :=c18;simp only [ByteArray.size_extract] at z9_;exact eq_true ak}
     clear c18
     replace H:=Option.bind_eq_some_iff.mp H
     obtain ⟨OE,agP,H⟩:=H
     replace H:(some (decide ((wrap64 (TP + OE))≤6)))=some r:=H
     have A19:=aa.mk agP
     have adQ:aa (bu.f Dp ((a0.extract 5 a0.size).extract ((TQ):Int).toNat (a0.size - 5))=some OE):=aa.mk (by {have z9_ :=A19.out;rw [show (a0.extract 5 a0.size).size=a0.size - 5 by simp] at z9_;exact z9_})
     clear agP
     obtain rfl:=Option.some.inj H
     go_wp2_with (first|(go_at_call 74;(with_reducible refine (strings_Index.calls (a0.extract 5 a0.size) (⟨#[58,58]⟩:ByteArray) ur _ ?aT Vt.out).mono ?_);(case aT=>exact aJ.below HG.out bG);rintro e w' ⟨rfl,⟨nd,rfl⟩⟩;(try first|exact ⟨rfl,_,World.drewN_drewN _ _ _⟩|exact ⟨rfl,_,Eq.trans (World.drewN_drewN _ _ _) (congrArg (World.drewN _) (Nat.add_assoc _ _ _))⟩))|(go_at_call 85;(with_reducible refine (bu.calls Dp ((a0.extract 5 a0.size).extract 0 (ur:Int).toNat) TP _ ?aT VF.out).mono ?_);(case aT=>exact aJ.below HG.out bG);rintro e w' ⟨rfl,⟨nd,rfl⟩⟩;(try first|exact ⟨rfl,_,World.drewN_drewN _ _ _⟩|exact ⟨rfl,_,Eq.trans (World.drewN_drewN _ _ _) (congrArg (World.drewN _) (Nat.add_assoc _ _ _))⟩))|(go_at_call 85;(with_reducible refine (bu.calls Dp ((a0.extract 5 a0.size).extract ((TQ):Int).toNat (a0.size - 5)) OE _ ?aT adQ.out).mono ?_);(case aT=>exact aJ.below HG.out bG);rintro e w' ⟨rfl,⟨nd,rfl⟩⟩;(try first|exact ⟨rfl,_,World.drewN_drewN _ _ _⟩|exact ⟨rfl,_,Eq.trans (World.drewN_drewN _ _ _) (congrArg (World.drewN _) (Nat.add_assoc _ _ _))⟩)))
     repeat (go_quiet (first|(go_at_call 74;(with_reducible refine (strings_Index.calls (a0.extract 5 a0.size) (⟨#[58,58]⟩:ByteArray) ur _ ?aT Vt.out).mono ?_);(case aT=>exact aJ.below HG.out bG);rintro e w' ⟨rfl,⟨nd,rfl⟩⟩;(try first|exact ⟨rfl,_,World.drewN_drewN _ _ _⟩|exact ⟨rfl,_,Eq.trans (World.drewN_drewN _ _ _) (congrArg (World.drewN _) (Nat.add_assoc _ _ _))⟩))|(go_at_call 85;(with_reducible refine (bu.calls Dp ((a0.extract 5 a0.size).extract 0 (ur:Int).toNat) TP _ ?aT VF.out).mono ?_);(case aT=>exact aJ.below HG.out bG);rintro e w' ⟨rfl,⟨nd,rfl⟩⟩;(try first|exact ⟨rfl,_,World.drewN_drewN _ _ _⟩|exact ⟨rfl,_,Eq.trans (World.drewN_drewN _ _ _) (congrArg (World.drewN _) (Nat.add_assoc _ _ _))⟩))|(go_at_call 85;(with_reducible refine (bu.calls Dp ((a0.extract 5 a0.size).extract ((TQ):Int).toNat (a0.size - 5)) OE _ ?aT adQ.out).mono ?_);(case aT=>exact aJ.below HG.out bG);rintro e w' ⟨rfl,⟨nd,rfl⟩⟩;(try first|exact ⟨rfl,_,World.drewN_drewN _ _ _⟩|exact ⟨rfl,_,Eq.trans (World.drewN_drewN _ _ _) (congrArg (World.drewN _) (Nat.add_assoc _ _ _))⟩)));try go_wp2_with (first|(go_at_call 74;(with_reducible refine (strings_Index.calls (a0.extract 5 a0.size) (⟨#[58,58]⟩:ByteArray) ur _ ?aT Vt.out).mono ?_);(case aT=>exact aJ.below HG.out bG);rintro e w' ⟨rfl,⟨nd,rfl⟩⟩;(try first|exact ⟨rfl,_,World.drewN_drewN _ _ _⟩|exact ⟨rfl,_,Eq.trans (World.drewN_drewN _ _ _) (congrArg (World.drewN _) (Nat.add_assoc _ _ _))⟩))|(go_at_call 85;(with_reducible refine (bu.calls Dp ((a0.extract 5 a0.size).extract 0 (ur:Int).toNat) TP _ ?aT VF.out).mono ?_);(case aT=>exact aJ.below HG.out bG);rintro e w' ⟨rfl,⟨nd,rfl⟩⟩;(try first|exact ⟨rfl,_,World.drewN_drewN _ _ _⟩|exact ⟨rfl,_,Eq.trans (World.drewN_drewN _ _ _) (congrArg (World.drewN _) (Nat.add_assoc _ _ _))⟩))|(go_at_call 85;(with_reducible refine (bu.calls Dp ((a0.extract 5 a0.size).extract ((TQ):Int).toNat (a0.size - 5)) OE _ ?aT adQ.out).mono ?_);(case aT=>exact aJ.below HG.out bG);rintro e w' ⟨rfl,⟨nd,rfl⟩⟩;(try first|exact ⟨rfl,_,World.drewN_drewN _ _ _⟩|exact ⟨rfl,_,Eq.trans (World.drewN_drewN _ _ _) (congrArg (World.drewN _) (Nat.add_assoc _ _ _))⟩))))
     go_ret
     exact ⟨by first|rfl|(simp [kP,kQ]<;>rfl)|(simp only [← Hw];first|rfl|(simp [kP,kQ]<;>rfl))|(simp [*,kP,kQ]<;>rfl),bG⟩
   ·replace c8:=Bool.eq_false_iff.mpr c8
    subst c8
    rw [if_neg (show ¬ (false=true) by decide)] at H
    obtain ⟨ko,Yw,H⟩:=bd_ H
    by_cases c21:(ko.length:Int)=4
    ·rw [if_pos c21] at H
     have wW:=beq_iff_eq.mpr c21
     have Sg:=bne_eq_false_iff_eq.mpr c21
     clear c21
     have H':=aa.mk H
     clear H
     go_wp2_with (first|(go_at_call 75;(with_reducible refine (strings_Split.calls a0 (⟨#[46]⟩:ByteArray) ko _ ?aT Yw.out).mono ?_);(case aT=>exact aJ.below HG.out bG);rintro e BN ⟨adR,rfl,ho0,hb⟩;have C0:=aa.mk (Kd.kD ho0 (dm bG));replace HB:=aa.mk (aA bG hb);(try clear hb);(try clear ho0);obtain ⟨adS,adT,adU⟩:=Kd.gQ C0.out;subst adU))
     repeat (go_quiet (fail);try go_wp2_with (first|(go_at_call 75;(with_reducible refine (strings_Split.calls a0 (⟨#[46]⟩:ByteArray) ko _ ?aT Yw.out).mono ?_);(case aT=>exact aJ.below HG.out bG);rintro e BN ⟨adR,rfl,ho0,hb⟩;have C0:=aa.mk (Kd.kD ho0 (dm bG));replace HB:=aa.mk (aA bG hb);(try clear hb);(try clear ho0);obtain ⟨adS,adT,adU⟩:=Kd.gQ C0.out;subst adU)))
     go_loopg [6] Dp (fun kq v6 w'=>∃ (iy:Int),v6= .int .i64 iy∧aa (aU.l0 kq ko iy=some r)∧aa (kq≤Dp)∧aa (Kd.R Kd.string 9 w' w.heap.size (fun _ =>True) (.slice adS ko.length adT) ko)∧aa (Below w.heap.size w w'))
     case atStart=>exact ⟨(0),b9,H',⟨Nat.le_refl _⟩,⟨by (with_reducible repeat (first|apply Kd.dQ|apply Kd.dR|apply Kd.dV));exact C0.out⟩,⟨bG⟩⟩
     case round=>
      clear H'
      obtain ⟨iy,rfl,HA,uI,ux,HB⟩:=hrel
      cases gk with
      |zero=>exact absurd HA.out (by simp [aU.l0])
      |succ k2=>
       have H:=HA.out
       clear HA
       simp only [aU.l0] at H
       by_cases c24:iy < 4
       ·rw [if_pos c24] at H
        have RJ:=decide_eq_true c24
        clear c24
        have H':=aa.mk H
        clear H
        go_wp2
        repeat (go_quiet (fail);try go_wp2)
        go_loopg [7,8] k2 (fun kq v7 v8 w'=>∃ (OH:Int) (nM:Int),v7= .int .i64 OH∧v8= .int .i64 nM∧aa (aU.l1 kq ko iy OH nM=some r)∧aa (kq≤k2)∧aa (Kd.R Kd.string 9 w' w.heap.size (fun _ =>True) (.slice adS ko.length adT) ko)∧aa (Below w.heap.size w w'))
        case atStart=>exact ⟨(0),(0),b9,b9,H',⟨Nat.le_refl _⟩,⟨I9⟩,⟨bG⟩⟩
        case round=>
         clear H'
         obtain ⟨OH,nM,rfl,rfl,HA,YC,ux,HB⟩:=hrel
         cases gk with
         |zero=>exact absurd HA.out (by simp [aU.l1])
         |succ k3=>
          have H:=HA.out
          clear HA
          simp only [aU.l1] at H
          obtain ⟨Hx,H⟩:=iA H
          have Su:=decide_eq_true Hx
          clear Hx
          obtain ⟨LZ,H⟩:=iA H
          have Q5:=decide_eq_true LZ
          clear LZ
          by_cases JU:nM < ((cV ByteArray.empty ko iy).size:Int)
          ·rw [if_pos JU] at H
           have WH:=decide_eq_true JU
           clear JU
           obtain ⟨c28,H⟩:=iA H
           have CW:=decide_eq_true c28
           clear c28
           by_cases Fh:(bt (cV ByteArray.empty ko iy) nM) < 48
           ·rw [if_pos Fh] at H
            have Mu:=decide_eq_true Fh
            clear Fh
            obtain rfl:=Option.some.inj H
            have qm: 0≤(iy:Int):=of_decide_eq_true bp
            have qo:iy < (ko.length:Int):=of_decide_eq_true bp
            obtain ⟨ru,Cm,yL⟩:=Kd.cY (Kd.cP ux.out).2.2 iy qm qo
            cases Cm
            replace qm:=eq_true qm
            replace qo:=eq_true qo
            have zH: 0≤(iy:Int):=of_decide_eq_true bp
            have zI:iy < (ko.length:Int):=of_decide_eq_true bp
            obtain ⟨FI,OI,KG⟩:=Kd.cY (Kd.cP ux.out).2.2 iy zH zI
            obtain rfl:ru=FI:=(by injection OI)
            replace zH:=eq_true zH
            replace zI:=eq_true zI
            have My: 0≤(nM:Int):=of_decide_eq_true bp
            have Mz:nM < ((cV ByteArray.empty ko iy).size:Int):=of_decide_eq_true bp
            have WI:=dA (cV ByteArray.empty ko iy) nM
            replace My:=eq_true My
            replace Mz:=eq_true Mz
            go_wp2
            repeat (go_quiet (fail);try go_wp2)
            go_ret
            exact ⟨cH,bG⟩
           ·rw [if_neg Fh] at H
            have Mu:=decide_eq_false Fh
            clear Fh
            by_cases Hy:(bt (cV ByteArray.empty ko iy) nM) > 57
            ·rw [if_pos Hy] at H
             have Sv:decide (57 < (bt (cV ByteArray.empty ko iy) nM))=true:=decide_eq_true Hy
             clear Hy
             obtain rfl:=Option.some.inj H
             have qm: 0≤(iy:Int):=of_decide_eq_true bp
             have qo:iy < (ko.length:Int):=of_decide_eq_true bp
             obtain ⟨ru,Cm,yL⟩:=Kd.cY (Kd.cP ux.out).2.2 iy qm qo
             cases Cm
             replace qm:=eq_true qm
             replace qo:=eq_true qo
             have zH: 0≤(iy:Int):=of_decide_eq_true bp
             have zI:iy < (ko.length:Int):=of_decide_eq_true bp
             obtain ⟨FI,OI,KG⟩:=Kd.cY (Kd.cP ux.out).2.2 iy zH zI
             obtain rfl:ru=FI:=(by injection OI)
             replace zH:=eq_true zH
             replace zI:=eq_true zI
             have My: 0≤(nM:Int):=of_decide_eq_true bp
             have Mz:nM < ((cV ByteArray.empty ko iy).size:Int):=of_decide_eq_true bp
             have WI:=dA (cV ByteArray.empty ko iy) nM
             replace My:=eq_true My
             replace Mz:=eq_true Mz
             have FJ: 0≤(iy:Int):=of_decide_eq_true bp
             have FL:iy < (ko.length:Int):=of_decide_eq_true bp
             obtain ⟨MA,WJ,Sw⟩:=Kd.cY (Kd.cP ux.out).2.2 iy FJ FL
             obtain rfl:ru=MA:=(by injection WJ)
             replace FJ:=eq_true FJ
             replace FL:=eq_true FL
             have WK: 0≤(nM:Int):=of_decide_eq_true bp
             have WL:nM < ((cV ByteArray.empty ko iy).size:Int):=of_decide_eq_true bp
             have adV:=dA (cV ByteArray.empty ko iy) nM
             replace WK:=eq_true WK
             replace WL:=eq_true WL
             go_wp2
             repeat (go_quiet (fail);try go_wp2)
             go_ret
             exact ⟨cH,bG⟩
            ·rw [if_neg Hy] at H
             have Sv:decide (57 < (bt (cV ByteArray.empty ko iy) nM))=false:=decide_eq_false Hy
             clear Hy
             by_cases UL:nM=3
             ·rw [if_pos UL] at H
              have agQ:=beq_iff_eq.mpr UL
              have agR:=bne_eq_false_iff_eq.mpr UL
              clear UL
              obtain rfl:=Option.some.inj H
              have qm: 0≤(iy:Int):=of_decide_eq_true bp
              have qo:iy < (ko.length:Int):=of_decide_eq_true bp
              obtain ⟨ru,Cm,yL⟩:=Kd.cY (Kd.cP ux.out).2.2 iy qm qo
              cases Cm
              replace qm:=eq_true qm
              replace qo:=eq_true qo
              have zH: 0≤(iy:Int):=of_decide_eq_true bp
              have zI:iy < (ko.length:Int):=of_decide_eq_true bp
              obtain ⟨FI,OI,KG⟩:=Kd.cY (Kd.cP ux.out).2.2 iy zH zI
              obtain rfl:ru=FI:=(by injection OI)
              replace zH:=eq_true zH
              replace zI:=eq_true zI
              have My: 0≤(nM:Int):=of_decide_eq_true bp
              have Mz:nM < ((cV ByteArray.empty ko iy).size:Int):=of_decide_eq_true bp
              have WI:=dA (cV ByteArray.empty ko iy) nM
              replace My:=eq_true My
              replace Mz:=eq_true Mz
              have FJ: 0≤(iy:Int):=of_decide_eq_true bp
              have FL:iy < (ko.length:Int):=of_decide_eq_true bp
              obtain ⟨MA,WJ,Sw⟩:=Kd.cY (Kd.cP ux.out).2.2 iy FJ FL
              obtain rfl:ru=MA:=(by injection WJ)
              replace FJ:=eq_true FJ
              replace FL:=eq_true FL
              have WK: 0≤(nM:Int):=of_decide_eq_true bp
              have WL:nM < ((cV ByteArray.empty ko iy).size:Int):=of_decide_eq_true bp
              have adV:=dA (cV ByteArray.empty ko iy) nM
              replace WK:=eq_true WK
              replace WL:=eq_true WL
              go_wp2
              repeat (go_quiet (fail);try go_wp2)
              go_ret
              exact ⟨cH,bG⟩
             ·rw [if_neg UL] at H
              have agQ:=beq_eq_false_iff_ne.mpr UL
              have agR:=bne_iff_ne.mpr UL
              have H':=aa.mk H
              clear H
              have qm: 0≤(iy:Int):=of_decide_eq_true bp
              have qo:iy < (ko.length:Int):=of_decide_eq_true bp
              obtain ⟨ru,Cm,yL⟩:=Kd.cY (Kd.cP ux.out).2.2 iy qm qo
              cases Cm
              replace qm:=eq_true qm
              replace qo:=eq_true qo
              have zH: 0≤(iy:Int):=of_decide_eq_true bp
              have zI:iy < (ko.length:Int):=of_decide_eq_true bp
              obtain ⟨FI,OI,KG⟩:=Kd.cY (Kd.cP ux.out).2.2 iy zH zI
              obtain rfl:ru=FI:=(by injection OI)
              replace zH:=eq_true zH
              replace zI:=eq_true zI
              have My: 0≤(nM:Int):=of_decide_eq_true bp
              have Mz:nM < ((cV ByteArray.empty ko iy).size:Int):=of_decide_eq_true bp
              have WI:=dA (cV ByteArray.empty ko iy) nM
              replace My:=eq_true My
              replace Mz:=eq_true Mz
              have FJ: 0≤(iy:Int):=of_decide_eq_true bp
              have FL:iy < (ko.length:Int):=of_decide_eq_true bp
              obtain ⟨MA,WJ,Sw⟩:=Kd.cY (Kd.cP ux.out).2.2 iy FJ FL
              obtain rfl:ru=MA:=(by injection WJ)
              replace FJ:=eq_true FJ
              replace FL:=eq_true FL
              have WK: 0≤(nM:Int):=of_decide_eq_true bp
              have WL:nM < ((cV ByteArray.empty ko iy).size:Int):=of_decide_eq_true bp
              have adV:=dA (cV ByteArray.empty ko iy) nM
              replace WK:=eq_true WK
              replace WL:=eq_true WL
              have adW: 0≤(iy:Int):=of_decide_eq_true bp
              have adX:iy < (ko.length:Int):=of_decide_eq_true bp
              obtain ⟨agS,apK,al5⟩:=Kd.cY (Kd.cP ux.out).2.2 iy adW adX
              obtain rfl:ru=agS:=(by injection apK)
              replace adW:=eq_true adW
              replace adX:=eq_true adX
              have p34: 0≤(nM:Int):=of_decide_eq_true bp
              have q34:nM < ((cV ByteArray.empty ko iy).size:Int):=of_decide_eq_true bp
              have avW:=dA (cV ByteArray.empty ko iy) nM
              replace p34:=eq_true p34
              replace q34:=eq_true q34
              go_wp2
              repeat (go_quiet (fail);try go_wp2)
              go_roundg k3
              case measure=>have:=NM.out;have:=uI.out;have:=YC.out;omega
              case rel=>exact ⟨(wrap64 ((wrap64 ((wrap64 (10 * OH)) + (wrap64 (bt (cV ByteArray.empty ko iy) nM)))) - 48)),(wrap64 (nM + 1)),b9,b9,H',⟨by have:=NM.out;have:=uI.out;have:=YC.out;omega⟩,⟨I9⟩,⟨bG⟩⟩
          ·rw [if_neg JU] at H
           have WH:=decide_eq_false JU
           clear JU
           by_cases Hr:(cV ByteArray.empty ko iy).toList=([]:List UInt8)
           ·rw [if_pos Hr] at H
            have Fi:=beq_iff_eq.mpr Hr
            have VB:=bne_eq_false_iff_eq.mpr Hr
            clear Hr
            obtain rfl:=Option.some.inj H
            have qm: 0≤(iy:Int):=of_decide_eq_true bp
            have qo:iy < (ko.length:Int):=of_decide_eq_true bp
            obtain ⟨ru,Cm,yL⟩:=Kd.cY (Kd.cP ux.out).2.2 iy qm qo
            cases Cm
            replace qm:=eq_true qm
            replace qo:=eq_true qo
            have FM: 0≤(iy:Int):=of_decide_eq_true bp
            have FN:iy < (ko.length:Int):=of_decide_eq_true bp
            obtain ⟨MB,WM,Sy⟩:=Kd.cY (Kd.cP ux.out).2.2 iy FM FN
            obtain rfl:ru=MB:=(by injection WM)
            replace FM:=eq_true FM
            replace FN:=eq_true FN
            go_wp2
            repeat (go_quiet (fail);try go_wp2)
            go_ret
            exact ⟨cH,bG⟩
           ·rw [if_neg Hr] at H
            have Fi:=beq_eq_false_iff_ne.mpr Hr
            have VB:=bne_iff_ne.mpr Hr
            by_cases zC:OH > 255
            ·rw [if_pos zC] at H
             have L8:decide (255 < OH)=true:=decide_eq_true zC
             clear zC
             obtain rfl:=Option.some.inj H
             have qm: 0≤(iy:Int):=of_decide_eq_true bp
             have qo:iy < (ko.length:Int):=of_decide_eq_true bp
             obtain ⟨ru,Cm,yL⟩:=Kd.cY (Kd.cP ux.out).2.2 iy qm qo
             cases Cm
             replace qm:=eq_true qm
             replace qo:=eq_true qo
             have FM: 0≤(iy:Int):=of_decide_eq_true bp
             have FN:iy < (ko.length:Int):=of_decide_eq_true bp
             obtain ⟨MB,WM,Sy⟩:=Kd.cY (Kd.cP ux.out).2.2 iy FM FN
             obtain rfl:ru=MB:=(by injection WM)
             replace FM:=eq_true FM
             replace FN:=eq_true FN
             go_wp2
             repeat (go_quiet (fail);try go_wp2)
             go_ret
             exact ⟨cH,bG⟩
            ·rw [if_neg zC] at H
             have L8:decide (255 < OH)=false:=decide_eq_false zC
             clear zC
             have H':=aa.mk H
             clear H
             have qm: 0≤(iy:Int):=of_decide_eq_true bp
             have qo:iy < (ko.length:Int):=of_decide_eq_true bp
             obtain ⟨ru,Cm,yL⟩:=Kd.cY (Kd.cP ux.out).2.2 iy qm qo
             cases Cm
             replace qm:=eq_true qm
             replace qo:=eq_true qo
             have FM: 0≤(iy:Int):=of_decide_eq_true bp
             have FN:iy < (ko.length:Int):=of_decide_eq_true bp
             obtain ⟨MB,WM,Sy⟩:=Kd.cY (Kd.cP ux.out).2.2 iy FM FN
             obtain rfl:ru=MB:=(by injection WM)
             replace FM:=eq_true FM
             replace FN:=eq_true FN
             go_wp2
             repeat (go_quiet (fail);try go_wp2)
             go_roundg k3
             case measure=>have:=NM.out;have:=uI.out;have:=YC.out;omega
             case rel=>exact ⟨(wrap64 (iy + 1)),b9,H',⟨by have:=NM.out;have:=uI.out;have:=YC.out;omega⟩,⟨I9⟩,⟨bG⟩⟩
       ·rw [if_neg c24] at H
        have RJ:=decide_eq_false c24
        clear c24
        obtain rfl:=Option.some.inj H
        go_wp2
        repeat (go_quiet (fail);try go_wp2)
        go_ret
        exact ⟨cH,bG⟩
    ·rw [if_neg c21] at H
     have wW:=beq_eq_false_iff_ne.mpr c21
     have Sg:=bne_iff_ne.mpr c21
     obtain rfl:=Option.some.inj H
     go_wp2_with (first|(go_at_call 75;(with_reducible refine (strings_Split.calls a0 (⟨#[46]⟩:ByteArray) ko _ ?aT Yw.out).mono ?_);(case aT=>exact aJ.below HG.out bG);rintro e w37 ⟨adR,rfl,ho0,hb⟩;have C0:=aa.mk (Kd.kD ho0 (dm bG));replace HB:=aa.mk (aA bG hb);(try clear hb);(try clear ho0);obtain ⟨apL,apM,adY⟩:=Kd.gQ C0.out;subst adY))
     repeat (go_quiet (fail);try go_wp2_with (first|(go_at_call 75;(with_reducible refine (strings_Split.calls a0 (⟨#[46]⟩:ByteArray) ko _ ?aT Yw.out).mono ?_);(case aT=>exact aJ.below HG.out bG);rintro e w37 ⟨adR,rfl,ho0,hb⟩;have C0:=aa.mk (Kd.kD ho0 (dm bG));replace HB:=aa.mk (aA bG hb);(try clear hb);(try clear ho0);obtain ⟨apL,apM,adY⟩:=Kd.gQ C0.out;subst adY)))
     go_ret
     exact ⟨cH,bG⟩
end Go.Proofs.YtokpnfljjjjikaaGreatDoor.mY
namespace Go.Proofs.YtokpnfljjjjikaaGreatDoor.mY
open Go.RowKit Go.Proofs.YtokpnfljjjjikaaGreatDoor.qP Go.Proofs.aj.bO Go.Proofs.aj.fA Go.Proofs.aj.cK
attribute [local go_sem] ia ig iU iV gf gh ij iq
set_option linter.unusedVariables false
set_option linter.unusedSimpArgs false
def bz.l0:Nat→ByteArray→Bool→Int→Option (Bool)
 | 0,_,_,_ =>none
 |k + 1,x0,x3,x4=>if x4 < (x0.size:Int) then (if 0≤x4 then (if (bt x0 x4)=46 then (if x3=true then (some false) else (bz.l0 k x0 true (wrap64 (x4 + 1)))) else ((fq.f (bt x0 x4)).bind fun ad5=>(if ad5=true then (bz.l0 k x0 false (wrap64 (x4 + 1))) else ((strings_IndexByte.f (⟨#[33,35,36,37,38,39,42,43,45,47,61,63,94,95,96,123,124,125,126]⟩:ByteArray) (bt x0 x4)).bind fun WS=>(if WS < 0 then (some false) else (bz.l0 k x0 false (wrap64 (x4 + 1)))))))) else (none)) else (some (!x3))
def bz.f (k:Nat) (a0:ByteArray):Option (Bool):=bz.l0 k a0 true 0
theorem bz.dF:∀ k,(∀ y0 y1 y2,bL (bz.l0 k y0 y1 y2) (bz.l0 (k + 1) y0 y1 y2))
 | 0=>fun _ _ _ r h=>by simp [bz.l0] at h
 |k + 1=>by
  have fV:=bz.dF k
  ·intro y0 y1 y2
   unfold bz.l0
   repeat' first
   |(with_reducible first|exact fV _ _ _|exact bL.refl _|exact bL.none _|refine bL.ite ?_ ?_|refine bL.bind ?_ (fun _ =>?_))
   |exact fV _ _ _
   |exact bL.none _
   |refine bL.ite ?_ ?_
   |refine bL.bind ?_ (fun _ =>?_)
theorem bz.mono:∀ a0 k,bL (bz.f k a0) (bz.f (k + 1) a0):=by
 intro a0 k
 have fV:=bz.dF k
 unfold bz.f
 repeat' first
  |(with_reducible first|exact fV _ _ _|exact bL.refl _|exact bL.none _|refine bL.ite ?_ ?_|refine bL.bind ?_ (fun _ =>?_))
  |exact fV _ _ _
  |exact bL.none _
  |refine bL.ite ?_ ?_
  |refine bL.bind ?_ (fun _ =>?_)
theorem bz.calls (k:Nat) (a0:ByteArray) (r:Bool) (w:World) (h:bz.f k a0=some r):
 Calls Tryz.prog 134 #[.string a0] w fun e w'=>e= .returned (.bool r)∧iC w w':=by
 have H:(bz.l0 k a0 true 0)=some r:=h
 clear h
 have H':=aa.mk H
 clear H
 go_enter Tryz.func134,Tryz.ntmps134
 go_wp2
 go_loopg [3,4] k (fun kq v3 v4 w'=>∃ (kE:Bool) (cJ:Int),v3= .bool kE∧v4= .int .i64 cJ∧aa (bz.l0 kq a0 kE cJ=some r)∧aa (kq≤k)∧iC w w')
 case atStart=>exact ⟨(true),(0),b9,b9,H',⟨Nat.le_refl _⟩,dJ⟩
 case round=>
  clear H'
  obtain ⟨kE,cJ,rfl,rfl,HA,p9,⟨m1,rfl⟩⟩:=hrel
  cases gk with
  |zero=>exact absurd HA.out (by simp [bz.l0])
  |succ k1=>
   have H:=HA.out
   clear HA
   simp only [bz.l0] at H
   by_cases c2:cJ < (a0.size:Int)
   ·rw [if_pos c2] at H
    have sP:=decide_eq_true c2
    clear c2
    obtain ⟨c3,H⟩:=iA H
    have mg:=decide_eq_true c3
    clear c3
    by_cases c5:(bt a0 cJ)=46
    ·rw [if_pos c5] at H
     have lF:=beq_iff_eq.mpr c5
     have Cf:=bne_eq_false_iff_eq.mpr c5
     clear c5
     by_cases c6:kE=true
     ·subst c6
      rw [if_pos rfl] at H
      obtain rfl:=Option.some.inj H
      have p4: 0≤(cJ:Int):=of_decide_eq_true bp
      have q4:cJ < (a0.size:Int):=of_decide_eq_true bp
      have Yv:=dA a0 cJ
      replace p4:=eq_true p4
      replace q4:=eq_true q4
      go_wp2
      go_ret
      exact ⟨b9,dJ⟩
     ·replace c6:=Bool.eq_false_iff.mpr c6
      subst c6
      rw [if_neg (show ¬ (false=true) by decide)] at H
      have H':=aa.mk H
      clear H
      have p4: 0≤(cJ:Int):=of_decide_eq_true bp
      have q4:cJ < (a0.size:Int):=of_decide_eq_true bp
      have Yv:=dA a0 cJ
      replace p4:=eq_true p4
      replace q4:=eq_true q4
      go_wp2
      go_roundg k1
      case measure=>have:=p9.out;omega
      case rel=>exact ⟨(true),(wrap64 (cJ + 1)),b9,b9,H',⟨je⟩,dJ⟩
    ·rw [if_neg c5] at H
     have lF:=beq_eq_false_iff_ne.mpr c5
     have Cf:=bne_iff_ne.mpr c5
     obtain ⟨ad5,A8,H⟩:=bd_ H
     by_cases c9:ad5=true
     ·subst c9
      rw [if_pos rfl] at H
      have H':=aa.mk H
      clear H
      have p4: 0≤(cJ:Int):=of_decide_eq_true bp
      have q4:cJ < (a0.size:Int):=of_decide_eq_true bp
      have Yv:=dA a0 cJ
      replace p4:=eq_true p4
      replace q4:=eq_true q4
      have p7: 0≤(cJ:Int):=of_decide_eq_true bp
      have q7:cJ < (a0.size:Int):=of_decide_eq_true bp
      have AO:=dA a0 cJ
      replace p7:=eq_true p7
      replace q7:=eq_true q7
      go_wp2_with (first|((with_reducible refine aK (f:=127) rfl ?_);refine bU (some 19) rfl rfl Tryz.func127 aq rfl #[.int .u8 (bt a0 cJ)] rfl cz ?_;(with_reducible refine (fq.calls (bt a0 cJ) true _ A8.out).mono ?_);rintro e w' ⟨rfl,⟨nd,rfl⟩⟩;refine ⟨_,rfl,?_⟩))
      go_roundg k1
      case measure=>have:=p9.out;omega
      case rel=>exact ⟨(false),(wrap64 (cJ + 1)),b9,b9,H',⟨je⟩,dJ⟩
     ·replace c9:=Bool.eq_false_iff.mpr c9
      subst c9
      rw [if_neg (show ¬ (false=true) by decide)] at H
      obtain ⟨WS,ZQ,H⟩:=bd_ H
      by_cases c12:WS < 0
      ·rw [if_pos c12] at H
       have zg:=decide_eq_true c12
       clear c12
       obtain rfl:=Option.some.inj H
       have p4: 0≤(cJ:Int):=of_decide_eq_true bp
       have q4:cJ < (a0.size:Int):=of_decide_eq_true bp
       have Yv:=dA a0 cJ
       replace p4:=eq_true p4
       replace q4:=eq_true q4
       have p7: 0≤(cJ:Int):=of_decide_eq_true bp
       have q7:cJ < (a0.size:Int):=of_decide_eq_true bp
       have AO:=dA a0 cJ
       replace p7:=eq_true p7
       replace q7:=eq_true q7
       go_wp2_with (first|((with_reducible refine aK (f:=127) rfl ?_);refine bU (some 19) rfl rfl Tryz.func127 aq rfl #[.int .u8 (bt a0 cJ)] rfl cz ?_;(with_reducible refine (fq.calls (bt a0 cJ) false _ A8.out).mono ?_);rintro e w' ⟨rfl,⟨nd,rfl⟩⟩;refine ⟨_,rfl,?_⟩;have Ow: 0≤(cJ:Int):=of_decide_eq_true bp;have Mf:cJ < (a0.size:Int):=of_decide_eq_true bp;have Wb:=dA a0 cJ;replace Ow:=eq_true Ow;replace Mf:=eq_true Mf)|(go_at_call 159;(with_reducible refine (strings_IndexByte.calls (⟨#[33,35,36,37,38,39,42,43,45,47,61,63,94,95,96,123,124,125,126]⟩:ByteArray) (bt a0 cJ) WS _ ZQ.out).mono ?_);rintro e w' ⟨rfl,⟨nd,rfl⟩⟩))
       go_ret
       exact ⟨b9,dJ⟩
      ·rw [if_neg c12] at H
       have zg:=decide_eq_false c12
       clear c12
       have H':=aa.mk H
       clear H
       have p4: 0≤(cJ:Int):=of_decide_eq_true bp
       have q4:cJ < (a0.size:Int):=of_decide_eq_true bp
       have Yv:=dA a0 cJ
       replace p4:=eq_true p4
       replace q4:=eq_true q4
       have p7: 0≤(cJ:Int):=of_decide_eq_true bp
       have q7:cJ < (a0.size:Int):=of_decide_eq_true bp
       have AO:=dA a0 cJ
       replace p7:=eq_true p7
       replace q7:=eq_true q7
       go_wp2_with (first|((with_reducible refine aK (f:=127) rfl ?_);refine bU (some 19) rfl rfl Tryz.func127 aq rfl #[.int .u8 (bt a0 cJ)] rfl cz ?_;(with_reducible refine (fq.calls (bt a0 cJ) false _ A8.out).mono ?_);rintro e w' ⟨rfl,⟨nd,rfl⟩⟩;refine ⟨_,rfl,?_⟩;have Ow: 0≤(cJ:Int):=of_decide_eq_true bp;have Mf:cJ < (a0.size:Int):=of_decide_eq_true bp;have Wb:=dA a0 cJ;replace Ow:=eq_true Ow;replace Mf:=eq_true Mf)|(go_at_call 159;(with_reducible refine (strings_IndexByte.calls (⟨#[33,35,36,37,38,39,42,43,45,47,61,63,94,95,96,123,124,125,126]⟩:ByteArray) (bt a0 cJ) WS _ ZQ.out).mono ?_);rintro e w' ⟨rfl,⟨nd,rfl⟩⟩))
       go_roundg k1
       case measure=>have:=p9.out;omega
       case rel=>exact ⟨(false),(wrap64 (cJ + 1)),b9,b9,H',⟨je⟩,dJ⟩
   ·rw [if_neg c2] at H
    have sP:=decide_eq_false c2
    clear c2
    obtain rfl:=Option.some.inj H
    go_wp2
    go_ret
    exact ⟨b9,dJ⟩
end Go.Proofs.YtokpnfljjjjikaaGreatDoor.mY
