import Derived.Test.YtokpnfljjjjikaaGreatDoorESlim
import Derived.Test.YtokpnfljjjjikaaGreatDoorQPtx0
import Derived.Test.YtokpnfljjjjikaaGreatDoorELit
import Derived.Test.YtokpnfljjjjikaaGreatDoorESmall
set_option maxHeartbeats 8000000
set_option maxRecDepth 100000
namespace Go.Proofs.YtokpnfljjjjikaaGreatDoor.mY
open Go.RowKit Go.Proofs.YtokpnfljjjjikaaGreatDoor.qP Go.Proofs.aj.bO Go.Proofs.aj.fA Go.Proofs.aj.cK
attribute [local go_sem] ia ig iU iV gf gh ij iq
set_option linter.unusedVariables false
set_option linter.unusedSimpArgs false
def stringslite_HasPrefix.f (a0:ByteArray) (a1:ByteArray):Option (Bool):=if (a0.size:Int)≥(a1.size:Int) then (if 0≤(a1.size:Int) then (if (a1.size:Int)≤(a0.size:Int) then (some ((a0.extract 0 ((a1.size:Int):Int).toNat).toList == a1.toList)) else (none)) else (none)) else (some false)
theorem stringslite_HasPrefix.calls (a0:ByteArray) (a1:ByteArray) (r:Bool) (w:World) (h:stringslite_HasPrefix.f a0 a1=some r):
 Calls Tryz.prog 98 #[.string a0,.string a1] w fun e w'=>e= .returned (.bool r)∧iC w w':=by
 have H:(if (a0.size:Int)≥(a1.size:Int) then (if 0≤(a1.size:Int) then (if (a1.size:Int)≤(a0.size:Int) then (some ((a0.extract 0 ((a1.size:Int):Int).toNat).toList == a1.toList)) else (none)) else (none)) else (some false))=some r:=h
 clear h
 by_cases c3:(a0.size:Int)≥(a1.size:Int)
 ·rw [if_pos c3] at H
  have mg:decide ((a1.size:Int)≤(a0.size:Int))=true:=decide_eq_true c3
  have E7:decide (a1.size≤a0.size)=true:=decide_eq_true (Int.ofNat_le.mp c3)
  clear c3
  obtain ⟨c4,H⟩:=iA H
  have nB:=eq_true c4
  have LJ:=decide_eq_true c4
  clear c4
  obtain ⟨c5,H⟩:=iA H
  have lF:=eq_true c5
  have Cf:=decide_eq_true c5
  clear c5
  obtain rfl:=Option.some.inj H
  go_enter Tryz.func98,Tryz.ntmps98
  go_wp2
  go_ret
  exact ⟨b9,dJ⟩
 ·rw [if_neg c3] at H
  have mg:decide ((a1.size:Int)≤(a0.size:Int))=false:=decide_eq_false c3
  have E7:decide (a1.size≤a0.size)=false:=decide_eq_false (fun h=>c3 (Int.ofNat_le.mpr h))
  clear c3
  obtain rfl:=Option.some.inj H
  go_enter Tryz.func98,Tryz.ntmps98
  go_wp2
  go_ret
  exact ⟨b9,dJ⟩
def strings_HasPrefix.f (a0:ByteArray) (a1:ByteArray):Option (Bool):=(stringslite_HasPrefix.f a0 a1).bind fun t101=>(some t101)
theorem strings_HasPrefix.calls (a0:ByteArray) (a1:ByteArray) (r:Bool) (w:World) (h:strings_HasPrefix.f a0 a1=some r):
 Calls Tryz.prog 37 #[.string a0,.string a1] w fun e w'=>e= .returned (.bool r)∧iC w w':=by
 have H:((stringslite_HasPrefix.f a0 a1).bind fun t101=>(some t101))=some r:=h
 clear h
 obtain ⟨t101,A3,H⟩:=bd_ H
 obtain rfl:=Option.some.inj H
 go_enter Tryz.func37,Tryz.ntmps37
 go_wp2_with (first|((with_reducible refine aK (f:=98) rfl ?_);refine bU (some 7) rfl rfl Tryz.func98 aq rfl #[.string a0,.string a1] rfl cz ?_;(with_reducible refine (stringslite_HasPrefix.calls a0 a1 t101 _ A3.out).mono ?_);rintro e w' ⟨rfl,⟨nd,rfl⟩⟩;refine ⟨_,rfl,?_⟩))
 go_ret
 exact ⟨b9,dJ⟩
def aD (w0 W:World) (g:Nat) (f0:ByteArray) (f1:Int):Prop:=W.heap[g]? =some (.cells #[.string f0,.int .i64 f1] 82 (0,0))∧w0.heap.size≤g
theorem aD.grown {w0 W:World} {g:Nat} {f0:ByteArray} {f1:Int} {W1:World} {row:Option Nat} (h:aD w0 W g f0 f1) (hw:W.grownBy W1 row) (hne:some g≠row):aD w0 W1 g f0 f1:=by
 obtain ⟨hb,hg⟩:=h
 exact ⟨ni hb hw hne,hg⟩
theorem aD.kept {w0 W:World} {g:Nat} {f0:ByteArray} {f1:Int} {W1:World} {S:Nat→Prop} (h:aD w0 W g f0 f1) (hk:Kept W W1 S) (hne: ¬ S g):aD w0 W1 g f0 f1:=by
 obtain ⟨hb,hg⟩:=h
 exact ⟨Vm hb hk hne,hg⟩
theorem aD.below {w0 W:World} {g:Nat} {f0:ByteArray} {f1:Int} {W1:World} (h:aD w0 W g f0 f1) (hw:Below W.heap.size W W1):aD w0 W1 g f0 f1:=h.grown (wD hw none) bw
theorem aD.alloc {w0 W:World} {g:Nat} {f0:ByteArray} {f1:Int} (h:aD w0 W g f0 f1) (o:Obj):aD w0 (W.alloc o) g f0 f1:=h.below (aV (Below.refl _ _) o)
theorem aD.drewN {w0 W:World} {g:Nat} {f0:ByteArray} {f1:Int} (h:aD w0 W g f0 f1) (m:Nat):aD w0 (W.drewN m) g f0 f1:=h
theorem aD.drew {w0 W:World} {g:Nat} {f0:ByteArray} {f1:Int} (h:aD w0 W g f0 f1):aD w0 W.drew g f0 f1:=h
theorem aD.at_ {w0 W:World} {g:Nat} {f0:ByteArray} {f1:Int} {w':World} {m:Nat} (hq:W.drewN m=w') (h:aD w0 W g f0 f1):aD w0 w' g f0 f1:=by subst hq;exact aD.drewN h m
theorem aD.apart {w0 W:World} {g:Nat} {f0:ByteArray} {f1:Int} {α:Type} {d:Kd α} {e:Nat} {base:Nat} {ok:Nat→Prop} {v:Value} {xs:List α} (h:aD w0 W g f0 f1) (ho:d.R e W base ok v xs) (ht:∀ q,q∈e :: d.E→q≠82):d.R e W base (fun k=>ok k∧k≠g) v xs:=by
 obtain ⟨hb,hg⟩:=h
 exact Kd.jW ho hb ht
theorem aD.own_ne {w0 W:World} {g:Nat} {f0:ByteArray} {f1:Int} {α:Type} {d:Kd α} {e:Nat} {base:Nat} {ok:Nat→Prop} {v:Value} {xs:List α} (h:aD w0 W g f0 f1) (ho:d.R e W base ok v xs) (ht:e≠82):some g≠v.ownBlock:=by
 obtain ⟨hb,hg⟩:=h
 exact Kd.EW ho hb ht
theorem aD.lt {w0 W:World} {g:Nat} {f0:ByteArray} {f1:Int} (h:aD w0 W g f0 f1):g < W.heap.size:=by
 obtain ⟨hb,hg⟩:=h
 exact iM hb
theorem aD.ge {w0 W:World} {g:Nat} {f0:ByteArray} {f1:Int} (h:aD w0 W g f0 f1):w0.heap.size≤g:=by
 obtain ⟨hb,hg⟩:=h
 exact hg
theorem aD.qg {w0 W:World} {g:Nat} {f0:ByteArray} {f1:Int} {a:Nat} {cs:Array Value} {t:TypeId} {fr:Nat×Nat} (h:aD w0 W g f0 f1) (hb2:W.heap[a]? =some (.cells cs t fr)) (ht:t≠82):g≠a:=by
 obtain ⟨hb,hg⟩:=h
 rintro rfl
 rw [hb] at hb2
 injection hb2 with hb2
 injection hb2 with _ ht2
 exact ht ht2.symm
theorem aD.far {w0 W:World} {g:Nat} {f0:ByteArray} {f1:Int} {p:Addr} (h:aD w0 W g f0 f1) (hne:g≠p.block) (u:Value):aD w0 (W.setCell p u) g f0 f1:=by
 obtain ⟨hb,hg⟩:=h
 exact ⟨cQ hb hne u,hg⟩
theorem dU {W:World} {g:Nat} {f0:ByteArray} {f1:Int} (h:W.heap[g]? =some (.cells #[.string f0,.int .i64 f1] 82 (0,0))):W.cell? ⟨g,0,none⟩=some (.string f0):=(ah h 0).trans rfl
theorem aD.gm {w0 W:World} {g:Nat} {f0:ByteArray} {f1:Int} (h:aD w0 W g f0 f1) (x:ByteArray):aD w0 (W.setCell ⟨g,0,none⟩ (.string x)) g x f1:=by
 obtain ⟨hb,hg⟩:=h
 exact ⟨by simpa using D8 hb 0 (.string x),hg⟩
theorem dP {W:World} {g:Nat} {f0:ByteArray} {f1:Int} (h:W.heap[g]? =some (.cells #[.string f0,.int .i64 f1] 82 (0,0))):W.cell? ⟨g,1,none⟩=some (.int .i64 f1):=(ah h 1).trans rfl
theorem aD.gi {w0 W:World} {g:Nat} {f0:ByteArray} {f1:Int} (h:aD w0 W g f0 f1) (x:Int):aD w0 (W.setCell ⟨g,1,none⟩ (.int .i64 x)) g f0 x:=by
 obtain ⟨hb,hg⟩:=h
 exact ⟨by simpa using D8 hb 1 (.int .i64 x),hg⟩
def bV.f (fB:ByteArray) (eA:Int) (a1:Int):Option (Bool×ByteArray×Int):=if eA < (fB.size:Int) then (if 0≤eA then (if (bt fB eA)=a1 then (some (true,fB,wrap64 (eA + 1))) else (some (false,fB,eA))) else (none)) else (some (false,fB,eA))
theorem bV.calls (g:Nat) (fB:ByteArray) (eA:Int) (a1:Int) (r1:Bool) (r2:ByteArray) (r3:Int) (w0 w:World) (hI:aD w0 w g fB eA) (hB:Below w0.heap.size w0 w) (h:bV.f fB eA a1=some (r1,r2,r3)):
 Calls Tryz.prog 56 #[.pointer (some ⟨g,0,none⟩),.int .u8 a1] w fun e w'=>e= .returned (.bool r1)∧aD w0 w' g r2 r3∧Below w0.heap.size w0 w'∧bM w w' g none:=by
 have eW:=aa.mk hI
 have HK:=aa.mk (bM.refl w g none)
 have HL:=aa.mk hB.size
 clear hI
 have UI:=aa.mk hB.size
 have HB:=aa.mk hB
 clear hB
 have H:(if eA < (fB.size:Int) then (if 0≤eA then (if (bt fB eA)=a1 then (some (true,fB,wrap64 (eA + 1))) else (some (false,fB,eA))) else (none)) else (some (false,fB,eA)))=some (r1,r2,r3):=h
 clear h
 by_cases c3:eA < (fB.size:Int)
 ·rw [if_pos c3] at H
  have mg:=decide_eq_true c3
  clear c3
  obtain ⟨c4,H⟩:=iA H
  have nB:=decide_eq_true c4
  clear c4
  by_cases c6:(bt fB eA)=a1
  ·rw [if_pos c6] at H
   have nL:=beq_iff_eq.mpr c6
   have wK:=bne_eq_false_iff_eq.mpr c6
   clear c6
   simp only [Option.some.injEq,Prod.mk.injEq] at H
   obtain ⟨rfl,rfl,rfl⟩:=H
   obtain ⟨E8,adi⟩:=eW.out
   have Jq:=dU E8
   have Jr:=dP E8
   have Js:=af E8 0
   have Jt:=af E8 1
   clear E8 adi
   have p5: 0≤(eA:Int):=of_decide_eq_true bp
   have q5:eA < (fB.size:Int):=of_decide_eq_true bp
   have hx5:=dA fB eA
   replace p5:=eq_true p5
   replace q5:=eq_true q5
   go_enter Tryz.func56,Tryz.ntmps56
   go_wp2
   repeat (go_quiet (fail);try go_wp2)
   go_ret
   exact ⟨cH,gz,gy,fo⟩
  ·rw [if_neg c6] at H
   have nL:=beq_eq_false_iff_ne.mpr c6
   have wK:=bne_iff_ne.mpr c6
   simp only [Option.some.injEq,Prod.mk.injEq] at H
   obtain ⟨rfl,rfl,rfl⟩:=H
   obtain ⟨E9,adj⟩:=eW.out
   have zy:=dU E9
   have zz:=dP E9
   have zA:=af E9 0
   have zB:=af E9 1
   clear E9 adj
   have p5: 0≤(eA:Int):=of_decide_eq_true bp
   have q5:eA < (fB.size:Int):=of_decide_eq_true bp
   have hx5:=dA fB eA
   replace p5:=eq_true p5
   replace q5:=eq_true q5
   go_enter Tryz.func56,Tryz.ntmps56
   go_wp2
   repeat (go_quiet (fail);try go_wp2)
   go_ret
   exact ⟨cH,gz,gy,fo⟩
 ·rw [if_neg c3] at H
  have mg:=decide_eq_false c3
  clear c3
  simp only [Option.some.injEq,Prod.mk.injEq] at H
  obtain ⟨rfl,rfl,rfl⟩:=H
  obtain ⟨pQ,Ju⟩:=eW.out
  have rG:=dU pQ
  have rH:=dP pQ
  have rI:=af pQ 0
  have rJ:=af pQ 1
  clear pQ Ju
  go_enter Tryz.func56,Tryz.ntmps56
  go_wp2
  repeat (go_quiet (fail);try go_wp2)
  go_ret
  exact ⟨cH,gz,gy,fo⟩
def qQ.f (a0:ByteArray):Option (Bool):=(strings_Cut.f a0 (⟨#[58,58]⟩:ByteArray)).bind fun Fa=>((fI.f Fa.1).bind fun t105=>((fI.f Fa.2.1).bind fun t106=>(if Fa.2.2=true then (if t105≥0 then (if t106≥0 then (some (decide ((wrap64 (t105 + t106))≤6))) else (some false)) else (some false)) else (some (t105 == 8)))))
theorem qQ.calls (a0:ByteArray) (r:Bool) (w:World) (hG:aJ w) (h:qQ.f a0=some r):
 Calls Tryz.prog 82 #[.string a0] w fun e w'=>e= .returned (.bool r)∧Below w.heap.size w w':=by
 have HB:=aa.mk (Below.refl w.heap.size w)
 have HG:=aa.mk hG
 clear hG
 have H:((strings_Cut.f a0 (⟨#[58,58]⟩:ByteArray)).bind fun Fa=>((fI.f Fa.1).bind fun t105=>((fI.f Fa.2.1).bind fun t106=>(if Fa.2.2=true then (if t105≥0 then (if t106≥0 then (some (decide ((wrap64 (t105 + t106))≤6))) else (some false)) else (some false)) else (some (t105 == 8))))))=some r:=h
 clear h
 obtain ⟨⟨t102,t103,t104⟩,A2,H⟩:=bd_ H
 (try dsimp only at H)
 obtain ⟨t105,A3,H⟩:=bd_ H
 obtain ⟨t106,A4,H⟩:=bd_ H
 by_cases c5:t104=true
 ·subst c5
  rw [if_pos rfl] at H
  by_cases c6:t105≥0
  ·rw [if_pos c6] at H
   have nL:decide (0≤t105)=true:=decide_eq_true c6
   clear c6
   by_cases c7:t106≥0
   ·rw [if_pos c7] at H
    have TA:decide (0≤t106)=true:=decide_eq_true c7
    clear c7
    obtain rfl:=Option.some.inj H
    go_enter Tryz.func82,Tryz.ntmps82
    go_wp2_with (first|((with_reducible refine aK (f:=91) rfl ?_);refine bU (some 10) rfl rfl Tryz.func91 aq rfl #[.string a0,.string (⟨#[58,58]⟩:ByteArray)] rfl cz ?_;(with_reducible refine (strings_Cut.calls a0 (⟨#[58,58]⟩:ByteArray) t102 t103 true _ ?aT A2.out).mono ?_);(case aT=>exact aJ.below HG.out bG);rintro e w' ⟨rfl,⟨nd,rfl⟩⟩;refine ⟨_,rfl,?_⟩)|((with_reducible refine aK (f:=130) rfl ?_);refine bU (some 15) rfl rfl Tryz.func130 aq rfl #[.string t102] rfl cz ?_;(with_reducible refine (fI.calls t102 t105 _ ?aT A3.out).mono ?_);(case aT=>exact aJ.below HG.out bG);rintro e w8 ⟨rfl,hb⟩;refine ⟨_,rfl,?_⟩;replace HB:=aa.mk (aA bG hb);(try clear hb))|((with_reducible refine aK (f:=130) rfl ?_);refine bU (some 17) rfl rfl Tryz.func130 aq rfl #[.string t103] rfl cz ?_;(with_reducible refine (fI.calls t103 t106 _ ?aT A4.out).mono ?_);(case aT=>exact aJ.below HG.out bG);rintro e w9 ⟨rfl,hb⟩;refine ⟨_,rfl,?_⟩;replace HB:=aa.mk (aA bG hb);(try clear hb)))
    go_ret
    exact ⟨cH,bG⟩
   ·rw [if_neg c7] at H
    have TA:decide (0≤t106)=false:=decide_eq_false c7
    clear c7
    obtain rfl:=Option.some.inj H
    go_enter Tryz.func82,Tryz.ntmps82
    go_wp2_with (first|((with_reducible refine aK (f:=91) rfl ?_);refine bU (some 10) rfl rfl Tryz.func91 aq rfl #[.string a0,.string (⟨#[58,58]⟩:ByteArray)] rfl cz ?_;(with_reducible refine (strings_Cut.calls a0 (⟨#[58,58]⟩:ByteArray) t102 t103 true _ ?aT A2.out).mono ?_);(case aT=>exact aJ.below HG.out bG);rintro e w' ⟨rfl,⟨nd,rfl⟩⟩;refine ⟨_,rfl,?_⟩)|((with_reducible refine aK (f:=130) rfl ?_);refine bU (some 15) rfl rfl Tryz.func130 aq rfl #[.string t102] rfl cz ?_;(with_reducible refine (fI.calls t102 t105 _ ?aT A3.out).mono ?_);(case aT=>exact aJ.below HG.out bG);rintro e um ⟨rfl,hb⟩;refine ⟨_,rfl,?_⟩;replace HB:=aa.mk (aA bG hb);(try clear hb))|((with_reducible refine aK (f:=130) rfl ?_);refine bU (some 17) rfl rfl Tryz.func130 aq rfl #[.string t103] rfl cz ?_;(with_reducible refine (fI.calls t103 t106 _ ?aT A4.out).mono ?_);(case aT=>exact aJ.below HG.out bG);rintro e UJ ⟨rfl,hb⟩;refine ⟨_,rfl,?_⟩;replace HB:=aa.mk (aA bG hb);(try clear hb)))
    go_ret
    exact ⟨cH,bG⟩
  ·rw [if_neg c6] at H
   have nL:decide (0≤t105)=false:=decide_eq_false c6
   clear c6
   obtain rfl:=Option.some.inj H
   go_enter Tryz.func82,Tryz.ntmps82
   go_wp2_with (first|((with_reducible refine aK (f:=91) rfl ?_);refine bU (some 10) rfl rfl Tryz.func91 aq rfl #[.string a0,.string (⟨#[58,58]⟩:ByteArray)] rfl cz ?_;(with_reducible refine (strings_Cut.calls a0 (⟨#[58,58]⟩:ByteArray) t102 t103 true _ ?aT A2.out).mono ?_);(case aT=>exact aJ.below HG.out bG);rintro e w' ⟨rfl,⟨nd,rfl⟩⟩;refine ⟨_,rfl,?_⟩)|((with_reducible refine aK (f:=130) rfl ?_);refine bU (some 15) rfl rfl Tryz.func130 aq rfl #[.string t102] rfl cz ?_;(with_reducible refine (fI.calls t102 t105 _ ?aT A3.out).mono ?_);(case aT=>exact aJ.below HG.out bG);rintro e Ld ⟨rfl,hb⟩;refine ⟨_,rfl,?_⟩;replace HB:=aa.mk (aA bG hb);(try clear hb))|((with_reducible refine aK (f:=130) rfl ?_);refine bU (some 17) rfl rfl Tryz.func130 aq rfl #[.string t103] rfl cz ?_;(with_reducible refine (fI.calls t103 t106 _ ?aT A4.out).mono ?_);(case aT=>exact aJ.below HG.out bG);rintro e Hq ⟨rfl,hb⟩;refine ⟨_,rfl,?_⟩;replace HB:=aa.mk (aA bG hb);(try clear hb)))
   go_ret
   exact ⟨cH,bG⟩
 ·replace c5:=Bool.eq_false_iff.mpr c5
  subst c5
  rw [if_neg (show ¬ (false=true) by decide)] at H
  obtain rfl:=Option.some.inj H
  go_enter Tryz.func82,Tryz.ntmps82
  go_wp2_with (first|((with_reducible refine aK (f:=91) rfl ?_);refine bU (some 10) rfl rfl Tryz.func91 aq rfl #[.string a0,.string (⟨#[58,58]⟩:ByteArray)] rfl cz ?_;(with_reducible refine (strings_Cut.calls a0 (⟨#[58,58]⟩:ByteArray) t102 t103 false _ ?aT A2.out).mono ?_);(case aT=>exact aJ.below HG.out bG);rintro e w' ⟨rfl,⟨nd,rfl⟩⟩;refine ⟨_,rfl,?_⟩)|((with_reducible refine aK (f:=130) rfl ?_);refine bU (some 15) rfl rfl Tryz.func130 aq rfl #[.string t102] rfl cz ?_;(with_reducible refine (fI.calls t102 t105 _ ?aT A3.out).mono ?_);(case aT=>exact aJ.below HG.out bG);rintro e w14 ⟨rfl,hb⟩;refine ⟨_,rfl,?_⟩;replace HB:=aa.mk (aA bG hb);(try clear hb))|((with_reducible refine aK (f:=130) rfl ?_);refine bU (some 17) rfl rfl Tryz.func130 aq rfl #[.string t103] rfl cz ?_;(with_reducible refine (fI.calls t103 t106 _ ?aT A4.out).mono ?_);(case aT=>exact aJ.below HG.out bG);rintro e QX ⟨rfl,hb⟩;refine ⟨_,rfl,?_⟩;replace HB:=aa.mk (aA bG hb);(try clear hb)))
  go_ret
  exact ⟨cH,bG⟩
def aI.l0:Nat→List ByteArray→Int→Int→Option (Int)
 | 0,_,_,_ =>none
 |k + 1,x0,x7,x8=>if x8 < x7 then (if 0≤x8 then (if x8 < (x0.length:Int) then ((gF.f (cV ByteArray.empty x0 x8)).bind fun t108=>(if t108=true then (some x8) else (aI.l0 k x0 x7 (wrap64 (x8 + 1))))) else (none)) else (none)) else (some (-1))
def aI.f (k:Nat) (l0:List ByteArray):Option (Int):=aI.l0 k l0 (l0.length:Int) 0
theorem aI.dF:∀ k,(∀ y0 y1 y2,bL (aI.l0 k y0 y1 y2) (aI.l0 (k + 1) y0 y1 y2))
 | 0=>fun _ _ _ r h=>by simp [aI.l0] at h
 |k + 1=>by
  have fV:=aI.dF k
  ·intro y0 y1 y2
   unfold aI.l0
   repeat' first
   |(with_reducible first|exact fV _ _ _|exact bL.refl _|exact bL.none _|refine bL.ite ?_ ?_|refine bL.bind ?_ (fun _ =>?_))
   |exact fV _ _ _
   |exact bL.none _
   |refine bL.ite ?_ ?_
   |refine bL.bind ?_ (fun _ =>?_)
theorem aI.mono:∀ a0 k,bL (aI.f k a0) (aI.f (k + 1) a0):=by
 intro a0 k
 have fV:=aI.dF k
 unfold aI.f
 repeat' first
  |(with_reducible first|exact fV _ _ _|exact bL.refl _|exact bL.none _|refine bL.ite ?_ ?_|refine bL.bind ?_ (fun _ =>?_))
  |exact fV _ _ _
  |exact bL.none _
  |refine bL.ite ?_ ?_
  |refine bL.bind ?_ (fun _ =>?_)
theorem aI.calls (k:Nat) (A0:Option Addr) (c0:Nat) (l0:List ByteArray) (r:Int) (w:World) (Dn:Kd.C Kd.string w A0 l0.length l0) (hc0:l0.length≤c0) (hG:aJ w) (h:aI.f k l0=some r):
 Calls Tryz.prog 117 #[.slice A0 l0.length c0,.func (.func 83) #[] #[]] w fun e w'=>e= .returned (.int .i64 r)∧Below w.heap.size w w':=by
 have Ce:=aa.mk Dn
 have Vs:=aa.mk hc0
 clear Dn hc0
 have HB:=aa.mk (Below.refl w.heap.size w)
 have HG:=aa.mk hG
 clear hG
 have H:(aI.l0 k l0 (l0.length:Int) 0)=some r:=h
 clear h
 have H':=aa.mk H
 clear H
 go_enter Tryz.func117,Tryz.ntmps117
 go_wp2
 go_loopg [8] k (fun kq v8 w'=>∃ (jl:Int),v8= .int .i64 jl∧aa (aI.l0 kq l0 (l0.length:Int) jl=some r)∧aa (kq≤k)∧aa (Below w.heap.size w w'))
 case atStart=>exact ⟨(0),b9,H',⟨Nat.le_refl _⟩,⟨bG⟩⟩
 case round=>
  clear H'
  obtain ⟨jl,rfl,HA,p9,HB⟩:=hrel
  cases gk with
  |zero=>exact absurd HA.out (by simp [aI.l0])
  |succ k1=>
   have H:=HA.out
   clear HA
   simp only [aI.l0] at H
   by_cases c3:jl < (l0.length:Int)
   ·rw [if_pos c3] at H
    have mg:=decide_eq_true c3
    clear c3
    obtain ⟨c4,H⟩:=iA H
    have nB:=decide_eq_true c4
    clear c4
    obtain ⟨c5,H⟩:=iA H
    have lF:=decide_eq_true c5
    clear c5
    obtain ⟨t108,A6,H⟩:=bd_ H
    by_cases c7:t108=true
    ·subst c7
     rw [if_pos rfl] at H
     obtain rfl:=Option.some.inj H
     have N4: 0≤(jl:Int):=of_decide_eq_true bp
     have N5:jl < (l0.length:Int):=of_decide_eq_true bp
     obtain ⟨afB,adk,uX⟩:=Kd.cY Ce.out jl N4 N5
     cases adk
     replace uX:=(HB.out.cell (World.block_lt_of_cell? w _ uX)).trans uX
     replace N4:=eq_true N4
     replace N5:=eq_true N5
     go_wp2_with (first|(go_at_call 83;(with_reducible refine (gF.calls (cV ByteArray.empty l0 jl) true _ ?aT A6.out).mono ?_);(case aT=>exact aJ.below HG.out bG);rintro e w8 ⟨rfl,hb⟩;replace HB:=aa.mk (aA bG hb);(try clear hb)))
     go_ret
     exact ⟨cH,bG⟩
    ·replace c7:=Bool.eq_false_iff.mpr c7
     subst c7
     rw [if_neg (show ¬ (false=true) by decide)] at H
     have H':=aa.mk H
     clear H
     have N4: 0≤(jl:Int):=of_decide_eq_true bp
     have N5:jl < (l0.length:Int):=of_decide_eq_true bp
     obtain ⟨afB,adk,uX⟩:=Kd.cY Ce.out jl N4 N5
     cases adk
     replace uX:=(HB.out.cell (World.block_lt_of_cell? w _ uX)).trans uX
     replace N4:=eq_true N4
     replace N5:=eq_true N5
     go_wp2_with (first|(go_at_call 83;(with_reducible refine (gF.calls (cV ByteArray.empty l0 jl) false _ ?aT A6.out).mono ?_);(case aT=>exact aJ.below HG.out bG);rintro e w9 ⟨rfl,hb⟩;replace HB:=aa.mk (aA bG hb);(try clear hb)))
     go_roundg k1
     case measure=>have:=p9.out;omega
     case rel=>exact ⟨(wrap64 (jl + 1)),b9,H',⟨je⟩,⟨bG⟩⟩
   ·rw [if_neg c3] at H
    have mg:=decide_eq_false c3
    clear c3
    obtain rfl:=Option.some.inj H
    go_wp2
    go_ret
    exact ⟨cH,bG⟩
def bC.f (k:Nat) (l0:List ByteArray):Option (Bool):=(aI.f k l0).bind fun t109=>(some (decide (t109≥0)))
theorem bC.mono:∀ a0 k,bL (bC.f k a0) (bC.f (k + 1) a0):=by
 intro a0 k
 unfold bC.f
 repeat' first
  |(with_reducible first|exact aI.mono _ _|exact bL.refl _|exact bL.none _|refine bL.ite ?_ ?_|refine bL.bind ?_ (fun _ =>?_))
  |exact aI.mono _ _
  |exact bL.none _
  |refine bL.ite ?_ ?_
  |refine bL.bind ?_ (fun _ =>?_)
theorem bC.calls (k:Nat) (A0:Option Addr) (c0:Nat) (l0:List ByteArray) (r:Bool) (w:World) (Dn:Kd.C Kd.string w A0 l0.length l0) (hc0:l0.length≤c0) (hG:aJ w) (h:bC.f k l0=some r):
 Calls Tryz.prog 59 #[.slice A0 l0.length c0,.func (.func 83) #[] #[]] w fun e w'=>e= .returned (.bool r)∧Below w.heap.size w w':=by
 have Ce:=aa.mk Dn
 have Vs:=aa.mk hc0
 clear Dn hc0
 have HB:=aa.mk (Below.refl w.heap.size w)
 have HG:=aa.mk hG
 clear hG
 have H:((aI.f k l0).bind fun t109=>(some (decide (t109≥0))))=some r:=h
 clear h
 obtain ⟨t109,A3,H⟩:=bd_ H
 obtain rfl:=Option.some.inj H
 go_enter Tryz.func59,Tryz.ntmps59
 go_wp2_with (first|((with_reducible refine aK (f:=117) rfl ?_);refine bU (some 7) rfl rfl Tryz.func117 aq rfl #[.slice A0 l0.length c0,.func (.func 83) #[] #[]] rfl cz ?_;(with_reducible refine (aI.calls k _ _ l0 t109 _ ?aT ?cw ?fO A3.out).mono ?_);(case aT=>repeat (first|exact Ce.out|(with_reducible refine Kd.jg ?_ _)|(with_reducible refine Kd.jh ?_ _)|(with_reducible refine Kd.kL ?_)));(case cw=>exact Vs.out);(case fO=>exact aJ.below HG.out bG);rintro e w4 ⟨rfl,hb⟩;refine ⟨_,rfl,?_⟩;replace HB:=aa.mk (aA bG hb);(try clear hb)))
 go_ret
 exact ⟨cH,bG⟩
def cI.j0:Nat→ByteArray→Bool→Option (Bool)
 | 0,_,_ =>none
 |k + 1,x0,x12=>if x12=true then (if 5≤(x0.size:Int) then ((qQ.f (x0.extract 5 x0.size)).bind fun t111=>(some t111)) else (none)) else ((strings_Split.f x0 (⟨#[46]⟩:ByteArray)).bind fun t112=>(if (t112.length:Int)=4 then ((bC.f k t112).bind fun t115=>(some (!t115))) else (some false)))
def cI.f (k:Nat) (a0:ByteArray):Option (Bool):=if (a0.size:Int) > 5 then (if 0≤5 then (if 5≤(a0.size:Int) then ((cS.f (a0.extract 0 5)).bind fun t110=>(cI.j0 k a0 (t110.toList == ([105,112,118,54,58]:List UInt8)))) else (none)) else (none)) else (cI.j0 k a0 false)
theorem cI.dF:∀ k,(∀ y0 y1,bL (cI.j0 k y0 y1) (cI.j0 (k + 1) y0 y1))
 | 0=>fun _ _ r h=>by simp [cI.j0] at h
 |k + 1=>by
  have fV:=cI.dF k
  ·intro y0 y1
   unfold cI.j0
   repeat' first
   |(with_reducible first|exact fV _ _|exact bC.mono _ _|exact bL.refl _|exact bL.none _|refine bL.ite ?_ ?_|refine bL.bind ?_ (fun _ =>?_))
   |exact fV _ _
   |exact bC.mono _ _
   |exact bL.none _
   |refine bL.ite ?_ ?_
   |refine bL.bind ?_ (fun _ =>?_)
theorem cI.mono:∀ a0 k,bL (cI.f k a0) (cI.f (k + 1) a0):=by
 intro a0 k
 have fV:=cI.dF k
 unfold cI.f
 repeat' first
  |(with_reducible first|exact fV _ _|exact bC.mono _ _|exact bL.refl _|exact bL.none _|refine bL.ite ?_ ?_|refine bL.bind ?_ (fun _ =>?_))
  |exact fV _ _
  |exact bC.mono _ _
  |exact bL.none _
  |refine bL.ite ?_ ?_
  |refine bL.bind ?_ (fun _ =>?_)
theorem cI.calls (k:Nat) (a0:ByteArray) (r:Bool) (w:World) (hG:aJ w) (h:cI.f k a0=some r):
 Calls Tryz.prog 27 #[.string a0] w fun e w'=>e= .returned (.bool r)∧Below w.heap.size w w':=by
 have HB:=aa.mk (Below.refl w.heap.size w)
 have HG:=aa.mk hG
 clear hG
 have H:(if (a0.size:Int) > 5 then (if 0≤5 then (if 5≤(a0.size:Int) then ((cS.f (a0.extract 0 5)).bind fun t110=>(cI.j0 k a0 (t110.toList == ([105,112,118,54,58]:List UInt8)))) else (none)) else (none)) else (cI.j0 k a0 false))=some r:=h
 clear h
 have LI:=aa.mk H
 clear H
 go_enter Tryz.func27,Tryz.ntmps27
 go_upto_region 1 with (fail)
 go_cut [12] (fun v12 wc=>∃ (kq:Nat) (AJ:Bool),v12= .bool AJ∧aa (cI.j0 kq a0 AJ=some r)∧aa (kq≤k)∧aa (Below w.heap.size w wc))
 case first=>
  have H:=LI.out
  clear LI
  by_cases c3:(a0.size:Int) > 5
  ·rw [if_pos c3] at H
   have mg:decide (5 < (a0.size:Int))=true:=decide_eq_true c3
   have E7:decide (5 < a0.size)=true:=decide_eq_true ak
   clear c3
   (first|rw [mg]|(simp only [cU,dh];rw [mg])|skip)
   obtain ⟨c4,H⟩:=iA H
   have nB:=eq_true c4
   have LJ:=decide_eq_true c4
   clear c4
   obtain ⟨c5,H⟩:=iA H
   have lF:=eq_true c5
   have Cf:=decide_eq_true c5
   clear c5
   obtain ⟨t110,A6,H⟩:=bd_ H
   have H':=aa.mk H
   clear H
   go_wp2_with (first|(go_at_call 81;(with_reducible refine (cS.calls (a0.extract 0 5) t110 _ A6.out).mono ?_);rintro e w7 ⟨rfl,hb⟩;replace HB:=aa.mk (aA bG hb);(try clear hb)))
   go_meet
   case rel=>exact ⟨_,((t110.toList == ([105,112,118,54,58]:List UInt8))),b9,H',⟨iT⟩,⟨bG⟩⟩
  ·rw [if_neg c3] at H
   have mg:decide (5 < (a0.size:Int))=false:=decide_eq_false c3
   have E7:decide (5 < a0.size)=false:=decide_eq_false ak
   clear c3
   (first|rw [mg]|(simp only [cU,dh];rw [mg])|skip)
   have H':=aa.mk H
   clear H
   go_wp2
   go_meet
   case rel=>exact ⟨_,(false),b9,H',⟨iT⟩,⟨bG⟩⟩
 case rest=>
  clear LI
  obtain ⟨kq,AJ,rfl,HA,NM,HB⟩:=hcut
  cases kq with
  |zero=>exact absurd HA.out (by simp [cI.j0])
  |succ Dp=>
   have H:=HA.out
   clear HA
   simp only [cI.j0] at H
   by_cases c8:AJ=true
   ·subst c8
    rw [if_pos rfl] at H
    obtain ⟨c9,H⟩:=iA H
    have Cg:=eq_true c9
    have TB:=decide_eq_true c9
    clear c9
    obtain ⟨t111,Vt,H⟩:=bd_ H
    obtain rfl:=Option.some.inj H
    go_wp2_with (first|((with_reducible refine aK (f:=82) rfl ?_);refine bU (some 15) rfl rfl Tryz.func82 aq rfl #[.string (a0.extract 5 a0.size)] rfl cz ?_;(with_reducible refine (qQ.calls (a0.extract 5 a0.size) t111 _ ?aT Vt.out).mono ?_);(case aT=>exact aJ.below HG.out bG);rintro e UJ ⟨rfl,hb⟩;refine ⟨_,rfl,?_⟩;replace HB:=aa.mk (aA bG hb);(try clear hb)))
    go_ret
    exact ⟨cH,bG⟩
   ·replace c8:=Bool.eq_false_iff.mpr c8
    subst c8
    rw [if_neg (show ¬ (false=true) by decide)] at H
    obtain ⟨t112,G1,H⟩:=bd_ H
    by_cases c13:(t112.length:Int)=4
    ·rw [if_pos c13] at H
     have vW:=beq_iff_eq.mpr c13
     have Fb:=bne_eq_false_iff_eq.mpr c13
     clear c13
     obtain ⟨t115,UK,H⟩:=bd_ H
     obtain rfl:=Option.some.inj H
     go_wp2_with (first|((with_reducible refine aK (f:=75) rfl ?_);refine bU (some 17) rfl rfl Tryz.func75 aq rfl #[.string a0,.string (⟨#[46]⟩:ByteArray)] rfl cz ?_;(with_reducible refine (strings_Split.calls a0 (⟨#[46]⟩:ByteArray) t112 _ ?aT G1.out).mono ?_);(case aT=>exact aJ.below HG.out bG);rintro e QX ⟨aoZ,rfl,ho0,hb⟩;refine ⟨_,rfl,?_⟩;have Fe:=aa.mk (Kd.kD ho0 (dm bG));replace HB:=aa.mk (aA bG hb);(try clear hb);(try clear ho0);obtain ⟨au6,au7,ao0⟩:=Kd.gQ Fe.out;subst ao0)|(go_at_call 59;(with_reducible refine (bC.calls Dp _ _ t112 t115 _ ?aT ?cw ?fO UK.out).mono ?_);(case aT=>repeat (first|exact (Kd.cP Fe.out).2.2|(with_reducible refine Kd.jg ?_ _)|(with_reducible refine Kd.jh ?_ _)|(with_reducible refine Kd.kL ?_)));(case cw=>exact (Kd.cP Fe.out).2.1);(case fO=>exact aJ.below HG.out bG);rintro e w17 ⟨rfl,hb⟩;replace Fe:=aa.mk (Kd.ck (by (with_reducible repeat (first|apply Kd.dQ|apply Kd.dR|apply Kd.dV));exact Fe.out) hb);replace HB:=aa.mk (aA bG hb);(try clear hb)))
     go_ret
     exact ⟨cH,bG⟩
    ·rw [if_neg c13] at H
     have vW:=beq_eq_false_iff_ne.mpr c13
     have Fb:=bne_iff_ne.mpr c13
     obtain rfl:=Option.some.inj H
     go_wp2_with (first|((with_reducible refine aK (f:=75) rfl ?_);refine bU (some 17) rfl rfl Tryz.func75 aq rfl #[.string a0,.string (⟨#[46]⟩:ByteArray)] rfl cz ?_;(with_reducible refine (strings_Split.calls a0 (⟨#[46]⟩:ByteArray) t112 _ ?aT G1.out).mono ?_);(case aT=>exact aJ.below HG.out bG);rintro e w18 ⟨aoZ,rfl,ho0,hb⟩;refine ⟨_,rfl,?_⟩;have Fe:=aa.mk (Kd.kD ho0 (dm bG));replace HB:=aa.mk (aA bG hb);(try clear hb);(try clear ho0);obtain ⟨Tk,NJ,adl⟩:=Kd.gQ Fe.out;subst adl))
     go_ret
     exact ⟨cH,bG⟩
def jS.f (a0:Int):Option (Bool):=if a0≥97 then (if a0≤122 then (some true) else (if a0≥65 then (some (decide (a0≤90))) else (some false))) else (if a0≥65 then (some (decide (a0≤90))) else (some false))
theorem jS.calls (a0:Int) (r:Bool) (w:World) (h:jS.f a0=some r):
 Calls Tryz.prog 157 #[.int .u8 a0] w fun e w'=>e= .returned (.bool r)∧iC w w':=by
 have H:(if a0≥97 then (if a0≤122 then (some true) else (if a0≥65 then (some (decide (a0≤90))) else (some false))) else (if a0≥65 then (some (decide (a0≤90))) else (some false)))=some r:=h
 clear h
 by_cases c2:a0≥97
 ·rw [if_pos c2] at H
  have sP:decide (97≤a0)=true:=decide_eq_true c2
  clear c2
  by_cases c3:a0≤122
  ·rw [if_pos c3] at H
   have mg:=decide_eq_true c3
   clear c3
   obtain rfl:=Option.some.inj H
   go_enter Tryz.func157,Tryz.ntmps157
   go_wp2
   go_ret
   exact ⟨b9,dJ⟩
  ·rw [if_neg c3] at H
   have mg:=decide_eq_false c3
   clear c3
   by_cases c4:a0≥65
   ·rw [if_pos c4] at H
    have nB:decide (65≤a0)=true:=decide_eq_true c4
    clear c4
    obtain rfl:=Option.some.inj H
    go_enter Tryz.func157,Tryz.ntmps157
    go_wp2
    go_ret
    exact ⟨b9,dJ⟩
   ·rw [if_neg c4] at H
    have nB:decide (65≤a0)=false:=decide_eq_false c4
    clear c4
    obtain rfl:=Option.some.inj H
    go_enter Tryz.func157,Tryz.ntmps157
    go_wp2
    go_ret
    exact ⟨b9,dJ⟩
 ·rw [if_neg c2] at H
  have sP:decide (97≤a0)=false:=decide_eq_false c2
  clear c2
  by_cases c5:a0≥65
  ·rw [if_pos c5] at H
   have lF:decide (65≤a0)=true:=decide_eq_true c5
   clear c5
   obtain rfl:=Option.some.inj H
   go_enter Tryz.func157,Tryz.ntmps157
   go_wp2
   go_ret
   exact ⟨b9,dJ⟩
  ·rw [if_neg c5] at H
   have lF:decide (65≤a0)=false:=decide_eq_false c5
   clear c5
   obtain rfl:=Option.some.inj H
   go_enter Tryz.func157,Tryz.ntmps157
   go_wp2
   go_ret
   exact ⟨b9,dJ⟩
end Go.Proofs.YtokpnfljjjjikaaGreatDoor.mY
