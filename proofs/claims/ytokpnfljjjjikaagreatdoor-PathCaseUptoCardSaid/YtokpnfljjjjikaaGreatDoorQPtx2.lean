import Derived.Test.YtokpnfljjjjikaaGreatDoorESlim
import Derived.Test.YtokpnfljjjjikaaGreatDoorQPtx0
import Derived.Test.YtokpnfljjjjikaaGreatDoorELit
import Derived.Test.YtokpnfljjjjikaaGreatDoorESmall
set_option maxHeartbeats 8000000
set_option maxRecDepth 100000
namespace Go.Proofs.YtokpnfljjjjikaaGreatDoor.lO
open Go.RowKit Go.Proofs.YtokpnfljjjjikaaGreatDoor.sL Go.Proofs.aj.bw Go.Proofs.aj.eU Go.Proofs.aj.cj
attribute [local go_sem] gL gM iL iM fZ gf gP gQ
set_option linter.unusedVariables false
set_option linter.unusedSimpArgs false
def stringslite_HasPrefix.f (a0:ByteArray) (a1:ByteArray):Option (Bool):=if (a0.size:Int)≥(a1.size:Int) then (if 0≤(a1.size:Int) then (if (a1.size:Int)≤(a0.size:Int) then (some ((a0.extract 0 ((a1.size:Int):Int).toNat).toList == a1.toList)) else (none)) else (none)) else (some false)
theorem stringslite_HasPrefix.calls (a0:ByteArray) (a1:ByteArray) (r:Bool) (w:World) (h:stringslite_HasPrefix.f a0 a1=some r):
 Calls Tryz.prog 98 #[.string a0,.string a1] w fun e w'=>e= .returned (.bool r)∧fV w w':=by
 have H:(if (a0.size:Int)≥(a1.size:Int) then (if 0≤(a1.size:Int) then (if (a1.size:Int)≤(a0.size:Int) then (some ((a0.extract 0 ((a1.size:Int):Int).toNat).toList == a1.toList)) else (none)) else (none)) else (some false))=some r:=h
 clear h
 by_cases c3:(a0.size:Int)≥(a1.size:Int)
 ·rw [if_pos c3] at H
  have mh:decide ((a1.size:Int)≤(a0.size:Int))=true:=decide_eq_true c3
  have CV:decide (a1.size≤a0.size)=true:=decide_eq_true (Int.ofNat_le.mp c3)
  clear c3
  obtain ⟨c4,H⟩:=jA H
  have nj:=eq_true c4
  have IK:=decide_eq_true c4
  clear c4
  obtain ⟨c5,H⟩:=jA H
  have pG:=eq_true c5
  have K5:=decide_eq_true c5
  clear c5
  obtain rfl:=Option.some.inj H
  go_enter Tryz.func98,Tryz.ntmps98
  go_wp2
  go_ret
  exact ⟨dG,iw⟩
 ·rw [if_neg c3] at H
  have mh:decide ((a1.size:Int)≤(a0.size:Int))=false:=decide_eq_false c3
  have CV:decide (a1.size≤a0.size)=false:=decide_eq_false (fun h=>c3 (Int.ofNat_le.mpr h))
  clear c3
  obtain rfl:=Option.some.inj H
  go_enter Tryz.func98,Tryz.ntmps98
  go_wp2
  go_ret
  exact ⟨dG,iw⟩
def strings_HasPrefix.f (a0:ByteArray) (a1:ByteArray):Option (Bool):=(stringslite_HasPrefix.f a0 a1).bind fun t101=>(some t101)
theorem strings_HasPrefix.calls (a0:ByteArray) (a1:ByteArray) (r:Bool) (w:World) (h:strings_HasPrefix.f a0 a1=some r):
 Calls Tryz.prog 37 #[.string a0,.string a1] w fun e w'=>e= .returned (.bool r)∧fV w w':=by
 have H:((stringslite_HasPrefix.f a0 a1).bind fun t101=>(some t101))=some r:=h
 clear h
 obtain ⟨t101,A3,H⟩:=bd_ H
 obtain rfl:=Option.some.inj H
 go_enter Tryz.func37,Tryz.ntmps37
 go_wp2_with (first|((with_reducible refine aU (f:=98) rfl ?_);refine bY (some 7) rfl rfl Tryz.func98 ay rfl #[.string a0,.string a1] rfl cr ?_;(with_reducible refine (stringslite_HasPrefix.calls a0 a1 t101 _ A3.out).mono ?_);rintro e w' ⟨rfl,⟨nd,rfl⟩⟩;refine ⟨_,rfl,?_⟩))
 go_ret
 exact ⟨dG,iw⟩
def aq (w0 W:World) (g:Nat) (f0:ByteArray) (f1:Int):Prop:=W.heap[g]? =some (.cells #[.string f0,.int .i64 f1] 82 (0,0))∧w0.heap.size≤g
theorem aq.grown {w0 W:World} {g:Nat} {f0:ByteArray} {f1:Int} {W1:World} {row:Option Nat} (h:aq w0 W g f0 f1) (hw:W.grownBy W1 row) (hne:some g≠row):aq w0 W1 g f0 f1:=by
 obtain ⟨hb,hg⟩:=h
 exact ⟨mC hb hw hne,hg⟩
theorem aq.kept {w0 W:World} {g:Nat} {f0:ByteArray} {f1:Int} {W1:World} {S:Nat→Prop} (h:aq w0 W g f0 f1) (hk:Kept W W1 S) (hne: ¬ S g):aq w0 W1 g f0 f1:=by
 obtain ⟨hb,hg⟩:=h
 exact ⟨ID hb hk hne,hg⟩
theorem aq.below {w0 W:World} {g:Nat} {f0:ByteArray} {f1:Int} {W1:World} (h:aq w0 W g f0 f1) (hw:Below W.heap.size W W1):aq w0 W1 g f0 f1:=h.grown (o7 hw none) bB
theorem aq.alloc {w0 W:World} {g:Nat} {f0:ByteArray} {f1:Int} (h:aq w0 W g f0 f1) (o:Obj):aq w0 (W.alloc o) g f0 f1:=h.below (aJ (Below.refl _ _) o)
theorem aq.drewN {w0 W:World} {g:Nat} {f0:ByteArray} {f1:Int} (h:aq w0 W g f0 f1) (m:Nat):aq w0 (W.drewN m) g f0 f1:=h
theorem aq.drew {w0 W:World} {g:Nat} {f0:ByteArray} {f1:Int} (h:aq w0 W g f0 f1):aq w0 W.drew g f0 f1:=h
theorem aq.at_ {w0 W:World} {g:Nat} {f0:ByteArray} {f1:Int} {w':World} {m:Nat} (hq:W.drewN m=w') (h:aq w0 W g f0 f1):aq w0 w' g f0 f1:=by subst hq;exact aq.drewN h m
theorem aq.apart {w0 W:World} {g:Nat} {f0:ByteArray} {f1:Int} {α:Type} {d:Kd α} {e:Nat} {base:Nat} {ok:Nat→Prop} {v:Value} {xs:List α} (h:aq w0 W g f0 f1) (ho:d.R e W base ok v xs) (ht:∀ q,q∈e :: d.E→q≠82):d.R e W base (fun k=>ok k∧k≠g) v xs:=by
 obtain ⟨hb,hg⟩:=h
 exact Kd.kA ho hb ht
theorem aq.own_ne {w0 W:World} {g:Nat} {f0:ByteArray} {f1:Int} {α:Type} {d:Kd α} {e:Nat} {base:Nat} {ok:Nat→Prop} {v:Value} {xs:List α} (h:aq w0 W g f0 f1) (ho:d.R e W base ok v xs) (ht:e≠82):some g≠v.ownBlock:=by
 obtain ⟨hb,hg⟩:=h
 exact Kd.Gq ho hb ht
theorem aq.lt {w0 W:World} {g:Nat} {f0:ByteArray} {f1:Int} (h:aq w0 W g f0 f1):g < W.heap.size:=by
 obtain ⟨hb,hg⟩:=h
 exact jd hb
theorem aq.ge {w0 W:World} {g:Nat} {f0:ByteArray} {f1:Int} (h:aq w0 W g f0 f1):w0.heap.size≤g:=by
 obtain ⟨hb,hg⟩:=h
 exact hg
theorem aq.kS {w0 W:World} {g:Nat} {f0:ByteArray} {f1:Int} {a:Nat} {cs:Array Value} {t:TypeId} {fr:Nat×Nat} (h:aq w0 W g f0 f1) (hb2:W.heap[a]? =some (.cells cs t fr)) (ht:t≠82):g≠a:=by
 obtain ⟨hb,hg⟩:=h
 rintro rfl
 rw [hb] at hb2
 injection hb2 with hb2
 injection hb2 with _ ht2
 exact ht ht2.symm
theorem aq.far {w0 W:World} {g:Nat} {f0:ByteArray} {f1:Int} {p:Addr} (h:aq w0 W g f0 f1) (hne:g≠p.block) (u:Value):aq w0 (W.setCell p u) g f0 f1:=by
 obtain ⟨hb,hg⟩:=h
 exact ⟨dU hb hne u,hg⟩
theorem cH {W:World} {g:Nat} {f0:ByteArray} {f1:Int} (h:W.heap[g]? =some (.cells #[.string f0,.int .i64 f1] 82 (0,0))):W.cell? ⟨g,0,none⟩=some (.string f0):=(ah h 0).trans rfl
theorem aq.dR {w0 W:World} {g:Nat} {f0:ByteArray} {f1:Int} (h:aq w0 W g f0 f1) (x:ByteArray):aq w0 (W.setCell ⟨g,0,none⟩ (.string x)) g x f1:=by
 obtain ⟨hb,hg⟩:=h
 exact ⟨by simpa using uA hb 0 (.string x),hg⟩
theorem cG {W:World} {g:Nat} {f0:ByteArray} {f1:Int} (h:W.heap[g]? =some (.cells #[.string f0,.int .i64 f1] 82 (0,0))):W.cell? ⟨g,1,none⟩=some (.int .i64 f1):=(ah h 1).trans rfl
theorem aq.dQ {w0 W:World} {g:Nat} {f0:ByteArray} {f1:Int} (h:aq w0 W g f0 f1) (x:Int):aq w0 (W.setCell ⟨g,1,none⟩ (.int .i64 x)) g f0 x:=by
 obtain ⟨hb,hg⟩:=h
 exact ⟨by simpa using uA hb 1 (.int .i64 x),hg⟩
def bu.f (dm:ByteArray) (cP:Int) (a1:Int):Option (Bool×ByteArray×Int):=if cP < (dm.size:Int) then (if 0≤cP then (if (bt dm cP)=a1 then (some (true,dm,wrap64 (cP + 1))) else (some (false,dm,cP))) else (none)) else (some (false,dm,cP))
theorem bu.calls (g:Nat) (dm:ByteArray) (cP:Int) (a1:Int) (r1:Bool) (r2:ByteArray) (r3:Int) (w0 w:World) (hI:aq w0 w g dm cP) (hB:Below w0.heap.size w0 w) (h:bu.f dm cP a1=some (r1,r2,r3)):
 Calls Tryz.prog 56 #[.pointer (some ⟨g,0,none⟩),.int .u8 a1] w fun e w'=>e= .returned (.bool r1)∧aq w0 w' g r2 r3∧Below w0.heap.size w0 w'∧bh w w' g none:=by
 have cV:=af.mk hI
 have HK:=af.mk (bh.refl w g none)
 have HL:=af.mk hB.size
 clear hI
 have Hp:=af.mk hB.size
 have HB:=af.mk hB
 clear hB
 have H:(if cP < (dm.size:Int) then (if 0≤cP then (if (bt dm cP)=a1 then (some (true,dm,wrap64 (cP + 1))) else (some (false,dm,cP))) else (none)) else (some (false,dm,cP)))=some (r1,r2,r3):=h
 clear h
 by_cases c3:cP < (dm.size:Int)
 ·rw [if_pos c3] at H
  have mh:=decide_eq_true c3
  clear c3
  obtain ⟨c4,H⟩:=jA H
  have nj:=decide_eq_true c4
  clear c4
  by_cases c6:(bt dm cP)=a1
  ·rw [if_pos c6] at H
   have qo:=beq_iff_eq.mpr c6
   have CW:=bne_eq_false_iff_eq.mpr c6
   clear c6
   simp only [Option.some.injEq,Prod.mk.injEq] at H
   obtain ⟨rfl,rfl,rfl⟩:=H
   obtain ⟨vA,OA⟩:=cV.out
   have IL:=cH vA
   have IM:=cG vA
   have IP:=aa vA 0
   have IQ:=aa vA 1
   clear vA OA
   have p5: 0≤(cP:Int):=of_decide_eq_true cE
   have q5:cP < (dm.size:Int):=of_decide_eq_true cE
   have hx5:=iW dm cP
   replace p5:=eq_true p5
   replace q5:=eq_true q5
   go_enter Tryz.func56,Tryz.ntmps56
   go_wp2
   repeat (go_quiet (fail);try go_wp2)
   go_ret
   exact ⟨cM,fk,eZ,cZ⟩
  ·rw [if_neg c6] at H
   have qo:=beq_eq_false_iff_ne.mpr c6
   have CW:=bne_iff_ne.mpr c6
   simp only [Option.some.injEq,Prod.mk.injEq] at H
   obtain ⟨rfl,rfl,rfl⟩:=H
   obtain ⟨vB,OB⟩:=cV.out
   have vC:=cH vB
   have vD:=cG vB
   have vE:=aa vB 0
   have vF:=aa vB 1
   clear vB OB
   have p5: 0≤(cP:Int):=of_decide_eq_true cE
   have q5:cP < (dm.size:Int):=of_decide_eq_true cE
   have hx5:=iW dm cP
   replace p5:=eq_true p5
   replace q5:=eq_true q5
   go_enter Tryz.func56,Tryz.ntmps56
   go_wp2
   repeat (go_quiet (fail);try go_wp2)
   go_ret
   exact ⟨cM,fk,eZ,cZ⟩
 ·rw [if_neg c3] at H
  have mh:=decide_eq_false c3
  clear c3
  simp only [Option.some.injEq,Prod.mk.injEq] at H
  obtain ⟨rfl,rfl,rfl⟩:=H
  obtain ⟨kD,zx⟩:=cV.out
  have nM:=cH kD
  have nN:=cG kD
  have nO:=aa kD 0
  have nP:=aa kD 1
  clear kD zx
  go_enter Tryz.func56,Tryz.ntmps56
  go_wp2
  repeat (go_quiet (fail);try go_wp2)
  go_ret
  exact ⟨cM,fk,eZ,cZ⟩
def lC.f (a0:ByteArray):Option (Bool):=(strings_Cut.f a0 (⟨#[58,58]⟩:ByteArray)).bind fun vG=>((dA.f vG.1).bind fun t105=>((dA.f vG.2.1).bind fun t106=>(if vG.2.2=true then (if t105≥0 then (if t106≥0 then (some (decide ((wrap64 (t105 + t106))≤6))) else (some false)) else (some false)) else (some (t105 == 8)))))
theorem lC.calls (a0:ByteArray) (r:Bool) (w:World) (hG:aQ w) (h:lC.f a0=some r):
 Calls Tryz.prog 82 #[.string a0] w fun e w'=>e= .returned (.bool r)∧Below w.heap.size w w':=by
 have HB:=af.mk (Below.refl w.heap.size w)
 have HG:=af.mk hG
 clear hG
 have H:((strings_Cut.f a0 (⟨#[58,58]⟩:ByteArray)).bind fun vG=>((dA.f vG.1).bind fun t105=>((dA.f vG.2.1).bind fun t106=>(if vG.2.2=true then (if t105≥0 then (if t106≥0 then (some (decide ((wrap64 (t105 + t106))≤6))) else (some false)) else (some false)) else (some (t105 == 8))))))=some r:=h
 clear h
 obtain ⟨⟨t102,t103,t104⟩,A2,H⟩:=bd_ H
 (try dsimp only at H)
 obtain ⟨t105,A3,H⟩:=bd_ H
 obtain ⟨t106,A4,H⟩:=bd_ H
 by_cases c5:t104=true
 ·subst c5
  rw [if_pos rfl] at H
  by_cases c6:t105≥0
  ·rw [if_pos c6] at H
   have qo:decide (0≤t105)=true:=decide_eq_true c6
   clear c6
   by_cases c7:t106≥0
   ·rw [if_pos c7] at H
    have aao:decide (0≤t106)=true:=decide_eq_true c7
    clear c7
    obtain rfl:=Option.some.inj H
    go_enter Tryz.func82,Tryz.ntmps82
    go_wp2_with (first|((with_reducible refine aU (f:=91) rfl ?_);refine bY (some 10) rfl rfl Tryz.func91 ay rfl #[.string a0,.string (⟨#[58,58]⟩:ByteArray)] rfl cr ?_;(with_reducible refine (strings_Cut.calls a0 (⟨#[58,58]⟩:ByteArray) t102 t103 true _ ?aX A2.out).mono ?_);(case aX=>exact aQ.below HG.out bS);rintro e w' ⟨rfl,⟨nd,rfl⟩⟩;refine ⟨_,rfl,?_⟩)|((with_reducible refine aU (f:=130) rfl ?_);refine bY (some 15) rfl rfl Tryz.func130 ay rfl #[.string t102] rfl cr ?_;(with_reducible refine (dA.calls t102 t105 _ ?aX A3.out).mono ?_);(case aX=>exact aQ.below HG.out bS);rintro e w8 ⟨rfl,hb⟩;refine ⟨_,rfl,?_⟩;replace HB:=af.mk (aH bS hb);(try clear hb))|((with_reducible refine aU (f:=130) rfl ?_);refine bY (some 17) rfl rfl Tryz.func130 ay rfl #[.string t103] rfl cr ?_;(with_reducible refine (dA.calls t103 t106 _ ?aX A4.out).mono ?_);(case aX=>exact aQ.below HG.out bS);rintro e w9 ⟨rfl,hb⟩;refine ⟨_,rfl,?_⟩;replace HB:=af.mk (aH bS hb);(try clear hb)))
    go_ret
    exact ⟨cM,bS⟩
   ·rw [if_neg c7] at H
    have aao:decide (0≤t106)=false:=decide_eq_false c7
    clear c7
    obtain rfl:=Option.some.inj H
    go_enter Tryz.func82,Tryz.ntmps82
    go_wp2_with (first|((with_reducible refine aU (f:=91) rfl ?_);refine bY (some 10) rfl rfl Tryz.func91 ay rfl #[.string a0,.string (⟨#[58,58]⟩:ByteArray)] rfl cr ?_;(with_reducible refine (strings_Cut.calls a0 (⟨#[58,58]⟩:ByteArray) t102 t103 true _ ?aX A2.out).mono ?_);(case aX=>exact aQ.below HG.out bS);rintro e w' ⟨rfl,⟨nd,rfl⟩⟩;refine ⟨_,rfl,?_⟩)|((with_reducible refine aU (f:=130) rfl ?_);refine bY (some 15) rfl rfl Tryz.func130 ay rfl #[.string t102] rfl cr ?_;(with_reducible refine (dA.calls t102 t105 _ ?aX A3.out).mono ?_);(case aX=>exact aQ.below HG.out bS);rintro e sB ⟨rfl,hb⟩;refine ⟨_,rfl,?_⟩;replace HB:=af.mk (aH bS hb);(try clear hb))|((with_reducible refine aU (f:=130) rfl ?_);refine bY (some 17) rfl rfl Tryz.func130 ay rfl #[.string t103] rfl cr ?_;(with_reducible refine (dA.calls t103 t106 _ ?aX A4.out).mono ?_);(case aX=>exact aQ.below HG.out bS);rintro e Qd ⟨rfl,hb⟩;refine ⟨_,rfl,?_⟩;replace HB:=af.mk (aH bS hb);(try clear hb)))
    go_ret
    exact ⟨cM,bS⟩
  ·rw [if_neg c6] at H
   have qo:decide (0≤t105)=false:=decide_eq_false c6
   clear c6
   obtain rfl:=Option.some.inj H
   go_enter Tryz.func82,Tryz.ntmps82
   go_wp2_with (first|((with_reducible refine aU (f:=91) rfl ?_);refine bY (some 10) rfl rfl Tryz.func91 ay rfl #[.string a0,.string (⟨#[58,58]⟩:ByteArray)] rfl cr ?_;(with_reducible refine (strings_Cut.calls a0 (⟨#[58,58]⟩:ByteArray) t102 t103 true _ ?aX A2.out).mono ?_);(case aX=>exact aQ.below HG.out bS);rintro e w' ⟨rfl,⟨nd,rfl⟩⟩;refine ⟨_,rfl,?_⟩)|((with_reducible refine aU (f:=130) rfl ?_);refine bY (some 15) rfl rfl Tryz.func130 ay rfl #[.string t102] rfl cr ?_;(with_reducible refine (dA.calls t102 t105 _ ?aX A3.out).mono ?_);(case aX=>exact aQ.below HG.out bS);rintro e Hq ⟨rfl,hb⟩;refine ⟨_,rfl,?_⟩;replace HB:=af.mk (aH bS hb);(try clear hb))|((with_reducible refine aU (f:=130) rfl ?_);refine bY (some 17) rfl rfl Tryz.func130 ay rfl #[.string t103] rfl cr ?_;(with_reducible refine (dA.calls t103 t106 _ ?aX A4.out).mono ?_);(case aX=>exact aQ.below HG.out bS);rintro e CX ⟨rfl,hb⟩;refine ⟨_,rfl,?_⟩;replace HB:=af.mk (aH bS hb);(try clear hb)))
   go_ret
   exact ⟨cM,bS⟩
 ·replace c5:=Bool.eq_false_iff.mpr c5
  subst c5
  rw [if_neg (show ¬ (false=true) by decide)] at H
  obtain rfl:=Option.some.inj H
  go_enter Tryz.func82,Tryz.ntmps82
  go_wp2_with (first|((with_reducible refine aU (f:=91) rfl ?_);refine bY (some 10) rfl rfl Tryz.func91 ay rfl #[.string a0,.string (⟨#[58,58]⟩:ByteArray)] rfl cr ?_;(with_reducible refine (strings_Cut.calls a0 (⟨#[58,58]⟩:ByteArray) t102 t103 false _ ?aX A2.out).mono ?_);(case aX=>exact aQ.below HG.out bS);rintro e w' ⟨rfl,⟨nd,rfl⟩⟩;refine ⟨_,rfl,?_⟩)|((with_reducible refine aU (f:=130) rfl ?_);refine bY (some 15) rfl rfl Tryz.func130 ay rfl #[.string t102] rfl cr ?_;(with_reducible refine (dA.calls t102 t105 _ ?aX A3.out).mono ?_);(case aX=>exact aQ.below HG.out bS);rintro e w14 ⟨rfl,hb⟩;refine ⟨_,rfl,?_⟩;replace HB:=af.mk (aH bS hb);(try clear hb))|((with_reducible refine aU (f:=130) rfl ?_);refine bY (some 17) rfl rfl Tryz.func130 ay rfl #[.string t103] rfl cr ?_;(with_reducible refine (dA.calls t103 t106 _ ?aX A4.out).mono ?_);(case aX=>exact aQ.below HG.out bS);rintro e Kw ⟨rfl,hb⟩;refine ⟨_,rfl,?_⟩;replace HB:=af.mk (aH bS hb);(try clear hb)))
  go_ret
  exact ⟨cM,bS⟩
def au.l0:Nat→List ByteArray→Int→Int→Option (Int)
 | 0,_,_,_ =>none
 |k + 1,x0,x7,x8=>if x8 < x7 then (if 0≤x8 then (if x8 < (x0.length:Int) then ((dV.f (jv ByteArray.empty x0 x8)).bind fun t108=>(if t108=true then (some x8) else (au.l0 k x0 x7 (wrap64 (x8 + 1))))) else (none)) else (none)) else (some (-1))
def au.f (k:Nat) (l0:List ByteArray):Option (Int):=au.l0 k l0 (l0.length:Int) 0
theorem au.eD:∀ k,(∀ y0 y1 y2,bZ (au.l0 k y0 y1 y2) (au.l0 (k + 1) y0 y1 y2))
 | 0=>fun _ _ _ r h=>by simp [au.l0] at h
 |k + 1=>by
  have iJ:=au.eD k
  ·intro y0 y1 y2
   unfold au.l0
   repeat' first
   |(with_reducible first|exact iJ _ _ _|exact bZ.refl _|exact bZ.none _|refine bZ.ite ?_ ?_|refine bZ.bind ?_ (fun _ =>?_))
   |exact iJ _ _ _
   |exact bZ.none _
   |refine bZ.ite ?_ ?_
   |refine bZ.bind ?_ (fun _ =>?_)
theorem au.mono:∀ a0 k,bZ (au.f k a0) (au.f (k + 1) a0):=by
 intro a0 k
 have iJ:=au.eD k
 unfold au.f
 repeat' first
  |(with_reducible first|exact iJ _ _ _|exact bZ.refl _|exact bZ.none _|refine bZ.ite ?_ ?_|refine bZ.bind ?_ (fun _ =>?_))
  |exact iJ _ _ _
  |exact bZ.none _
  |refine bZ.ite ?_ ?_
  |refine bZ.bind ?_ (fun _ =>?_)
theorem au.calls (k:Nat) (A0:Option Addr) (c0:Nat) (l0:List ByteArray) (r:Int) (w:World) (tX:Kd.C Kd.string w A0 l0.length l0) (hc0:l0.length≤c0) (hG:aQ w) (h:au.f k l0=some r):
 Calls Tryz.prog 117 #[.slice A0 l0.length c0,.func (.func 83) #[] #[]] w fun e w'=>e= .returned (.int .i64 r)∧Below w.heap.size w w':=by
 have rE:=af.mk tX
 have IU:=af.mk hc0
 clear tX hc0
 have HB:=af.mk (Below.refl w.heap.size w)
 have HG:=af.mk hG
 clear hG
 have H:(au.l0 k l0 (l0.length:Int) 0)=some r:=h
 clear h
 have H':=af.mk H
 clear H
 go_enter Tryz.func117,Tryz.ntmps117
 go_wp2
 go_loopg [8] k (fun kq v8 w'=>∃ (fE:Int),v8= .int .i64 fE∧af (au.l0 kq l0 (l0.length:Int) fE=some r)∧af (kq≤k)∧af (Below w.heap.size w w'))
 case atStart=>exact ⟨(0),dG,H',⟨Nat.le_refl _⟩,⟨bS⟩⟩
 case round=>
  clear H'
  obtain ⟨fE,rfl,HA,sI,HB⟩:=hrel
  cases gk with
  |zero=>exact absurd HA.out (by simp [au.l0])
  |succ k1=>
   have H:=HA.out
   clear HA
   simp only [au.l0] at H
   by_cases c3:fE < (l0.length:Int)
   ·rw [if_pos c3] at H
    have mh:=decide_eq_true c3
    clear c3
    obtain ⟨c4,H⟩:=jA H
    have nj:=decide_eq_true c4
    clear c4
    obtain ⟨c5,H⟩:=jA H
    have pG:=decide_eq_true c5
    clear c5
    obtain ⟨t108,A6,H⟩:=bd_ H
    by_cases c7:t108=true
    ·subst c7
     rw [if_pos rfl] at H
     obtain rfl:=Option.some.inj H
     have CY: 0≤(fE:Int):=of_decide_eq_true cE
     have CZ:fE < (l0.length:Int):=of_decide_eq_true cE
     obtain ⟨Qe,OC,oz⟩:=Kd.gB rE.out fE CY CZ
     cases OC
     replace oz:=(HB.out.cell (World.block_lt_of_cell? w _ oz)).trans oz
     replace CY:=eq_true CY
     replace CZ:=eq_true CZ
     go_wp2_with (first|(go_at_call 83;(with_reducible refine (dV.calls (jv ByteArray.empty l0 fE) true _ ?aX A6.out).mono ?_);(case aX=>exact aQ.below HG.out bS);rintro e w8 ⟨rfl,hb⟩;replace HB:=af.mk (aH bS hb);(try clear hb)))
     go_ret
     exact ⟨cM,bS⟩
    ·replace c7:=Bool.eq_false_iff.mpr c7
     subst c7
     rw [if_neg (show ¬ (false=true) by decide)] at H
     have H':=af.mk H
     clear H
     have CY: 0≤(fE:Int):=of_decide_eq_true cE
     have CZ:fE < (l0.length:Int):=of_decide_eq_true cE
     obtain ⟨Qe,OC,oz⟩:=Kd.gB rE.out fE CY CZ
     cases OC
     replace oz:=(HB.out.cell (World.block_lt_of_cell? w _ oz)).trans oz
     replace CY:=eq_true CY
     replace CZ:=eq_true CZ
     go_wp2_with (first|(go_at_call 83;(with_reducible refine (dV.calls (jv ByteArray.empty l0 fE) false _ ?aX A6.out).mono ?_);(case aX=>exact aQ.below HG.out bS);rintro e w9 ⟨rfl,hb⟩;replace HB:=af.mk (aH bS hb);(try clear hb)))
     go_roundg k1
     case measure=>have:=sI.out;omega
     case rel=>exact ⟨(wrap64 (fE + 1)),dG,H',⟨kV⟩,⟨bS⟩⟩
   ·rw [if_neg c3] at H
    have mh:=decide_eq_false c3
    clear c3
    obtain rfl:=Option.some.inj H
    go_wp2
    go_ret
    exact ⟨cM,bS⟩
def aV.f (k:Nat) (l0:List ByteArray):Option (Bool):=(au.f k l0).bind fun t109=>(some (decide (t109≥0)))
theorem aV.mono:∀ a0 k,bZ (aV.f k a0) (aV.f (k + 1) a0):=by
 intro a0 k
 unfold aV.f
 repeat' first
  |(with_reducible first|exact au.mono _ _|exact bZ.refl _|exact bZ.none _|refine bZ.ite ?_ ?_|refine bZ.bind ?_ (fun _ =>?_))
  |exact au.mono _ _
  |exact bZ.none _
  |refine bZ.ite ?_ ?_
  |refine bZ.bind ?_ (fun _ =>?_)
theorem aV.calls (k:Nat) (A0:Option Addr) (c0:Nat) (l0:List ByteArray) (r:Bool) (w:World) (tX:Kd.C Kd.string w A0 l0.length l0) (hc0:l0.length≤c0) (hG:aQ w) (h:aV.f k l0=some r):
 Calls Tryz.prog 59 #[.slice A0 l0.length c0,.func (.func 83) #[] #[]] w fun e w'=>e= .returned (.bool r)∧Below w.heap.size w w':=by
 have rE:=af.mk tX
 have IU:=af.mk hc0
 clear tX hc0
 have HB:=af.mk (Below.refl w.heap.size w)
 have HG:=af.mk hG
 clear hG
 have H:((au.f k l0).bind fun t109=>(some (decide (t109≥0))))=some r:=h
 clear h
 obtain ⟨t109,A3,H⟩:=bd_ H
 obtain rfl:=Option.some.inj H
 go_enter Tryz.func59,Tryz.ntmps59
 go_wp2_with (first|((with_reducible refine aU (f:=117) rfl ?_);refine bY (some 7) rfl rfl Tryz.func117 ay rfl #[.slice A0 l0.length c0,.func (.func 83) #[] #[]] rfl cr ?_;(with_reducible refine (au.calls k _ _ l0 t109 _ ?aX ?bL ?eF A3.out).mono ?_);(case aX=>repeat (first|exact rE.out|(with_reducible refine Kd.gu ?_ _)|(with_reducible refine Kd.gv ?_ _)|(with_reducible refine Kd.iB ?_)));(case bL=>exact IU.out);(case eF=>exact aQ.below HG.out bS);rintro e w4 ⟨rfl,hb⟩;refine ⟨_,rfl,?_⟩;replace HB:=af.mk (aH bS hb);(try clear hb)))
 go_ret
 exact ⟨cM,bS⟩
def bQ.j0:Nat→ByteArray→Bool→Option (Bool)
 | 0,_,_ =>none
 |k + 1,x0,x12=>if x12=true then (if 5≤(x0.size:Int) then ((lC.f (x0.extract 5 x0.size)).bind fun t111=>(some t111)) else (none)) else ((strings_Split.f x0 (⟨#[46]⟩:ByteArray)).bind fun t112=>(if (t112.length:Int)=4 then ((aV.f k t112).bind fun t115=>(some (!t115))) else (some false)))
def bQ.f (k:Nat) (a0:ByteArray):Option (Bool):=if (a0.size:Int) > 5 then (if 0≤5 then (if 5≤(a0.size:Int) then ((b7.f (a0.extract 0 5)).bind fun t110=>(bQ.j0 k a0 (t110.toList == ([105,112,118,54,58]:List UInt8)))) else (none)) else (none)) else (bQ.j0 k a0 false)
theorem bQ.eD:∀ k,(∀ y0 y1,bZ (bQ.j0 k y0 y1) (bQ.j0 (k + 1) y0 y1))
 | 0=>fun _ _ r h=>by simp [bQ.j0] at h
 |k + 1=>by
  have iJ:=bQ.eD k
  ·intro y0 y1
   unfold bQ.j0
   repeat' first
   |(with_reducible first|exact iJ _ _|exact aV.mono _ _|exact bZ.refl _|exact bZ.none _|refine bZ.ite ?_ ?_|refine bZ.bind ?_ (fun _ =>?_))
   |exact iJ _ _
   |exact aV.mono _ _
   |exact bZ.none _
   |refine bZ.ite ?_ ?_
   |refine bZ.bind ?_ (fun _ =>?_)
theorem bQ.mono:∀ a0 k,bZ (bQ.f k a0) (bQ.f (k + 1) a0):=by
 intro a0 k
 have iJ:=bQ.eD k
 unfold bQ.f
 repeat' first
  |(with_reducible first|exact iJ _ _|exact aV.mono _ _|exact bZ.refl _|exact bZ.none _|refine bZ.ite ?_ ?_|refine bZ.bind ?_ (fun _ =>?_))
  |exact iJ _ _
  |exact aV.mono _ _
  |exact bZ.none _
  |refine bZ.ite ?_ ?_
  |refine bZ.bind ?_ (fun _ =>?_)
theorem bQ.calls (k:Nat) (a0:ByteArray) (r:Bool) (w:World) (hG:aQ w) (h:bQ.f k a0=some r):
 Calls Tryz.prog 27 #[.string a0] w fun e w'=>e= .returned (.bool r)∧Below w.heap.size w w':=by
 have HB:=af.mk (Below.refl w.heap.size w)
 have HG:=af.mk hG
 clear hG
 have H:(if (a0.size:Int) > 5 then (if 0≤5 then (if 5≤(a0.size:Int) then ((b7.f (a0.extract 0 5)).bind fun t110=>(bQ.j0 k a0 (t110.toList == ([105,112,118,54,58]:List UInt8)))) else (none)) else (none)) else (bQ.j0 k a0 false))=some r:=h
 clear h
 have Qc:=af.mk H
 clear H
 go_enter Tryz.func27,Tryz.ntmps27
 go_upto_region 1 with (fail)
 go_cut [12] (fun v12 wc=>∃ (kq:Nat) (Ez:Bool),v12= .bool Ez∧af (bQ.j0 kq a0 Ez=some r)∧af (kq≤k)∧af (Below w.heap.size w wc))
 case first=>
  have H:=Qc.out
  clear Qc
  by_cases c3:(a0.size:Int) > 5
  ·rw [if_pos c3] at H
   have mh:decide (5 < (a0.size:Int))=true:=decide_eq_true c3
   have CV:decide (5 < a0.size)=true:=decide_eq_true ak
   clear c3
   (first|rw [mh]|(simp only [cm,cw];rw [mh])|skip)
   obtain ⟨c4,H⟩:=jA H
   have nj:=eq_true c4
   have IK:=decide_eq_true c4
   clear c4
   obtain ⟨c5,H⟩:=jA H
   have pG:=eq_true c5
   have K5:=decide_eq_true c5
   clear c5
   obtain ⟨t110,A6,H⟩:=bd_ H
   have H':=af.mk H
   clear H
   go_wp2_with (first|(go_at_call 81;(with_reducible refine (b7.calls (a0.extract 0 5) t110 _ A6.out).mono ?_);rintro e w7 ⟨rfl,hb⟩;replace HB:=af.mk (aH bS hb);(try clear hb)))
   go_meet
   case rel=>exact ⟨_,((t110.toList == ([105,112,118,54,58]:List UInt8))),dG,H',⟨lS⟩,⟨bS⟩⟩
  ·rw [if_neg c3] at H
   have mh:decide (5 < (a0.size:Int))=false:=decide_eq_false c3
   have CV:decide (5 < a0.size)=false:=decide_eq_false ak
   clear c3
   (first|rw [mh]|(simp only [cm,cw];rw [mh])|skip)
   have H':=af.mk H
   clear H
   go_wp2
   go_meet
   case rel=>exact ⟨_,(false),dG,H',⟨lS⟩,⟨bS⟩⟩
 case rest=>
  clear Qc
  obtain ⟨kq,Ez,rfl,HA,HJ1,HB⟩:=hcut
  cases kq with
  |zero=>exact absurd HA.out (by simp [bQ.j0])
  |succ kj1=>
   have H:=HA.out
   clear HA
   simp only [bQ.j0] at H
   by_cases c8:Ez=true
   ·subst c8
    rw [if_pos rfl] at H
    obtain ⟨c9,H⟩:=jA H
    have K6:=eq_true c9
    have OD:=decide_eq_true c9
    clear c9
    obtain ⟨t111,A10,H⟩:=bd_ H
    obtain rfl:=Option.some.inj H
    go_wp2_with (first|((with_reducible refine aU (f:=82) rfl ?_);refine bY (some 15) rfl rfl Tryz.func82 ay rfl #[.string (a0.extract 5 a0.size)] rfl cr ?_;(with_reducible refine (lC.calls (a0.extract 5 a0.size) t111 _ ?aX A10.out).mono ?_);(case aX=>exact aQ.below HG.out bS);rintro e Qd ⟨rfl,hb⟩;refine ⟨_,rfl,?_⟩;replace HB:=af.mk (aH bS hb);(try clear hb)))
    go_ret
    exact ⟨cM,bS⟩
   ·replace c8:=Bool.eq_false_iff.mpr c8
    subst c8
    rw [if_neg (show ¬ (false=true) by decide)] at H
    obtain ⟨t112,Gy,H⟩:=bd_ H
    by_cases c13:(t112.length:Int)=4
    ·rw [if_pos c13] at H
     have tE:=beq_iff_eq.mpr c13
     have xK:=bne_eq_false_iff_eq.mpr c13
     clear c13
     obtain ⟨t115,IV,H⟩:=bd_ H
     obtain rfl:=Option.some.inj H
     go_wp2_with (first|((with_reducible refine aU (f:=75) rfl ?_);refine bY (some 17) rfl rfl Tryz.func75 ay rfl #[.string a0,.string (⟨#[46]⟩:ByteArray)] rfl cr ?_;(with_reducible refine (strings_Split.calls a0 (⟨#[46]⟩:ByteArray) t112 _ ?aX Gy.out).mono ?_);(case aX=>exact aQ.below HG.out bS);rintro e Kw ⟨aaq,rfl,ho0,hb⟩;refine ⟨_,rfl,?_⟩;have vH:=af.mk (Kd.lu ho0 (fy bS));replace HB:=af.mk (aH bS hb);(try clear hb);(try clear ho0);obtain ⟨ad9,aea,aar⟩:=Kd.jm vH.out;subst aar)|(go_at_call 59;(with_reducible refine (aV.calls kj1 _ _ t112 t115 _ ?aX ?bL ?eF IV.out).mono ?_);(case aX=>repeat (first|exact (Kd.gy vH.out).2.2|(with_reducible refine Kd.gu ?_ _)|(with_reducible refine Kd.gv ?_ _)|(with_reducible refine Kd.iB ?_)));(case bL=>exact (Kd.gy vH.out).2.1);(case eF=>exact aQ.below HG.out bS);rintro e Pz ⟨rfl,hb⟩;replace vH:=af.mk (Kd.dD (by (with_reducible repeat (first|apply Kd.fB|apply Kd.fC|apply Kd.gz));exact vH.out) hb);replace HB:=af.mk (aH bS hb);(try clear hb)))
     go_ret
     exact ⟨cM,bS⟩
    ·rw [if_neg c13] at H
     have tE:=beq_eq_false_iff_ne.mpr c13
     have xK:=bne_iff_ne.mpr c13
     obtain rfl:=Option.some.inj H
     go_wp2_with (first|((with_reducible refine aU (f:=75) rfl ?_);refine bY (some 17) rfl rfl Tryz.func75 ay rfl #[.string a0,.string (⟨#[46]⟩:ByteArray)] rfl cr ?_;(with_reducible refine (strings_Split.calls a0 (⟨#[46]⟩:ByteArray) t112 _ ?aX Gy.out).mono ?_);(case aX=>exact aQ.below HG.out bS);rintro e w18 ⟨aaq,rfl,ho0,hb⟩;refine ⟨_,rfl,?_⟩;have vH:=af.mk (Kd.lu ho0 (fy bS));replace HB:=af.mk (aH bS hb);(try clear hb);(try clear ho0);obtain ⟨aeb,aec,aas⟩:=Kd.jm vH.out;subst aas))
     go_ret
     exact ⟨cM,bS⟩
def gi.f (a0:Int):Option (Bool):=if a0≥97 then (if a0≤122 then (some true) else (if a0≥65 then (some (decide (a0≤90))) else (some false))) else (if a0≥65 then (some (decide (a0≤90))) else (some false))
theorem gi.calls (a0:Int) (r:Bool) (w:World) (h:gi.f a0=some r):
 Calls Tryz.prog 157 #[.int .u8 a0] w fun e w'=>e= .returned (.bool r)∧fV w w':=by
 have H:(if a0≥97 then (if a0≤122 then (some true) else (if a0≥65 then (some (decide (a0≤90))) else (some false))) else (if a0≥65 then (some (decide (a0≤90))) else (some false)))=some r:=h
 clear h
 by_cases c2:a0≥97
 ·rw [if_pos c2] at H
  have zy:decide (97≤a0)=true:=decide_eq_true c2
  clear c2
  by_cases c3:a0≤122
  ·rw [if_pos c3] at H
   have mh:=decide_eq_true c3
   clear c3
   obtain rfl:=Option.some.inj H
   go_enter Tryz.func157,Tryz.ntmps157
   go_wp2
   go_ret
   exact ⟨dG,iw⟩
  ·rw [if_neg c3] at H
   have mh:=decide_eq_false c3
   clear c3
   by_cases c4:a0≥65
   ·rw [if_pos c4] at H
    have nj:decide (65≤a0)=true:=decide_eq_true c4
    clear c4
    obtain rfl:=Option.some.inj H
    go_enter Tryz.func157,Tryz.ntmps157
    go_wp2
    go_ret
    exact ⟨dG,iw⟩
   ·rw [if_neg c4] at H
    have nj:decide (65≤a0)=false:=decide_eq_false c4
    clear c4
    obtain rfl:=Option.some.inj H
    go_enter Tryz.func157,Tryz.ntmps157
    go_wp2
    go_ret
    exact ⟨dG,iw⟩
 ·rw [if_neg c2] at H
  have zy:decide (97≤a0)=false:=decide_eq_false c2
  clear c2
  by_cases c5:a0≥65
  ·rw [if_pos c5] at H
   have pG:decide (65≤a0)=true:=decide_eq_true c5
   clear c5
   obtain rfl:=Option.some.inj H
   go_enter Tryz.func157,Tryz.ntmps157
   go_wp2
   go_ret
   exact ⟨dG,iw⟩
  ·rw [if_neg c5] at H
   have pG:decide (65≤a0)=false:=decide_eq_false c5
   clear c5
   obtain rfl:=Option.some.inj H
   go_enter Tryz.func157,Tryz.ntmps157
   go_wp2
   go_ret
   exact ⟨dG,iw⟩
end Go.Proofs.YtokpnfljjjjikaaGreatDoor.lO
