import Derived.Test.YtokpnfljjjjikaaGreatDoorZo
import Derived.Test.YtokpnfljjjjikaaGreatDoorQCbx0
import Derived.Test.YtokpnfljjjjikaaGreatDoorEStr
namespace Go.Proofs.YtokpnfljjjjikaaGreatDoor.pJ
open Go.RowKit Go.Proofs.aj.bV Go.Proofs.aj.gq Go.Proofs.aj.dB
attribute [local go_sem] jo jq kM kN iO iP jr jt
set_option linter.unusedVariables false
set_option linter.unusedSimpArgs false
def ke.f (a0:ByteArray):Option (Bool):=some (decide ((a0.size:Int) > 63))
set_option maxHeartbeats 8000000 in
set_option maxRecDepth 100000 in
theorem ke.calls (a0:ByteArray) (r:Bool) (w:World) (h:ke.f a0=some r):
 Calls Tryz.prog 118 #[.string a0] w fun e w'=>e= .returned (.bool r)∧kg w w':=by
 have H:(some (decide ((a0.size:Int) > 63)))=some r:=h
 clear h
 obtain rfl:=Option.some.inj H
 go_enter Tryz.func118,Tryz.ntmps118
 go_wp2
 go_ret
 exact ⟨ey,kH⟩
def aH.l0:Nat→List ByteArray→Int→Int→Option (Int)
 | 0,_,_,_ =>none
 |k + 1,x0,x7,x8=>if x8 < x7 then (if 0≤x8 then (if x8 < (x0.length:Int) then ((ke.f (kB ByteArray.empty x0 x8)).bind fun t102=>(if t102=true then (some x8) else (aH.l0 k x0 x7 (wrap64 (x8 + 1))))) else (none)) else (none)) else (some (-1))
def aH.f (k:Nat) (l0:List ByteArray):Option (Int):=aH.l0 k l0 (l0.length:Int) 0
theorem aH.gf:∀ k,(∀ y0 y1 y2,cN (aH.l0 k y0 y1 y2) (aH.l0 (k + 1) y0 y1 y2))
 | 0=>fun _ _ _ r h=>by simp [aH.l0] at h
 |k + 1=>by
  have oo:=aH.gf k
  ·intro y0 y1 y2
   unfold aH.l0
   repeat' first
   |(with_reducible exact oo _ _ _)
   |(with_reducible exact cN.refl _)
   |(with_reducible exact cN.none _)
   |(with_reducible refine cN.ite ?_ ?_)
   |(with_reducible refine cN.bind ?_ (fun _ =>?_))
   |refine cN.ite ?_ ?_
   |refine cN.bind ?_ (fun _ =>?_)
theorem aH.mono:∀ a0 k,cN (aH.f k a0) (aH.f (k + 1) a0):=by
 intro a0 k
 have oo:=aH.gf k
 unfold aH.f
 repeat' first
  |(with_reducible exact oo _ _ _)
  |(with_reducible exact cN.refl _)
  |(with_reducible exact cN.none _)
  |(with_reducible refine cN.ite ?_ ?_)
  |(with_reducible refine cN.bind ?_ (fun _ =>?_))
  |refine cN.ite ?_ ?_
  |refine cN.bind ?_ (fun _ =>?_)
set_option maxHeartbeats 8000000 in
set_option maxRecDepth 100000 in
theorem aH.calls (k:Nat) (A0:Option Addr) (c0:Nat) (l0:List ByteArray) (r:Int) (w:World) (zH:Kd.C Kd.string w A0 l0.length l0) (hc0:l0.length≤c0) (h:aH.f k l0=some r):
 Calls Tryz.prog 117 #[.slice A0 l0.length c0,.func (.func 118) #[] #[]] w fun e w'=>e= .returned (.int .i64 r)∧kg w w':=by
 have yM:=ah.mk zH
 have Rt:=ah.mk hc0
 clear zH hc0
 have H:(aH.l0 k l0 (l0.length:Int) 0)=some r:=h
 clear h
 have H':=ah.mk H
 clear H
 go_enter Tryz.func117,Tryz.ntmps117
 go_wp2
 go_loopg [8] k (fun kq v8 w'=>∃ (fA:Int),v8= .int .i64 fA∧ah (aH.l0 kq l0 (l0.length:Int) fA=some r)∧ah (kq≤k)∧kg w w')
 case atStart=>exact ⟨(0),ey,H',⟨Nat.le_refl _⟩,kH⟩
 case round=>
  clear H'
  try clear c1
  try clear p2
  obtain ⟨fA,rfl,HA,uX,⟨m1,rfl⟩⟩:=hrel
  cases gk with
  |zero=>exact absurd HA.out (by simp [aH.l0])
  |succ k1=>
   have H:=HA.out
   clear HA
   simp only [aH.l0] at H
   by_cases c3:fA < (l0.length:Int)
   ·rw [if_pos c3] at H
    have pX:decide (fA < (l0.length:Int))=true:=decide_eq_true c3
    clear c3
    by_cases c4: 0≤fA
    ·rw [if_pos c4] at H
     have o9:decide (0≤fA)=true:=decide_eq_true c4
     clear c4
     by_cases c5:fA < (l0.length:Int)
     ·rw [if_pos c5] at H
      have uB:decide (fA < (l0.length:Int))=true:=decide_eq_true c5
      clear c5
      replace H:=Option.bind_eq_some_iff.mp H
      obtain ⟨t102,xw,H⟩:=H
      replace H:(if t102=true then (some fA) else (aH.l0 k1 l0 (l0.length:Int) (wrap64 (fA + 1))))=some r:=H
      have A6:=ah.mk xw
      clear xw
      by_cases c7:t102=true
      ·subst c7
       have H1:(some fA)=some r:=by rw [if_pos rfl] at H;exact H
       clear H
       have H:=H1
       clear H1
       obtain rfl:=Option.some.inj H
       have Oz: 0≤(fA:Int):=of_decide_eq_true cW
       have OA:fA < (l0.length:Int):=of_decide_eq_true cW
       obtain ⟨adY,abw,Yv⟩:=Kd.jA yM.out fA Oz OA
       cases abw
       replace Oz:=eq_true Oz
       replace OA:=eq_true OA
       go_wp2_with (first|(go_at_call 118;(with_reducible refine (ke.calls (kB ByteArray.empty l0 fA) true _ A6.out).mono ?_);rintro e w' ⟨rfl,⟨nd,rfl⟩⟩))
       go_ret
       exact ⟨ey,kH⟩
      ·replace c7:=Bool.eq_false_iff.mpr c7
       subst c7
       have H1:(aH.l0 k1 l0 (l0.length:Int) (wrap64 (fA + 1)))=some r:=by rw [if_neg (show ¬ (false=true) by decide)] at H;exact H
       clear H
       have H:=H1
       clear H1
       have H':=ah.mk H
       clear H
       have Oz: 0≤(fA:Int):=of_decide_eq_true cW
       have OA:fA < (l0.length:Int):=of_decide_eq_true cW
       obtain ⟨adY,abw,Yv⟩:=Kd.jA yM.out fA Oz OA
       cases abw
       replace Oz:=eq_true Oz
       replace OA:=eq_true OA
       go_wp2_with (first|(go_at_call 118;(with_reducible refine (ke.calls (kB ByteArray.empty l0 fA) false _ A6.out).mono ?_);rintro e w' ⟨rfl,⟨nd,rfl⟩⟩))
       go_roundg k1
       case measure=>have:=uX.out;omega
       case rel=>exact ⟨(wrap64 (fA + 1)),ey,H',⟨j6⟩,kH⟩
     ·rw [if_neg c5] at H
      exact absurd H bn
    ·rw [if_neg c4] at H
     exact absurd H bn
   ·rw [if_neg c3] at H
    have pX:decide (fA < (l0.length:Int))=false:=decide_eq_false c3
    clear c3
    obtain rfl:=Option.some.inj H
    go_wp2
    go_ret
    exact ⟨ey,kH⟩
def bM.f (k:Nat) (l0:List ByteArray):Option (Bool):=(aH.f k l0).bind fun t103=>(some (decide (t103≥0)))
theorem bM.mono:∀ a0 k,cN (bM.f k a0) (bM.f (k + 1) a0):=by
 intro a0 k
 unfold bM.f
 repeat' first
  |(with_reducible exact aH.mono _ _)
  |(with_reducible exact cN.refl _)
  |(with_reducible exact cN.none _)
  |(with_reducible refine cN.ite ?_ ?_)
  |(with_reducible refine cN.bind ?_ (fun _ =>?_))
  |refine cN.ite ?_ ?_
  |refine cN.bind ?_ (fun _ =>?_)
set_option maxHeartbeats 8000000 in
set_option maxRecDepth 100000 in
theorem bM.calls (k:Nat) (A0:Option Addr) (c0:Nat) (l0:List ByteArray) (r:Bool) (w:World) (zH:Kd.C Kd.string w A0 l0.length l0) (hc0:l0.length≤c0) (h:bM.f k l0=some r):
 Calls Tryz.prog 59 #[.slice A0 l0.length c0,.func (.func 118) #[] #[]] w fun e w'=>e= .returned (.bool r)∧kg w w':=by
 have yM:=ah.mk zH
 have Rt:=ah.mk hc0
 clear zH hc0
 have H:((aH.f k l0).bind fun t103=>(some (decide (t103≥0))))=some r:=h
 clear h
 replace H:=Option.bind_eq_some_iff.mp H
 obtain ⟨t103,zl,H⟩:=H
 replace H:(some (decide (t103≥0)))=some r:=H
 have A3:=ah.mk zl
 clear zl
 obtain rfl:=Option.some.inj H
 go_enter Tryz.func59,Tryz.ntmps59
 go_wp2_with (first|((with_reducible refine aQ (f:=117) rfl ?_);refine cu (some 7) rfl rfl Tryz.func117 av rfl #[.slice A0 l0.length c0,.func (.func 118) #[] #[]] rfl cT ?_;(with_reducible refine (aH.calls k _ _ l0 t103 _ ?aX ?bT A3.out).mono ?_);(case aX=>repeat (first|exact yM.out|(with_reducible refine Kd.eJ ?_ _)|(with_reducible refine Kd.eK ?_ _)|(with_reducible refine Kd.fR ?_)));(case bT=>exact Rt.out);rintro e w' ⟨rfl,⟨nd,rfl⟩⟩;refine ⟨_,rfl,?_⟩))
 go_ret
 exact ⟨ey,kH⟩
def fI.f (k:Nat) (a0:ByteArray):Option (Bool):=if (a0.size:Int)≤255 then ((strings_Split.f a0 (⟨#[46]⟩:ByteArray)).bind fun t104=>((bM.f k t104).bind fun t107=>(some (!t107)))) else (some false)
theorem fI.mono:∀ a0 k,cN (fI.f k a0) (fI.f (k + 1) a0):=by
 intro a0 k
 unfold fI.f
 repeat' first
  |(with_reducible exact bM.mono _ _)
  |(with_reducible exact cN.refl _)
  |(with_reducible exact cN.none _)
  |(with_reducible refine cN.ite ?_ ?_)
  |(with_reducible refine cN.bind ?_ (fun _ =>?_))
  |refine cN.ite ?_ ?_
  |refine cN.bind ?_ (fun _ =>?_)
set_option maxHeartbeats 8000000 in
set_option maxRecDepth 100000 in
theorem fI.calls (k:Nat) (a0:ByteArray) (r:Bool) (w:World) (hG:aU w) (h:fI.f k a0=some r):
 Calls Tryz.prog 61 #[.string a0] w fun e w'=>e= .returned (.bool r)∧Below w.heap.size w w':=by
 have HB:=ah.mk (Below.refl w.heap.size w)
 have HG:=ah.mk hG
 clear hG
 have H:(if (a0.size:Int)≤255 then ((strings_Split.f a0 (⟨#[46]⟩:ByteArray)).bind fun t104=>((bM.f k t104).bind fun t107=>(some (!t107)))) else (some false))=some r:=h
 clear h
 by_cases c2:(a0.size:Int)≤255
 ·rw [if_pos c2] at H
  have B6:decide ((a0.size:Int)≤255)=true:=decide_eq_true c2
  have OB:decide (a0.size≤255)=true:=decide_eq_true aq
  clear c2
  replace H:=Option.bind_eq_some_iff.mp H
  obtain ⟨t104,zl,H⟩:=H
  replace H:((bM.f k t104).bind fun t107=>(some (!t107)))=some r:=H
  have A3:=ah.mk zl
  clear zl
  replace H:=Option.bind_eq_some_iff.mp H
  obtain ⟨t107,Bg,H⟩:=H
  replace H:(some (!t107))=some r:=H
  have A4:=ah.mk Bg
  clear Bg
  obtain rfl:=Option.some.inj H
  go_enter Tryz.func61,Tryz.ntmps61
  go_wp2_with (first|(go_at_call 75;(with_reducible refine (strings_Split.calls a0 (⟨#[46]⟩:ByteArray) t104 _ ?aX A3.out).mono ?_);(case aX=>exact aU.below HG.out bN);rintro e w5 ⟨v105,rfl,ho0,hb⟩;have bB:=ah.mk (Kd.eF ho0 (cE bN));have bL:=ah.mk (ay bN hb);clear HB;have Vr:=bB;have HB:=bL;clear bB bL;(try clear hb);(try clear hb2);(try clear hk);(try clear hi);(try clear ho0);obtain ⟨Ao6,co6,eo6⟩:=Kd.dn Vr.out;subst eo6)|(go_at_call 59;(with_reducible refine (bM.calls k _ _ t104 t107 _ ?aX ?bT A4.out).mono ?_);(case aX=>repeat (first|exact (Kd.ck Vr.out).2.2|(with_reducible refine Kd.eJ ?_ _)|(with_reducible refine Kd.eK ?_ _)|(with_reducible refine Kd.fR ?_)));(case bT=>exact (Kd.ck Vr.out).2.1);rintro e w' ⟨rfl,⟨nd,rfl⟩⟩))
  go_ret
  exact ⟨cR,bN⟩
 ·rw [if_neg c2] at H
  have B6:decide ((a0.size:Int)≤255)=false:=decide_eq_false c2
  have OB:decide (a0.size≤255)=false:=decide_eq_false aq
  clear c2
  obtain rfl:=Option.some.inj H
  go_enter Tryz.func61,Tryz.ntmps61
  go_wp2
  go_ret
  exact ⟨cR,bN⟩
def aA (w0 W:World) (g:Nat) (f0:ByteArray) (f1:Int):Prop:=W.heap[g]? =some (.cells #[.string f0,.int .i64 f1] 82 (0,0))∧w0.heap.size≤g
theorem aA.grown {w0 W:World} {g:Nat} {f0:ByteArray} {f1:Int} {W1:World} {row:Option Nat} (h:aA w0 W g f0 f1) (hw:W.grownBy W1 row) (hne:some g≠row):aA w0 W1 g f0 f1:=by
 obtain ⟨hb,hg⟩:=h
 exact ⟨rY hb hw hne,hg⟩
theorem aA.kept {w0 W:World} {g:Nat} {f0:ByteArray} {f1:Int} {W1:World} {S:Nat→Prop} (h:aA w0 W g f0 f1) (hk:Kept W W1 S) (hne: ¬ S g):aA w0 W1 g f0 f1:=by
 obtain ⟨hb,hg⟩:=h
 exact ⟨Vh hb hk hne,hg⟩
theorem aA.below {w0 W:World} {g:Nat} {f0:ByteArray} {f1:Int} {W1:World} (h:aA w0 W g f0 f1) (hw:Below W.heap.size W W1):aA w0 W1 g f0 f1:=h.grown (wZ hw none) bn
theorem aA.alloc {w0 W:World} {g:Nat} {f0:ByteArray} {f1:Int} (h:aA w0 W g f0 f1) (o:Obj):aA w0 (W.alloc o) g f0 f1:=h.below (aB (Below.refl _ _) o)
theorem aA.drewN {w0 W:World} {g:Nat} {f0:ByteArray} {f1:Int} (h:aA w0 W g f0 f1) (m:Nat):aA w0 (W.drewN m) g f0 f1:=h
theorem aA.drew {w0 W:World} {g:Nat} {f0:ByteArray} {f1:Int} (h:aA w0 W g f0 f1):aA w0 W.drew g f0 f1:=h
theorem aA.at_ {w0 W:World} {g:Nat} {f0:ByteArray} {f1:Int} {w':World} {m:Nat} (hq:W.drewN m=w') (h:aA w0 W g f0 f1):aA w0 w' g f0 f1:=by subst hq;exact aA.drewN h m
theorem aA.apart {w0 W:World} {g:Nat} {f0:ByteArray} {f1:Int} {α:Type} {d:Kd α} {e:Nat} {base:Nat} {ok:Nat→Prop} {v:Value} {xs:List α} (h:aA w0 W g f0 f1) (ho:d.R e W base ok v xs) (ht:∀ q,q∈e :: d.E→q≠82):d.R e W base (fun k=>ok k∧k≠g) v xs:=by
 obtain ⟨hb,hg⟩:=h
 exact Kd.fG ho hb ht
theorem aA.own_ne {w0 W:World} {g:Nat} {f0:ByteArray} {f1:Int} {α:Type} {d:Kd α} {e:Nat} {base:Nat} {ok:Nat→Prop} {v:Value} {xs:List α} (h:aA w0 W g f0 f1) (ho:d.R e W base ok v xs) (ht:e≠82):some g≠v.ownBlock:=by
 obtain ⟨hb,hg⟩:=h
 exact Kd.S5 ho hb ht
theorem aA.lt {w0 W:World} {g:Nat} {f0:ByteArray} {f1:Int} (h:aA w0 W g f0 f1):g < W.heap.size:=by
 obtain ⟨hb,hg⟩:=h
 exact iK hb
theorem aA.ge {w0 W:World} {g:Nat} {f0:ByteArray} {f1:Int} (h:aA w0 W g f0 f1):w0.heap.size≤g:=by
 obtain ⟨hb,hg⟩:=h
 exact hg
theorem aA.qA {w0 W:World} {g:Nat} {f0:ByteArray} {f1:Int} {a:Nat} {cs:Array Value} {t:TypeId} {fr:Nat×Nat} (h:aA w0 W g f0 f1) (hb2:W.heap[a]? =some (.cells cs t fr)) (ht:t≠82):g≠a:=by
 obtain ⟨hb,hg⟩:=h
 rintro rfl
 rw [hb] at hb2
 injection hb2 with hb2
 injection hb2 with _ ht2
 exact ht ht2.symm
theorem aA.far {w0 W:World} {g:Nat} {f0:ByteArray} {f1:Int} {p:Addr} (h:aA w0 W g f0 f1) (hne:g≠p.block) (u:Value):aA w0 (W.setCell p u) g f0 f1:=by
 obtain ⟨hb,hg⟩:=h
 exact ⟨gL hb hne u,hg⟩
theorem dV {W:World} {g:Nat} {f0:ByteArray} {f1:Int} (h:W.heap[g]? =some (.cells #[.string f0,.int .i64 f1] 82 (0,0))):W.cell? ⟨g,0,none⟩=some (.string f0):=(af h 0).trans rfl
theorem aA.fZ {w0 W:World} {g:Nat} {f0:ByteArray} {f1:Int} (h:aA w0 W g f0 f1) (x:ByteArray):aA w0 (W.setCell ⟨g,0,none⟩ (.string x)) g x f1:=by
 obtain ⟨hb,hg⟩:=h
 exact ⟨by simpa using DZ hb 0 (.string x),hg⟩
theorem dM {W:World} {g:Nat} {f0:ByteArray} {f1:Int} (h:W.heap[g]? =some (.cells #[.string f0,.int .i64 f1] 82 (0,0))):W.cell? ⟨g,1,none⟩=some (.int .i64 f1):=(af h 1).trans rfl
theorem aA.fV {w0 W:World} {g:Nat} {f0:ByteArray} {f1:Int} (h:aA w0 W g f0 f1) (x:Int):aA w0 (W.setCell ⟨g,1,none⟩ (.int .i64 x)) g f0 x:=by
 obtain ⟨hb,hg⟩:=h
 exact ⟨by simpa using DZ hb 1 (.int .i64 x),hg⟩
def bq.f (fD:ByteArray) (cS:Int) (a1:Int):Option (Bool×ByteArray×Int):=if cS < (fD.size:Int) then (if 0≤cS then (if (bt fD cS)=a1 then (some (true,fD,wrap64 (cS + 1))) else (some (false,fD,cS))) else (none)) else (some (false,fD,cS))
set_option maxHeartbeats 8000000 in
set_option maxRecDepth 100000 in
theorem bq.calls (g:Nat) (fD:ByteArray) (cS:Int) (a1:Int) (r1:Bool) (r2:ByteArray) (r3:Int) (w0 w:World) (hI:aA w0 w g fD cS) (hB:Below w0.heap.size w0 w) (h:bq.f fD cS a1=some (r1,r2,r3)):
 Calls Tryz.prog 56 #[.pointer (some ⟨g,0,none⟩),.int .u8 a1] w fun e w'=>e= .returned (.bool r1)∧aA w0 w' g r2 r3∧Below w0.heap.size w0 w'∧bC w w' g none:=by
 have dI:=ah.mk hI
 have HK:=ah.mk (bC.refl w g none)
 have HL:=ah.mk hB.size
 clear hI
 have T9:=ah.mk hB.size
 have HB:=ah.mk hB
 clear hB
 have H:(if cS < (fD.size:Int) then (if 0≤cS then (if (bt fD cS)=a1 then (some (true,fD,wrap64 (cS + 1))) else (some (false,fD,cS))) else (none)) else (some (false,fD,cS)))=some (r1,r2,r3):=h
 clear h
 by_cases c3:cS < (fD.size:Int)
 ·rw [if_pos c3] at H
  have pX:decide (cS < (fD.size:Int))=true:=decide_eq_true c3
  clear c3
  by_cases c4: 0≤cS
  ·rw [if_pos c4] at H
   have o9:decide (0≤cS)=true:=decide_eq_true c4
   clear c4
   by_cases c6:(bt fD cS)=a1
   ·rw [if_pos c6] at H
    have pP:((bt fD cS) == a1)=true:=beq_iff_eq.mpr c6
    have zC:((bt fD cS) != a1)=false:=bne_eq_false_iff_eq.mpr c6
    clear c6
    simp only [Option.some.injEq,Prod.mk.injEq] at H
    obtain ⟨rfl,rfl,rfl⟩:=H
    obtain ⟨Fu,abx⟩:=dI.out
    have Fv:=dV Fu
    have Fw:=dM Fu
    have Fx:=aa Fu 0
    have Fy:=aa Fu 1
    clear Fu abx
    have p5: 0≤(cS:Int):=of_decide_eq_true cW
    have q5:cS < (fD.size:Int):=of_decide_eq_true cW
    have hx5:=iw fD cS
    replace p5:=eq_true p5
    replace q5:=eq_true q5
    go_enter Tryz.func56,Tryz.ntmps56
    go_wp2
    repeat (go_quiet (fail);try go_wp2)
    go_ret
    exact ⟨cR,iG,iF,eP⟩
   ·rw [if_neg c6] at H
    have pP:((bt fD cS) == a1)=false:=beq_eq_false_iff_ne.mpr c6
    have zC:((bt fD cS) != a1)=true:=bne_iff_ne.mpr c6
    simp only [Option.some.injEq,Prod.mk.injEq] at H
    obtain ⟨rfl,rfl,rfl⟩:=H
    obtain ⟨Fz,aby⟩:=dI.out
    have xh:=dV Fz
    have xj:=dM Fz
    have xk:=aa Fz 0
    have xm:=aa Fz 1
    clear Fz aby
    have p5: 0≤(cS:Int):=of_decide_eq_true cW
    have q5:cS < (fD.size:Int):=of_decide_eq_true cW
    have hx5:=iw fD cS
    replace p5:=eq_true p5
    replace q5:=eq_true q5
    go_enter Tryz.func56,Tryz.ntmps56
    go_wp2
    repeat (go_quiet (fail);try go_wp2)
    go_ret
    exact ⟨cR,iG,iF,eP⟩
  ·rw [if_neg c4] at H
   exact absurd H bn
 ·rw [if_neg c3] at H
  have pX:decide (cS < (fD.size:Int))=false:=decide_eq_false c3
  clear c3
  simp only [Option.some.injEq,Prod.mk.injEq] at H
  obtain ⟨rfl,rfl,rfl⟩:=H
  obtain ⟨pY,J1⟩:=dI.out
  have qF:=dV pY
  have qG:=dM pY
  have qH:=aa pY 0
  have qI:=aa pY 1
  clear pY J1
  go_enter Tryz.func56,Tryz.ntmps56
  go_wp2
  repeat (go_quiet (fail);try go_wp2)
  go_ret
  exact ⟨cR,iG,iF,eP⟩
def jB.f (a0:Int):Option (Bool):=if a0≥97 then (if a0≤122 then (some true) else (if a0≥65 then (some (decide (a0≤90))) else (some false))) else (if a0≥65 then (some (decide (a0≤90))) else (some false))
set_option maxHeartbeats 8000000 in
set_option maxRecDepth 100000 in
theorem jB.calls (a0:Int) (r:Bool) (w:World) (h:jB.f a0=some r):
 Calls Tryz.prog 157 #[.int .u8 a0] w fun e w'=>e= .returned (.bool r)∧kg w w':=by
 have H:(if a0≥97 then (if a0≤122 then (some true) else (if a0≥65 then (some (decide (a0≤90))) else (some false))) else (if a0≥65 then (some (decide (a0≤90))) else (some false)))=some r:=h
 clear h
 by_cases c2:a0≥97
 ·rw [if_pos c2] at H
  have B6:decide (97≤a0)=true:=decide_eq_true c2
  clear c2
  by_cases c3:a0≤122
  ·rw [if_pos c3] at H
   have pX:decide (a0≤122)=true:=decide_eq_true c3
   clear c3
   obtain rfl:=Option.some.inj H
   go_enter Tryz.func157,Tryz.ntmps157
   go_wp2
   go_ret
   exact ⟨ey,kH⟩
  ·rw [if_neg c3] at H
   have pX:decide (a0≤122)=false:=decide_eq_false c3
   clear c3
   by_cases c4:a0≥65
   ·rw [if_pos c4] at H
    have o9:decide (65≤a0)=true:=decide_eq_true c4
    clear c4
    obtain rfl:=Option.some.inj H
    go_enter Tryz.func157,Tryz.ntmps157
    go_wp2
    go_ret
    exact ⟨ey,kH⟩
   ·rw [if_neg c4] at H
    have o9:decide (65≤a0)=false:=decide_eq_false c4
    clear c4
    obtain rfl:=Option.some.inj H
    go_enter Tryz.func157,Tryz.ntmps157
    go_wp2
    go_ret
    exact ⟨ey,kH⟩
 ·rw [if_neg c2] at H
  have B6:decide (97≤a0)=false:=decide_eq_false c2
  clear c2
  by_cases c5:a0≥65
  ·rw [if_pos c5] at H
   have uB:decide (65≤a0)=true:=decide_eq_true c5
   clear c5
   obtain rfl:=Option.some.inj H
   go_enter Tryz.func157,Tryz.ntmps157
   go_wp2
   go_ret
   exact ⟨ey,kH⟩
  ·rw [if_neg c5] at H
   have uB:decide (65≤a0)=false:=decide_eq_false c5
   clear c5
   obtain rfl:=Option.some.inj H
   go_enter Tryz.func157,Tryz.ntmps157
   go_wp2
   go_ret
   exact ⟨ey,kH⟩
def ju.f (a0:Int):Option (Bool):=if a0≥48 then (some (decide (a0≤57))) else (some false)
set_option maxHeartbeats 8000000 in
set_option maxRecDepth 100000 in
theorem ju.calls (a0:Int) (r:Bool) (w:World) (h:ju.f a0=some r):
 Calls Tryz.prog 158 #[.int .u8 a0] w fun e w'=>e= .returned (.bool r)∧kg w w':=by
 have H:(if a0≥48 then (some (decide (a0≤57))) else (some false))=some r:=h
 clear h
 by_cases c2:a0≥48
 ·rw [if_pos c2] at H
  have B6:decide (48≤a0)=true:=decide_eq_true c2
  clear c2
  obtain rfl:=Option.some.inj H
  go_enter Tryz.func158,Tryz.ntmps158
  go_wp2
  go_ret
  exact ⟨ey,kH⟩
 ·rw [if_neg c2] at H
  have B6:decide (48≤a0)=false:=decide_eq_false c2
  clear c2
  obtain rfl:=Option.some.inj H
  go_enter Tryz.func158,Tryz.ntmps158
  go_wp2
  go_ret
  exact ⟨ey,kH⟩
def eZ.f (a0:Int):Option (Bool):=(jB.f a0).bind fun t108=>(if t108=true then (some true) else ((ju.f a0).bind fun t109=>(if t109=true then (some true) else (some (a0 == 45)))))
set_option maxHeartbeats 8000000 in
set_option maxRecDepth 100000 in
theorem eZ.calls (a0:Int) (r:Bool) (w:World) (h:eZ.f a0=some r):
 Calls Tryz.prog 168 #[.int .u8 a0] w fun e w'=>e= .returned (.bool r)∧kg w w':=by
 have H:((jB.f a0).bind fun t108=>(if t108=true then (some true) else ((ju.f a0).bind fun t109=>(if t109=true then (some true) else (some (a0 == 45))))))=some r:=h
 clear h
 replace H:=Option.bind_eq_some_iff.mp H
 obtain ⟨t108,nU,H⟩:=H
 replace H:(if t108=true then (some true) else ((ju.f a0).bind fun t109=>(if t109=true then (some true) else (some (a0 == 45)))))=some r:=H
 have A2:=ah.mk nU
 clear nU
 by_cases c3:t108=true
 ·subst c3
  have H1:(some true)=some r:=by rw [if_pos rfl] at H;exact H
  clear H
  have H:=H1
  clear H1
  obtain rfl:=Option.some.inj H
  go_enter Tryz.func168,Tryz.ntmps168
  go_wp2_with (first|((with_reducible refine aQ (f:=157) rfl ?_);refine cu (some 4) rfl rfl Tryz.func157 av rfl #[.int .u8 a0] rfl cT ?_;(with_reducible refine (jB.calls a0 true _ A2.out).mono ?_);rintro e w' ⟨rfl,⟨nd,rfl⟩⟩;refine ⟨_,rfl,?_⟩))
  go_ret
  exact ⟨ey,kH⟩
 ·replace c3:=Bool.eq_false_iff.mpr c3
  subst c3
  have H1:((ju.f a0).bind fun t109=>(if t109=true then (some true) else (some (a0 == 45))))=some r:=by rw [if_neg (show ¬ (false=true) by decide)] at H;exact H
  clear H
  have H:=H1
  clear H1
  replace H:=Option.bind_eq_some_iff.mp H
  obtain ⟨t109,Bg,H⟩:=H
  replace H:(if t109=true then (some true) else (some (a0 == 45)))=some r:=H
  have A4:=ah.mk Bg
  clear Bg
  by_cases c5:t109=true
  ·subst c5
   have H1:(some true)=some r:=by rw [if_pos rfl] at H;exact H
   clear H
   have H:=H1
   clear H1
   obtain rfl:=Option.some.inj H
   go_enter Tryz.func168,Tryz.ntmps168
   go_wp2_with (first|((with_reducible refine aQ (f:=157) rfl ?_);refine cu (some 4) rfl rfl Tryz.func157 av rfl #[.int .u8 a0] rfl cT ?_;(with_reducible refine (jB.calls a0 false _ A2.out).mono ?_);rintro e w' ⟨rfl,⟨nd,rfl⟩⟩;refine ⟨_,rfl,?_⟩)|(go_at_call 158;(with_reducible refine (ju.calls a0 true _ A4.out).mono ?_);rintro e w' ⟨rfl,⟨nd,rfl⟩⟩))
   go_ret
   exact ⟨ey,kH⟩
  ·replace c5:=Bool.eq_false_iff.mpr c5
   subst c5
   have H1:(some (a0 == 45))=some r:=by rw [if_neg (show ¬ (false=true) by decide)] at H;exact H
   clear H
   have H:=H1
   clear H1
   obtain rfl:=Option.some.inj H
   go_enter Tryz.func168,Tryz.ntmps168
   go_wp2_with (first|((with_reducible refine aQ (f:=157) rfl ?_);refine cu (some 4) rfl rfl Tryz.func157 av rfl #[.int .u8 a0] rfl cT ?_;(with_reducible refine (jB.calls a0 false _ A2.out).mono ?_);rintro e w' ⟨rfl,⟨nd,rfl⟩⟩;refine ⟨_,rfl,?_⟩)|(go_at_call 158;(with_reducible refine (ju.calls a0 false _ A4.out).mono ?_);rintro e w' ⟨rfl,⟨nd,rfl⟩⟩))
   go_ret
   exact ⟨ey,kH⟩
end Go.Proofs.YtokpnfljjjjikaaGreatDoor.pJ
