import Derived.Test.YtokpnfljjjjikaaGreatDoorQCbx0
import Derived.Test.YtokpnfljjjjikaaGreatDoorEStr
set_option maxHeartbeats 8000000
set_option maxRecDepth 100000
namespace Go.Proofs.YtokpnfljjjjikaaGreatDoor.nK
open Go.RowKit Go.Proofs.aj.bQ Go.Proofs.aj.fR Go.Proofs.aj.cM
attribute [local go_sem] iY iZ ku kA ig ij jc jd
set_option linter.unusedVariables false
set_option linter.unusedSimpArgs false
def jR.f (a0:ByteArray):Option (Bool):=some (decide ((a0.size:Int) > 63))
theorem jR.calls (a0:ByteArray) (r:Bool) (w:World) (h:jR.f a0=some r):
 Calls Tryz.prog 118 #[.string a0] w fun e w'=>e= .returned (.bool r)∧jr w w':=by
 have H:(some (decide ((a0.size:Int) > 63)))=some r:=h
 clear h
 obtain rfl:=Option.some.inj H
 go_enter Tryz.func118,Tryz.ntmps118
 go_wp2
 go_ret
 exact ⟨dG,ke⟩
def aA.l0:Nat→List ByteArray→Int→Int→Option (Int)
 | 0,_,_,_ =>none
 |k + 1,x0,x7,x8=>if x8 < x7 then (if 0≤x8 then (if x8 < (x0.length:Int) then ((jR.f (jZ ByteArray.empty x0 x8)).bind fun t102=>(if t102=true then (some x8) else (aA.l0 k x0 x7 (wrap64 (x8 + 1))))) else (none)) else (none)) else (some (-1))
def aA.f (k:Nat) (l0:List ByteArray):Option (Int):=aA.l0 k l0 (l0.length:Int) 0
theorem aA.fJ:∀ k,(∀ y0 y1 y2,cH (aA.l0 k y0 y1 y2) (aA.l0 (k + 1) y0 y1 y2))
 | 0=>fun _ _ _ r h=>by simp [aA.l0] at h
 |k + 1=>by
  have nP:=aA.fJ k
  ·intro y0 y1 y2
   unfold aA.l0
   repeat' first
   |(with_reducible exact nP _ _ _)
   |(with_reducible exact cH.refl _)
   |(with_reducible exact cH.none _)
   |(with_reducible refine cH.ite ?_ ?_)
   |(with_reducible refine cH.bind ?_ (fun _ =>?_))
   |refine cH.ite ?_ ?_
   |refine cH.bind ?_ (fun _ =>?_)
theorem aA.mono:∀ a0 k,cH (aA.f k a0) (aA.f (k + 1) a0):=by
 intro a0 k
 have nP:=aA.fJ k
 unfold aA.f
 repeat' first
  |(with_reducible exact nP _ _ _)
  |(with_reducible exact cH.refl _)
  |(with_reducible exact cH.none _)
  |(with_reducible refine cH.ite ?_ ?_)
  |(with_reducible refine cH.bind ?_ (fun _ =>?_))
  |refine cH.ite ?_ ?_
  |refine cH.bind ?_ (fun _ =>?_)
theorem aA.calls (k:Nat) (A0:Option Addr) (c0:Nat) (l0:List ByteArray) (r:Int) (w:World) (zm:Kd.C Kd.string w A0 l0.length l0) (hc0:l0.length≤c0) (h:aA.f k l0=some r):
 Calls Tryz.prog 117 #[.slice A0 l0.length c0,.func (.func 118) #[] #[]] w fun e w'=>e= .returned (.int .i64 r)∧jr w w':=by
 have xG:=ah.mk zm
 have Qf:=ah.mk hc0
 clear zm hc0
 have H:(aA.l0 k l0 (l0.length:Int) 0)=some r:=h
 clear h
 have H':=ah.mk H
 clear H
 go_enter Tryz.func117,Tryz.ntmps117
 go_wp2
 go_loopg [8] k (fun kq v8 w'=>∃ (eJ:Int),v8= .int .i64 eJ∧ah (aA.l0 kq l0 (l0.length:Int) eJ=some r)∧ah (kq≤k)∧jr w w')
 case atStart=>exact ⟨(0),dG,H',⟨Nat.le_refl _⟩,ke⟩
 case round=>
  clear H'
  try clear c1
  try clear p2
  obtain ⟨eJ,rfl,HA,uz,⟨m1,rfl⟩⟩:=hrel
  cases gk with
  |zero=>exact absurd HA.out (by simp [aA.l0])
  |succ k1=>
   have H:=HA.out
   clear HA
   simp only [aA.l0] at H
   by_cases c3:eJ < (l0.length:Int)
   ·rw [if_pos c3] at H
    have pW:decide (eJ < (l0.length:Int))=true:=decide_eq_true c3
    clear c3
    by_cases c4: 0≤eJ
    ·rw [if_pos c4] at H
     have oC:decide (0≤eJ)=true:=decide_eq_true c4
     clear c4
     by_cases c5:eJ < (l0.length:Int)
     ·rw [if_pos c5] at H
      have tR:decide (eJ < (l0.length:Int))=true:=decide_eq_true c5
      clear c5
      replace H:=Option.bind_eq_some_iff.mp H
      obtain ⟨t102,wK,H⟩:=H
      replace H:(if t102=true then (some eJ) else (aA.l0 k1 l0 (l0.length:Int) (wrap64 (eJ + 1))))=some r:=H
      have A6:=ah.mk wK
      clear wK
      by_cases c7:t102=true
      ·subst c7
       have H1:(some eJ)=some r:=by rw [if_pos rfl] at H;exact H
       clear H
       have H:=H1
       clear H1
       obtain rfl:=Option.some.inj H
       have N7: 0≤(eJ:Int):=of_decide_eq_true cL
       have N8:eJ < (l0.length:Int):=of_decide_eq_true cL
       obtain ⟨acU,aaD,Xb⟩:=Kd.jk xG.out eJ N7 N8
       cases aaD
       replace N7:=eq_true N7
       replace N8:=eq_true N8
       go_wp2_with (first|(go_at_call 118;(with_reducible refine (jR.calls (jZ ByteArray.empty l0 eJ) true _ A6.out).mono ?_);rintro e w' ⟨rfl,⟨nd,rfl⟩⟩))
       go_ret
       exact ⟨dG,ke⟩
      ·replace c7:=Bool.eq_false_iff.mpr c7
       subst c7
       have H1:(aA.l0 k1 l0 (l0.length:Int) (wrap64 (eJ + 1)))=some r:=by rw [if_neg (show ¬ (false=true) by decide)] at H;exact H
       clear H
       have H:=H1
       clear H1
       have H':=ah.mk H
       clear H
       have N7: 0≤(eJ:Int):=of_decide_eq_true cL
       have N8:eJ < (l0.length:Int):=of_decide_eq_true cL
       obtain ⟨acU,aaD,Xb⟩:=Kd.jk xG.out eJ N7 N8
       cases aaD
       replace N7:=eq_true N7
       replace N8:=eq_true N8
       go_wp2_with (first|(go_at_call 118;(with_reducible refine (jR.calls (jZ ByteArray.empty l0 eJ) false _ A6.out).mono ?_);rintro e w' ⟨rfl,⟨nd,rfl⟩⟩))
       go_roundg k1
       case measure=>have:=uz.out;omega
       case rel=>exact ⟨(wrap64 (eJ + 1)),dG,H',⟨kX⟩,ke⟩
     ·rw [if_neg c5] at H
      exact absurd H aV
    ·rw [if_neg c4] at H
     exact absurd H aV
   ·rw [if_neg c3] at H
    have pW:decide (eJ < (l0.length:Int))=false:=decide_eq_false c3
    clear c3
    obtain rfl:=Option.some.inj H
    go_wp2
    go_ret
    exact ⟨dG,ke⟩
def bJ.f (k:Nat) (l0:List ByteArray):Option (Bool):=(aA.f k l0).bind fun t103=>(some (decide (t103≥0)))
theorem bJ.mono:∀ a0 k,cH (bJ.f k a0) (bJ.f (k + 1) a0):=by
 intro a0 k
 unfold bJ.f
 repeat' first
  |(with_reducible exact aA.mono _ _)
  |(with_reducible exact cH.refl _)
  |(with_reducible exact cH.none _)
  |(with_reducible refine cH.ite ?_ ?_)
  |(with_reducible refine cH.bind ?_ (fun _ =>?_))
  |refine cH.ite ?_ ?_
  |refine cH.bind ?_ (fun _ =>?_)
theorem bJ.calls (k:Nat) (A0:Option Addr) (c0:Nat) (l0:List ByteArray) (r:Bool) (w:World) (zm:Kd.C Kd.string w A0 l0.length l0) (hc0:l0.length≤c0) (h:bJ.f k l0=some r):
 Calls Tryz.prog 59 #[.slice A0 l0.length c0,.func (.func 118) #[] #[]] w fun e w'=>e= .returned (.bool r)∧jr w w':=by
 have xG:=ah.mk zm
 have Qf:=ah.mk hc0
 clear zm hc0
 have H:((aA.f k l0).bind fun t103=>(some (decide (t103≥0))))=some r:=h
 clear h
 replace H:=Option.bind_eq_some_iff.mp H
 obtain ⟨t103,zf,H⟩:=H
 replace H:(some (decide (t103≥0)))=some r:=H
 have A3:=ah.mk zf
 clear zf
 obtain rfl:=Option.some.inj H
 go_enter Tryz.func59,Tryz.ntmps59
 go_wp2_with (first|((with_reducible refine aU (f:=117) rfl ?_);refine cB (some 7) rfl rfl Tryz.func117 av rfl #[.slice A0 l0.length c0,.func (.func 118) #[] #[]] rfl cX ?_;(with_reducible refine (aA.calls k _ _ l0 t103 _ ?aW ?bY A3.out).mono ?_);(case aW=>repeat (first|exact xG.out|(with_reducible refine Kd.dZ ?_ _)|(with_reducible refine Kd.eo ?_ _)|(with_reducible refine Kd.eZ ?_)));(case bY=>exact Qf.out);rintro e w' ⟨rfl,⟨nd,rfl⟩⟩;refine ⟨_,rfl,?_⟩))
 go_ret
 exact ⟨dG,ke⟩
def eK.f (k:Nat) (a0:ByteArray):Option (Bool):=if (a0.size:Int)≤255 then ((strings_Split.f a0 (⟨#[46]⟩:ByteArray)).bind fun t104=>((bJ.f k t104).bind fun t107=>(some (!t107)))) else (some false)
theorem eK.mono:∀ a0 k,cH (eK.f k a0) (eK.f (k + 1) a0):=by
 intro a0 k
 unfold eK.f
 repeat' first
  |(with_reducible exact bJ.mono _ _)
  |(with_reducible exact cH.refl _)
  |(with_reducible exact cH.none _)
  |(with_reducible refine cH.ite ?_ ?_)
  |(with_reducible refine cH.bind ?_ (fun _ =>?_))
  |refine cH.ite ?_ ?_
  |refine cH.bind ?_ (fun _ =>?_)
theorem eK.calls (k:Nat) (a0:ByteArray) (r:Bool) (w:World) (hG:aQ w) (h:eK.f k a0=some r):
 Calls Tryz.prog 61 #[.string a0] w fun e w'=>e= .returned (.bool r)∧Below w.heap.size w w':=by
 have HB:=ah.mk (Below.refl w.heap.size w)
 have HG:=ah.mk hG
 clear hG
 have H:(if (a0.size:Int)≤255 then ((strings_Split.f a0 (⟨#[46]⟩:ByteArray)).bind fun t104=>((bJ.f k t104).bind fun t107=>(some (!t107)))) else (some false))=some r:=h
 clear h
 by_cases c2:(a0.size:Int)≤255
 ·rw [if_pos c2] at H
  have BR:decide ((a0.size:Int)≤255)=true:=decide_eq_true c2
  have N9:decide (a0.size≤255)=true:=decide_eq_true aq
  clear c2
  replace H:=Option.bind_eq_some_iff.mp H
  obtain ⟨t104,zf,H⟩:=H
  replace H:((bJ.f k t104).bind fun t107=>(some (!t107)))=some r:=H
  have A3:=ah.mk zf
  clear zf
  replace H:=Option.bind_eq_some_iff.mp H
  obtain ⟨t107,CC,H⟩:=H
  replace H:(some (!t107))=some r:=H
  have A4:=ah.mk CC
  clear CC
  obtain rfl:=Option.some.inj H
  go_enter Tryz.func61,Tryz.ntmps61
  go_wp2_with (first|(go_at_call 75;(with_reducible refine (strings_Split.calls a0 (⟨#[46]⟩:ByteArray) t104 _ ?aW A3.out).mono ?_);(case aW=>exact aQ.below HG.out cw);rintro e w5 ⟨v105,rfl,ho0,hb⟩;have bL:=ah.mk (Kd.kr ho0 (fL cw));have bS:=ah.mk (aC cw hb);clear HB;have UD:=bL;have HB:=bS;clear bL bS;(try clear hb);(try clear hb2);(try clear hk);(try clear hi);(try clear ho0);obtain ⟨Ao6,co6,eo6⟩:=Kd.fI UD.out;subst eo6)|(go_at_call 59;(with_reducible refine (bJ.calls k _ _ t104 t107 _ ?aW ?bY A4.out).mono ?_);(case aW=>repeat (first|exact (Kd.iy UD.out).2.2|(with_reducible refine Kd.dZ ?_ _)|(with_reducible refine Kd.eo ?_ _)|(with_reducible refine Kd.eZ ?_)));(case bY=>exact (Kd.iy UD.out).2.1);rintro e w' ⟨rfl,⟨nd,rfl⟩⟩))
  go_ret
  exact ⟨cO,cw⟩
 ·rw [if_neg c2] at H
  have BR:decide ((a0.size:Int)≤255)=false:=decide_eq_false c2
  have N9:decide (a0.size≤255)=false:=decide_eq_false aq
  clear c2
  obtain rfl:=Option.some.inj H
  go_enter Tryz.func61,Tryz.ntmps61
  go_wp2
  go_ret
  exact ⟨cO,cw⟩
def ay (w0 W:World) (g:Nat) (f0:ByteArray) (f1:Int):Prop:=W.heap[g]? =some (.cells #[.string f0,.int .i64 f1] 82 (0,0))∧w0.heap.size≤g
theorem ay.grown {w0 W:World} {g:Nat} {f0:ByteArray} {f1:Int} {W1:World} {row:Option Nat} (h:ay w0 W g f0 f1) (hw:W.grownBy W1 row) (hne:some g≠row):ay w0 W1 g f0 f1:=by
 obtain ⟨hb,hg⟩:=h
 exact ⟨rF hb hw hne,hg⟩
theorem ay.kept {w0 W:World} {g:Nat} {f0:ByteArray} {f1:Int} {W1:World} {S:Nat→Prop} (h:ay w0 W g f0 f1) (hk:Kept W W1 S) (hne: ¬ S g):ay w0 W1 g f0 f1:=by
 obtain ⟨hb,hg⟩:=h
 exact ⟨Uz hb hk hne,hg⟩
theorem ay.below {w0 W:World} {g:Nat} {f0:ByteArray} {f1:Int} {W1:World} (h:ay w0 W g f0 f1) (hw:Below W.heap.size W W1):ay w0 W1 g f0 f1:=h.grown (wG hw none) aV
theorem ay.alloc {w0 W:World} {g:Nat} {f0:ByteArray} {f1:Int} (h:ay w0 W g f0 f1) (o:Obj):ay w0 (W.alloc o) g f0 f1:=h.below (aG (Below.refl _ _) o)
theorem ay.drewN {w0 W:World} {g:Nat} {f0:ByteArray} {f1:Int} (h:ay w0 W g f0 f1) (m:Nat):ay w0 (W.drewN m) g f0 f1:=h
theorem ay.drew {w0 W:World} {g:Nat} {f0:ByteArray} {f1:Int} (h:ay w0 W g f0 f1):ay w0 W.drew g f0 f1:=h
theorem ay.at_ {w0 W:World} {g:Nat} {f0:ByteArray} {f1:Int} {w':World} {m:Nat} (hq:W.drewN m=w') (h:ay w0 W g f0 f1):ay w0 w' g f0 f1:=by subst hq;exact ay.drewN h m
theorem ay.apart {w0 W:World} {g:Nat} {f0:ByteArray} {f1:Int} {α:Type} {d:Kd α} {e:Nat} {base:Nat} {ok:Nat→Prop} {v:Value} {xs:List α} (h:ay w0 W g f0 f1) (ho:d.R e W base ok v xs) (ht:∀ q,q∈e :: d.E→q≠82):d.R e W base (fun k=>ok k∧k≠g) v xs:=by
 obtain ⟨hb,hg⟩:=h
 exact Kd.nk ho hb ht
theorem ay.own_ne {w0 W:World} {g:Nat} {f0:ByteArray} {f1:Int} {α:Type} {d:Kd α} {e:Nat} {base:Nat} {ok:Nat→Prop} {v:Value} {xs:List α} (h:ay w0 W g f0 f1) (ho:d.R e W base ok v xs) (ht:e≠82):some g≠v.ownBlock:=by
 obtain ⟨hb,hg⟩:=h
 exact Kd.SD ho hb ht
theorem ay.lt {w0 W:World} {g:Nat} {f0:ByteArray} {f1:Int} (h:ay w0 W g f0 f1):g < W.heap.size:=by
 obtain ⟨hb,hg⟩:=h
 exact kf hb
theorem ay.ge {w0 W:World} {g:Nat} {f0:ByteArray} {f1:Int} (h:ay w0 W g f0 f1):w0.heap.size≤g:=by
 obtain ⟨hb,hg⟩:=h
 exact hg
theorem ay.pU {w0 W:World} {g:Nat} {f0:ByteArray} {f1:Int} {a:Nat} {cs:Array Value} {t:TypeId} {fr:Nat×Nat} (h:ay w0 W g f0 f1) (hb2:W.heap[a]? =some (.cells cs t fr)) (ht:t≠82):g≠a:=by
 obtain ⟨hb,hg⟩:=h
 rintro rfl
 rw [hb] at hb2
 injection hb2 with hb2
 injection hb2 with _ ht2
 exact ht ht2.symm
theorem ay.far {w0 W:World} {g:Nat} {f0:ByteArray} {f1:Int} {p:Addr} (h:ay w0 W g f0 f1) (hne:g≠p.block) (u:Value):ay w0 (W.setCell p u) g f0 f1:=by
 obtain ⟨hb,hg⟩:=h
 exact ⟨iM hb hne u,hg⟩
theorem dI {W:World} {g:Nat} {f0:ByteArray} {f1:Int} (h:W.heap[g]? =some (.cells #[.string f0,.int .i64 f1] 82 (0,0))):W.cell? ⟨g,0,none⟩=some (.string f0):=(af h 0).trans rfl
theorem ay.fH {w0 W:World} {g:Nat} {f0:ByteArray} {f1:Int} (h:ay w0 W g f0 f1) (x:ByteArray):ay w0 (W.setCell ⟨g,0,none⟩ (.string x)) g x f1:=by
 obtain ⟨hb,hg⟩:=h
 exact ⟨by simpa using DI hb 0 (.string x),hg⟩
theorem dB {W:World} {g:Nat} {f0:ByteArray} {f1:Int} (h:W.heap[g]? =some (.cells #[.string f0,.int .i64 f1] 82 (0,0))):W.cell? ⟨g,1,none⟩=some (.int .i64 f1):=(af h 1).trans rfl
theorem ay.fD {w0 W:World} {g:Nat} {f0:ByteArray} {f1:Int} (h:ay w0 W g f0 f1) (x:Int):ay w0 (W.setCell ⟨g,1,none⟩ (.int .i64 x)) g f0 x:=by
 obtain ⟨hb,hg⟩:=h
 exact ⟨by simpa using DI hb 1 (.int .i64 x),hg⟩
theorem ay.new (w0 W:World) (f0:ByteArray) (f1:Int) (hB:Below w0.heap.size w0 W):ay w0 (W.alloc (.cells #[.string f0,.int .i64 f1] 82)) W.heap.size f0 f1:=⟨by simpa using heap_alloc_new W _,hB.size⟩
def bf.f (eP:ByteArray) (cK:Int) (a1:Int):Option (Bool×ByteArray×Int):=if cK < (eP.size:Int) then (if 0≤cK then (if (bt eP cK)=a1 then (some (true,eP,wrap64 (cK + 1))) else (some (false,eP,cK))) else (none)) else (some (false,eP,cK))
theorem bf.calls (g:Nat) (eP:ByteArray) (cK:Int) (a1:Int) (r1:Bool) (r2:ByteArray) (r3:Int) (w0 w:World) (hI:ay w0 w g eP cK) (hB:Below w0.heap.size w0 w) (h:bf.f eP cK a1=some (r1,r2,r3)):
 Calls Tryz.prog 56 #[.pointer (some ⟨g,0,none⟩),.int .u8 a1] w fun e w'=>e= .returned (.bool r1)∧ay w0 w' g r2 r3∧Below w0.heap.size w0 w'∧br w w' g none:=by
 have dx:=ah.mk hI
 have HK:=ah.mk (br.refl w g none)
 have HL:=ah.mk hB.size
 clear hI
 have TQ:=ah.mk hB.size
 have HB:=ah.mk hB
 clear hB
 have H:(if cK < (eP.size:Int) then (if 0≤cK then (if (bt eP cK)=a1 then (some (true,eP,wrap64 (cK + 1))) else (some (false,eP,cK))) else (none)) else (some (false,eP,cK)))=some (r1,r2,r3):=h
 clear h
 by_cases c3:cK < (eP.size:Int)
 ·rw [if_pos c3] at H
  have pW:decide (cK < (eP.size:Int))=true:=decide_eq_true c3
  clear c3
  by_cases c4: 0≤cK
  ·rw [if_pos c4] at H
   have oC:decide (0≤cK)=true:=decide_eq_true c4
   clear c4
   by_cases c6:(bt eP cK)=a1
   ·rw [if_pos c6] at H
    have pP:((bt eP cK) == a1)=true:=beq_iff_eq.mpr c6
    have BU:((bt eP cK) != a1)=false:=bne_eq_false_iff_eq.mpr c6
    clear c6
    simp only [Option.some.injEq,Prod.mk.injEq] at H
    obtain ⟨rfl,rfl,rfl⟩:=H
    obtain ⟨EP,aaE⟩:=dx.out
    have ER:=dI EP
    have ES:=dB EP
    have ET:=aa EP 0
    have EU:=aa EP 1
    clear EP aaE
    have p5: 0≤(cK:Int):=of_decide_eq_true cL
    have q5:cK < (eP.size:Int):=of_decide_eq_true cL
    have hx5:=gI eP cK
    replace p5:=eq_true p5
    replace q5:=eq_true q5
    go_enter Tryz.func56,Tryz.ntmps56
    go_wp2
    repeat (go_quiet (fail);try go_wp2)
    go_ret
    exact ⟨cO,gU,gT,ez⟩
   ·rw [if_neg c6] at H
    have pP:((bt eP cK) == a1)=false:=beq_eq_false_iff_ne.mpr c6
    have BU:((bt eP cK) != a1)=true:=bne_iff_ne.mpr c6
    simp only [Option.some.injEq,Prod.mk.injEq] at H
    obtain ⟨rfl,rfl,rfl⟩:=H
    obtain ⟨EW,aaF⟩:=dx.out
    have wL:=dI EW
    have wM:=dB EW
    have wN:=aa EW 0
    have wO:=aa EW 1
    clear EW aaF
    have p5: 0≤(cK:Int):=of_decide_eq_true cL
    have q5:cK < (eP.size:Int):=of_decide_eq_true cL
    have hx5:=gI eP cK
    replace p5:=eq_true p5
    replace q5:=eq_true q5
    go_enter Tryz.func56,Tryz.ntmps56
    go_wp2
    repeat (go_quiet (fail);try go_wp2)
    go_ret
    exact ⟨cO,gU,gT,ez⟩
  ·rw [if_neg c4] at H
   exact absurd H aV
 ·rw [if_neg c3] at H
  have pW:decide (cK < (eP.size:Int))=false:=decide_eq_false c3
  clear c3
  simp only [Option.some.injEq,Prod.mk.injEq] at H
  obtain ⟨rfl,rfl,rfl⟩:=H
  obtain ⟨oZ,IB⟩:=dx.out
  have pX:=dI oZ
  have pY:=dB oZ
  have pZ:=aa oZ 0
  have p8:=aa oZ 1
  clear oZ IB
  go_enter Tryz.func56,Tryz.ntmps56
  go_wp2
  repeat (go_quiet (fail);try go_wp2)
  go_ret
  exact ⟨cO,gU,gT,ez⟩
def jl.f (a0:Int):Option (Bool):=if a0≥97 then (if a0≤122 then (some true) else (if a0≥65 then (some (decide (a0≤90))) else (some false))) else (if a0≥65 then (some (decide (a0≤90))) else (some false))
theorem jl.calls (a0:Int) (r:Bool) (w:World) (h:jl.f a0=some r):
 Calls Tryz.prog 157 #[.int .u8 a0] w fun e w'=>e= .returned (.bool r)∧jr w w':=by
 have H:(if a0≥97 then (if a0≤122 then (some true) else (if a0≥65 then (some (decide (a0≤90))) else (some false))) else (if a0≥65 then (some (decide (a0≤90))) else (some false)))=some r:=h
 clear h
 by_cases c2:a0≥97
 ·rw [if_pos c2] at H
  have BR:decide (97≤a0)=true:=decide_eq_true c2
  clear c2
  by_cases c3:a0≤122
  ·rw [if_pos c3] at H
   have pW:decide (a0≤122)=true:=decide_eq_true c3
   clear c3
   obtain rfl:=Option.some.inj H
   go_enter Tryz.func157,Tryz.ntmps157
   go_wp2
   go_ret
   exact ⟨dG,ke⟩
  ·rw [if_neg c3] at H
   have pW:decide (a0≤122)=false:=decide_eq_false c3
   clear c3
   by_cases c4:a0≥65
   ·rw [if_pos c4] at H
    have oC:decide (65≤a0)=true:=decide_eq_true c4
    clear c4
    obtain rfl:=Option.some.inj H
    go_enter Tryz.func157,Tryz.ntmps157
    go_wp2
    go_ret
    exact ⟨dG,ke⟩
   ·rw [if_neg c4] at H
    have oC:decide (65≤a0)=false:=decide_eq_false c4
    clear c4
    obtain rfl:=Option.some.inj H
    go_enter Tryz.func157,Tryz.ntmps157
    go_wp2
    go_ret
    exact ⟨dG,ke⟩
 ·rw [if_neg c2] at H
  have BR:decide (97≤a0)=false:=decide_eq_false c2
  clear c2
  by_cases c5:a0≥65
  ·rw [if_pos c5] at H
   have tR:decide (65≤a0)=true:=decide_eq_true c5
   clear c5
   obtain rfl:=Option.some.inj H
   go_enter Tryz.func157,Tryz.ntmps157
   go_wp2
   go_ret
   exact ⟨dG,ke⟩
  ·rw [if_neg c5] at H
   have tR:decide (65≤a0)=false:=decide_eq_false c5
   clear c5
   obtain rfl:=Option.some.inj H
   go_enter Tryz.func157,Tryz.ntmps157
   go_wp2
   go_ret
   exact ⟨dG,ke⟩
def je.f (a0:Int):Option (Bool):=if a0≥48 then (some (decide (a0≤57))) else (some false)
theorem je.calls (a0:Int) (r:Bool) (w:World) (h:je.f a0=some r):
 Calls Tryz.prog 158 #[.int .u8 a0] w fun e w'=>e= .returned (.bool r)∧jr w w':=by
 have H:(if a0≥48 then (some (decide (a0≤57))) else (some false))=some r:=h
 clear h
 by_cases c2:a0≥48
 ·rw [if_pos c2] at H
  have BR:decide (48≤a0)=true:=decide_eq_true c2
  clear c2
  obtain rfl:=Option.some.inj H
  go_enter Tryz.func158,Tryz.ntmps158
  go_wp2
  go_ret
  exact ⟨dG,ke⟩
 ·rw [if_neg c2] at H
  have BR:decide (48≤a0)=false:=decide_eq_false c2
  clear c2
  obtain rfl:=Option.some.inj H
  go_enter Tryz.func158,Tryz.ntmps158
  go_wp2
  go_ret
  exact ⟨dG,ke⟩
def eI.f (a0:Int):Option (Bool):=(jl.f a0).bind fun t108=>(if t108=true then (some true) else ((je.f a0).bind fun t109=>(if t109=true then (some true) else (some (a0 == 45)))))
theorem eI.calls (a0:Int) (r:Bool) (w:World) (h:eI.f a0=some r):
 Calls Tryz.prog 168 #[.int .u8 a0] w fun e w'=>e= .returned (.bool r)∧jr w w':=by
 have H:((jl.f a0).bind fun t108=>(if t108=true then (some true) else ((je.f a0).bind fun t109=>(if t109=true then (some true) else (some (a0 == 45))))))=some r:=h
 clear h
 replace H:=Option.bind_eq_some_iff.mp H
 obtain ⟨t108,nr,H⟩:=H
 replace H:(if t108=true then (some true) else ((je.f a0).bind fun t109=>(if t109=true then (some true) else (some (a0 == 45)))))=some r:=H
 have A2:=ah.mk nr
 clear nr
 by_cases c3:t108=true
 ·subst c3
  have H1:(some true)=some r:=by rw [if_pos rfl] at H;exact H
  clear H
  have H:=H1
  clear H1
  obtain rfl:=Option.some.inj H
  go_enter Tryz.func168,Tryz.ntmps168
  go_wp2_with (first|((with_reducible refine aU (f:=157) rfl ?_);refine cB (some 4) rfl rfl Tryz.func157 av rfl #[.int .u8 a0] rfl cX ?_;(with_reducible refine (jl.calls a0 true _ A2.out).mono ?_);rintro e w' ⟨rfl,⟨nd,rfl⟩⟩;refine ⟨_,rfl,?_⟩))
  go_ret
  exact ⟨dG,ke⟩
 ·replace c3:=Bool.eq_false_iff.mpr c3
  subst c3
  have H1:((je.f a0).bind fun t109=>(if t109=true then (some true) else (some (a0 == 45))))=some r:=by rw [if_neg (show ¬ (false=true) by decide)] at H;exact H
  clear H
  have H:=H1
  clear H1
  replace H:=Option.bind_eq_some_iff.mp H
  obtain ⟨t109,CC,H⟩:=H
  replace H:(if t109=true then (some true) else (some (a0 == 45)))=some r:=H
  have A4:=ah.mk CC
  clear CC
  by_cases c5:t109=true
  ·subst c5
   have H1:(some true)=some r:=by rw [if_pos rfl] at H;exact H
   clear H
   have H:=H1
   clear H1
   obtain rfl:=Option.some.inj H
   go_enter Tryz.func168,Tryz.ntmps168
   go_wp2_with (first|((with_reducible refine aU (f:=157) rfl ?_);refine cB (some 4) rfl rfl Tryz.func157 av rfl #[.int .u8 a0] rfl cX ?_;(with_reducible refine (jl.calls a0 false _ A2.out).mono ?_);rintro e w' ⟨rfl,⟨nd,rfl⟩⟩;refine ⟨_,rfl,?_⟩)|(go_at_call 158;(with_reducible refine (je.calls a0 true _ A4.out).mono ?_);rintro e w' ⟨rfl,⟨nd,rfl⟩⟩))
   go_ret
   exact ⟨dG,ke⟩
  ·replace c5:=Bool.eq_false_iff.mpr c5
   subst c5
   have H1:(some (a0 == 45))=some r:=by rw [if_neg (show ¬ (false=true) by decide)] at H;exact H
   clear H
   have H:=H1
   clear H1
   obtain rfl:=Option.some.inj H
   go_enter Tryz.func168,Tryz.ntmps168
   go_wp2_with (first|((with_reducible refine aU (f:=157) rfl ?_);refine cB (some 4) rfl rfl Tryz.func157 av rfl #[.int .u8 a0] rfl cX ?_;(with_reducible refine (jl.calls a0 false _ A2.out).mono ?_);rintro e w' ⟨rfl,⟨nd,rfl⟩⟩;refine ⟨_,rfl,?_⟩)|(go_at_call 158;(with_reducible refine (je.calls a0 false _ A4.out).mono ?_);rintro e w' ⟨rfl,⟨nd,rfl⟩⟩))
   go_ret
   exact ⟨dG,ke⟩
end Go.Proofs.YtokpnfljjjjikaaGreatDoor.nK
