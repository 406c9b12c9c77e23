import Derived.Test.YtbjjaaodfbjkfaaGreatDoorEQue2
set_option maxHeartbeats 4000000
set_option maxRecDepth 100000
namespace Go.Proofs.YtbjjaaodfbjkfaaGreatDoor.qb
open Go.RowKit Go.Proofs.aj.bQ Go.Proofs.aj.dX Go.Proofs.aj.dJ
set_option linter.unusedVariables false
set_option linter.unusedSimpArgs false
abbrev iT (kind id at_ due:Int) (m:Ml) (A2:Option Addr) (c2:Nat) (A6:Option Addr) (c6:Nat) (A7:Option Addr) (c7:Nat):Array Value:=
 #[.int .u8 kind,.int .i64 id,.int .i64 at_,.int .i64 due,.int .i64 m.f0,.bool m.f1.f0,.slice A2 m.f1.f1.length c2,.string m.f1.f2.f0,.string m.f1.f2.f1,.bool m.f1.f2.f2,.slice A6 m.f2.length c6,.slice A7 m.f3.length c7,.int .i64 m.f4]
structure MR (w0:World) (m:Ml) (A2:Option Addr) (c2:Nat) (A6:Option Addr) (c6:Nat) (A7:Option Addr) (c7:Nat):Prop where
 r2:Kd.C Kd.string w0 A2 m.f1.f1.length m.f1.f1
 c2:m.f1.f1.length≤c2
 r6:Kd.C mV w0 A6 m.f2.length m.f2
 c6:m.f2.length≤c6
 r7:Kd.C (Kd.int .u8) w0 A7 m.f3.length m.f3
 c7:m.f3.length≤c7
theorem MR.below {w0 w1:World} {m:Ml} {A2:Option Addr} {c2:Nat} {A6:Option Addr} {c6:Nat} {A7:Option Addr} {c7:Nat} (h:MR w0 m A2 c2 A6 c6 A7 c7) (hb:Below w0.heap.size w0 w1):MR w1 m A2 c2 A6 c6 A7 c7:=
 ⟨Kd.bG h.r2 hb,h.c2,Kd.bG h.r6 hb,h.c6,Kd.bG h.r7 hb,h.c7⟩
def yC (m:Ml):Prop:=m.f1.f1.length * 16≤140737488355328∧m.f2.length * 64≤140737488355328∧m.f3.length * 1≤140737488355328
theorem Io {m:Ml} (h:yC m):iB.f m.f0 m.f1.f0 m.f1.f1 m.f1.f2.f0 m.f1.f2.f1 m.f1.f2.f2 m.f2 m.f3 m.f4=some (m.f0,m.f1.f0,m.f1.f1,m.f1.f2.f0,m.f1.f2.f1,m.f1.f2.f2,m.f2,m.f3,m.f4):=by
 obtain ⟨h1,h2,h3⟩:=h
 unfold iB.f eH.f dR.f fR.f
 rw [if_pos h1,if_pos h2,if_pos h3]
 rfl
variable {w0 w:World} {gq:Nat} {n:Int} {v:Value} {ms:List Ml} {id at_ due:Int} {m:Ml} {A2:Option Addr} {c2:Nat} {A6:Option Addr} {c6:Nat} {A7:Option Addr} {c7:Nat}
theorem Sm (hW:QW w0 w gq n v ms) (hR:MR w0 m A2 c2 A6 c6 A7 c7) (hown:yC m) (hlen:(ms.length + 1) * 136≤140737488355328):
 Calls Tryz.prog 59 #[.pointer (some ⟨gq,0,none⟩),.agg (iT 1 id at_ due m A2 c2 A6 c6 A7 c7)] w fun e w'=>e= .returned (.bool (decide (n≤m.f0) && decide (ms.length < 1000)))∧∃ v',QW w0 w' gq (wrap64 (m.f0 + 1)) v' (ms ++ [m]):=by
 have hu1:=Tryz.underlying46
 have hu2:=Tryz.underlying40
 have hu3:=Tryz.underlying34
 obtain ⟨Av,cv,rfl⟩:=Kd.ji hW.hs
 have yD:=ah.mk (hW.below (cW (Below.refl _ _) (.cells (iT 1 id at_ due m A2 c2 A6 c6 A7 c7) 46)))
 have hq0:(w.alloc (.cells (iT 1 id at_ due m A2 c2 A6 c6 A7 c7) 46)).cell? ⟨gq,0,none⟩=some (.int .i64 n):=(af yD.out.hq 0).trans rfl
 have hq1:(w.alloc (.cells (iT 1 id at_ due m A2 c2 A6 c6 A7 c7) 46)).cell? ⟨gq,1,none⟩=some (.slice Av ms.length cv):=(af yD.out.hq 1).trans rfl
 have HA:=ah.mk (fun (W:World) (hw:QW w0 W gq n (.slice Av ms.length cv) ms)=>Pw.calls m A2 c2 A6 c6 A7 c7 gq n (.slice Av ms.length cv) ms w0 W hw (hR.below hw.bl).r2 hR.c2 (hR.below hw.bl).r6 hR.c6 (hR.below hw.bl).r7 hR.c7 (Io hown) hlen)
 have HK:=ah.mk (fun (b:Bool) (h:b=(decide (n≤m.f0) && decide (ms.length < 1000)))=>h)
 clear hW hR hown hlen
 by_cases h1:n≤m.f0
 ·have e1:decide (n≤m.f0)=true:=decide_eq_true h1
  by_cases h2:ms.length < 1000
  ·have e2:decide ((ms.length:Int) < 1000)=true:=decide_eq_true ay
   have e3:decide (ms.length < 1000)=true:=decide_eq_true h2
   rw [e1,e3]
   clear h1 h2
   go_enter Tryz.func59,Tryz.ntmps59
   go_wp2
   go_quiet (fail)
   go_wp2_with (go_at_call 103;refine (HA.out _ ?Ip).mono ?_;(case Ip=>exact yD.out.below (eF (Below.refl _ _) _));rintro e w1 ⟨rfl,v1,hv1⟩;have HV:=ah.mk hv1;clear hv1)
   go_ret
   exact ⟨rfl,_,HV.out⟩
  ·have e2:decide ((ms.length:Int) < 1000)=false:=decide_eq_false ay
   have e3:decide (ms.length < 1000)=false:=decide_eq_false h2
   rw [e1,e3]
   clear h1 h2
   go_enter Tryz.func59,Tryz.ntmps59
   go_wp2
   go_quiet (fail)
   go_wp2_with (go_at_call 103;refine (HA.out _ ?Ip).mono ?_;(case Ip=>exact yD.out.below (eF (Below.refl _ _) _));rintro e w1 ⟨rfl,v1,hv1⟩;have HV:=ah.mk hv1;clear hv1)
   go_ret
   exact ⟨rfl,_,HV.out⟩
 ·have e1:decide (n≤m.f0)=false:=decide_eq_false h1
  rw [e1]
  clear h1
  go_enter Tryz.func59,Tryz.ntmps59
  go_wp2
  go_quiet (fail)
  go_wp2_with (go_at_call 103;refine (HA.out _ ?Ip).mono ?_;(case Ip=>exact yD.out.below (eF (Below.refl _ _) _));rintro e w1 ⟨rfl,v1,hv1⟩;have HV:=ah.mk hv1;clear hv1)
  go_ret
  exact ⟨rfl,_,HV.out⟩
theorem Px (hW:QW w0 w gq n v ms):
 Calls Tryz.prog 59 #[.pointer (some ⟨gq,0,none⟩),.agg (iT 6 id at_ due m A2 c2 A6 c6 A7 c7)] w fun e w'=>e= .returned (.bool (decide (n < id)))∧∃ v',QW w0 w' gq id v' ms:=by
 have hu1:=Tryz.underlying46
 have hu2:=Tryz.underlying40
 have yD:=ah.mk (hW.below (cW (Below.refl _ _) (.cells (iT 6 id at_ due m A2 c2 A6 c6 A7 c7) 46)))
 have hq0:(w.alloc (.cells (iT 6 id at_ due m A2 c2 A6 c6 A7 c7) 46)).cell? ⟨gq,0,none⟩=some (.int .i64 n):=(af yD.out.hq 0).trans rfl
 have hf0:=aa yD.out.hq 0
 have hne:=Ne.symm (Nat.ne_of_lt (fu hW.hq))
 have aJr:=Nat.ne_of_lt (fu hW.hq)
 clear hW
 obtain ⟨b,hb⟩:∃ b,b=decide (n < id):=⟨_,rfl⟩
 rw [← hb]
 cases b
 all_goals
  replace hb:=hb.symm
  have e1:decide (id > n)=decide (n < id):=rfl
  rw [hb] at e1
  go_enter Tryz.func59,Tryz.ntmps59
  go_wp2
  go_quiet (fail)
  go_wp2
  go_ret
  exact ⟨rfl,_,QW.aja (yD.out.below (eF (Below.refl _ _) _)) id⟩
end Go.Proofs.YtbjjaaodfbjkfaaGreatDoor.qb
