import Derived.Test.YtokpnfljjjjikaaGreatDoorEStr
set_option maxHeartbeats 1600000
set_option maxRecDepth 100000
namespace Go.Proofs.YtokpnfljjjjikaaGreatDoor
open Go.RowKit Go.Proofs.aj.bw Go.Proofs.aj.cj
set_option linter.unusedVariables false
theorem rP (w:World):(callFunc 202 #[]).run Tryz.prog w= .ok (.value (.tuple #[])) w:=run_call_mark0 Tryz.func202 ay ay ay .disable ay w
theorem tF (w:World):(callFunc 204 #[]).run Tryz.prog w= .ok (.value (.tuple #[])) w:=run_call_mark0 Tryz.func204 ay ay ay .enable ay w
theorem zR (a:Addr) (w:World):(callFunc 205 #[.pointer (some a)]).run Tryz.prog w= .ok (.value (.tuple #[])) w:=run_call_marked Tryz.func205 ay ay ay .acquire ay a w
theorem rQ (a:Addr) (w:World):(callFunc 207 #[.pointer (some a)]).run Tryz.prog w= .ok (.value (.tuple #[])) w:=run_call_marked Tryz.func207 ay ay ay .releaseMerge ay a w
theorem vW (a:Addr) (x:Value) (u:FrameMode) (w:World) (hc:w.cell? a=some x) (hz:w.frozen? a=false):
 CallsD Tryz.prog 184 #[.pointer (some a),.bool true] u w fun e u' w'=>u'=u∧(e= .returned (.tuple #[])∧w'=w.drew.setCell a (.int .u32 1)):=by
 have hc':w.drew.cell? a=some x:=by go_simp
 have hz':w.drew.frozen? a=false:=by go_simp
 have hst:=run_call_store (P:=Tryz.prog) Tryz.func197 ay ay ay ay (k:= .u32) (y:=1) hc' hz'
 go_enter_d Tryz.func184,Tryz.ntmps184
 go_wp2
 go_region_calls
 all_goals (go_end0;exact ⟨rfl,rfl⟩)
theorem uo (a:Addr) (u:FrameMode) (w:World) (hc:w.cell? a=some (.int .i32 1)) (hz:w.frozen? a=false):
 CallsD Tryz.prog 183 #[.pointer (some a)] u w fun e u' w'=>u'=u∧(e= .returned (.tuple #[])∧w'=w.setCell a (.int .i32 0)):=by
 have hd:=rP
 have he:=tF
 have hr:=rQ
 have hadd:=run_call_add (P:=Tryz.prog) Tryz.func208 ay ay ay .i32 ay (y:=-1) (s:=0) hc hz (by simp [go_sem];rfl)
 have hcv:=run_convert_to_unsafe (P:=Tryz.prog) (src:=219) (dst:=155) Tryz.underlying219 Tryz.underlying155 ay hc
 go_enter_d Tryz.func183,Tryz.ntmps183
 go_wp2
 go_end0
 go_wp2
 go_end0
 exact ⟨rfl,rfl⟩
theorem GF (a:Addr) (w:World) (hc:w.cell? a=some (.int .i32 0)) (hz:w.frozen? a=false):
 Calls Tryz.prog 182 #[.pointer (some a)] w fun e w'=>e= .returned (.tuple #[])∧w'=w.setCell a (.int .i32 1):=by
 have hd:=rP
 have he:=tF
 have ha:=zR
 have aeL:=run_call_cas_hit (P:=Tryz.prog) Tryz.func203 ay ay ay .i32 ay (y:=1) hc hz
 have hc':(w.setCell a (.int .i32 1)).cell? a=some (.int .i32 1):=World.cell?_setCell_same w a _ hc
 have hcv:=run_convert_to_unsafe (P:=Tryz.prog) (src:=219) (dst:=155) Tryz.underlying219 Tryz.underlying155 ay hc'
 go_enter Tryz.func182,Tryz.ntmps182
 go_wp2
 first|go_end0|(simp only [Exit.inBlock,Exit.then];refine bodyPost_ret (results_none rfl _ _ _) rfl ?_)|refine bodyPost_ret (results_none rfl _ _ _) rfl ?_
 go_wp2
 go_end0
 exact ⟨rfl,rfl⟩
theorem GG (p:Nat) (w:World) (Q:World→Prop)
 (h0:w.cell? ⟨p,0,none⟩=some (.int .u32 0)) (h1:w.cell? ⟨p,1,none⟩=some (.int .i32 0))
 (f0:w.frozen? ⟨p,0,none⟩=false) (f1:w.frozen? ⟨p,1,none⟩=false)
 (hQ:∀ w1,Q w1→w1.cell? ⟨p,0,none⟩=some (.int .u32 0)∧w1.cell? ⟨p,1,none⟩=some (.int .i32 1)∧w1.frozen? ⟨p,0,none⟩=false∧w1.frozen? ⟨p,1,none⟩=false)
 (hf:Calls Tryz.prog 122 #[.pointer (some ⟨p,0,none⟩)] (w.setCell ⟨p,1,none⟩ (.int .i32 1)) fun e w'=>e= .returned (.tuple #[])∧Q w'):
 Calls Tryz.prog 161 #[.pointer (some ⟨p,0,none⟩),.func (.func 122) #[.pointer (some ⟨p,0,none⟩)] #[]] w fun e w'=>e= .returned (.tuple #[])∧
  ∃ w1,Q w1∧w'=(w1.drew.setCell ⟨p,0,none⟩ (.int .u32 1)).setCell ⟨p,1,none⟩ (.int .i32 0):=by
 have hl:=run_call_load (P:=Tryz.prog) Tryz.func181 ay ay ay .u32 ay (w:=w.setCell ⟨p,1,none⟩ (.int .i32 1)) (a:=⟨p,0,none⟩) (x:=0) ((World.cell?_setCell_other _ ⟨p,1,none⟩ ⟨p,0,none⟩ _ bB).trans h0)
 have hnot:∀ (x:Bool) (w:World),(Op.unary .not (.bool x)).run Tryz.prog w= .ok (.bool (!x)) w:=fun _ _ =>rfl
 go_enter_defers Tryz.func161,Tryz.ntmps161
 go_wp2_with (go_at_call 182;refine (GF ⟨p,1,none⟩ _ (by go_simp) (by go_simp)).mono ?_;rintro e w' ⟨rfl,rfl⟩)
 go_wp2_with (first|(go_at_call 122;refine hf.mono ?_;rintro e w1 ⟨rfl,hq⟩;have HQ:=Lib.hid hq;clear hq)|(go_at_call 160;go_in))
 obtain ⟨q0,q1,z0,z1⟩:=hQ _ HQ.out
 refine leaves_cons (f:=184) (args:=#[.pointer (some ⟨p,0,none⟩),.bool true]) bB (by simp [go_sem]) ?_
 refine (vW ⟨p,0,none⟩ (.int .u32 0) .returning _ q0 z0).mono ?_
 rintro e u' w'' ⟨rfl,rfl,rfl⟩
 refine leaves_cons (f:=183) (args:=#[.pointer (some ⟨p,1,none⟩)]) (by simp [settle]) (by simp [go_sem]) ?_
 refine (uo ⟨p,1,none⟩ _ _ ?_ (by simp [z1])).mono ?_
 ·refine (World.cell?_setCell_other _ ⟨p,0,none⟩ ⟨p,1,none⟩ _ bB).trans ?_
  rw [World.cell?_drew]
  exact q1
 rintro e u' w'' ⟨rfl,rfl,rfl⟩
 simp [Leaves,settle,results,Tryz.results161]
 exact ⟨_,HQ.out,rfl⟩
theorem Mn (p:Nat) (w:World) (Q:World→Prop)
 (h0:w.cell? ⟨p,0,none⟩=some (.int .u32 0)) (h1:w.cell? ⟨p,1,none⟩=some (.int .i32 0))
 (f0:w.frozen? ⟨p,0,none⟩=false) (f1:w.frozen? ⟨p,1,none⟩=false)
 (hQ:∀ w1,Q w1→w1.cell? ⟨p,0,none⟩=some (.int .u32 0)∧w1.cell? ⟨p,1,none⟩=some (.int .i32 1)∧w1.frozen? ⟨p,0,none⟩=false∧w1.frozen? ⟨p,1,none⟩=false)
 (hf:Calls Tryz.prog 122 #[.pointer (some ⟨p,0,none⟩)] (w.setCell ⟨p,1,none⟩ (.int .i32 1)) fun e w'=>e= .returned (.tuple #[])∧Q w'):
 Calls Tryz.prog 121 #[.pointer (some ⟨p,0,none⟩),.func (.func 122) #[.pointer (some ⟨p,0,none⟩)] #[]] w fun e w'=>e= .returned (.tuple #[])∧
  ∃ w1,Q w1∧w'=(w1.drew.setCell ⟨p,0,none⟩ (.int .u32 1)).setCell ⟨p,1,none⟩ (.int .i32 0):=by
 have hl:=run_call_load (P:=Tryz.prog) Tryz.func181 ay ay ay .u32 ay h0
 have hnot:∀ (x:Bool) (w:World),(Op.unary .not (.bool x)).run Tryz.prog w= .ok (.bool (!x)) w:=fun _ _ =>rfl
 have HS:=Lib.hid (GG p w Q h0 h1 f0 f1 hQ hf)
 clear hQ hf
 go_enter Tryz.func121,Tryz.ntmps121
 go_wp2_with (first|(go_at_call 161;refine HS.out.mono ?_;rintro e w' ⟨rfl,hq⟩;have HQ:=Lib.hid hq;clear hq)|(go_at_call 160;go_in))
 go_end0
 exact ⟨rfl,HQ.out⟩
end Go.Proofs.YtokpnfljjjjikaaGreatDoor
