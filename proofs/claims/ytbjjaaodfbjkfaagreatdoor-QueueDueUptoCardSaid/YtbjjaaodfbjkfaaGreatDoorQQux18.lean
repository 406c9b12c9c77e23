import Derived.Test.YtbjjaaodfbjkfaaGreatDoorQQux0
namespace Go.Proofs.YtbjjaaodfbjkfaaGreatDoor.ow
open Go.RowKit Go.Proofs.ak.bY Go.Proofs.ak.dU Go.Proofs.ak.dJ
attribute [local go_sem] jt ju kH kI iw iy jv jw
set_option linter.unusedVariables false
set_option linter.unusedSimpArgs false
def dX.l0:Nat→List Int→List Int→Int→Int→Option (Bool)
 | 0,_,_,_,_ =>none
 |k + 1,x0,x1,wQ,nX=>if nX < wQ then (if 0≤nX then (if nX < (x0.length:Int) then (if nX < (x1.length:Int) then (if (rd x0 nX)=(rd x1 nX) then (dX.l0 k x0 x1 wQ (wrap64 (nX + 1))) else (some false)) else (none)) else (none)) else (none)) else (some true)
def dX.f (k:Nat) (l0:List Int) (l1:List Int):Option (Bool):=if (l0.length:Int)=(l1.length:Int) then (dX.l0 k l0 l1 (l0.length:Int) 0) else (some false)
set_option maxHeartbeats 8000000 in
set_option maxRecDepth 100000 in
theorem dX.calls (k:Nat) (A0:Option Addr) (c0:Nat) (l0:List Int) (A1:Option Addr) (c1:Nat) (l1:List Int) (r:Bool) (w:World) (nZ:Kd.C (Kd.int .i64) w A0 l0.length l0) (hc0:l0.length≤c0) (hr1:Kd.C (Kd.int .i64) w A1 l1.length l1) (hc1:l1.length≤c1) (h:dX.f k l0 l1=some r):
 Calls Tryz.prog 29 #[.slice A0 l0.length c0,.slice A1 l1.length c1] w fun e w'=>e= .returned (.bool r)∧ia w w':=by
 have qN:=ah.mk nZ
 have Eg:=ah.mk hc0
 clear nZ hc0
 have Cy:=ah.mk hr1
 have HC1:=ah.mk hc1
 clear hr1 hc1
 have H:(if (l0.length:Int)=(l1.length:Int) then (dX.l0 k l0 l1 (l0.length:Int) 0) else (some false))=some r:=h
 clear h
 by_cases c3:(l0.length:Int)=(l1.length:Int)
 ·rw [if_pos c3] at H
  have nT:((l0.length:Int) == (l1.length:Int))=true:=beq_iff_eq.mpr c3
  have tZ:((l0.length:Int) != (l1.length:Int))=false:=bne_eq_false_iff_eq.mpr c3
  have Fa:(l0.length == l1.length)=true:=by first|simpa using c3|(simp at c3 ⊢;omega)
  clear c3
  have H':=ah.mk H
  clear H
  go_enter Tryz.func29,Tryz.ntmps29
  go_wp2
  repeat (go_quiet (fail);try go_wp2)
  go_loopg [13] k (fun kq v13 w'=>∃ (bp:Int),v13= .int .i64 bp∧ah (dX.l0 kq l0 l1 (l0.length:Int) bp=some r)∧ah (kq≤k)∧ia w w')
  case atStart=>exact ⟨(0),zI,H',⟨Nat.le_refl _⟩,jl⟩
  case round=>
   clear H'
   try clear c1
   try clear c2
   try clear p2
   try clear c3
   try clear nT
   try clear tZ
   try clear Fa
   obtain ⟨bp,rfl,HA,oI,⟨m1,rfl⟩⟩:=hrel
   cases gk with
   |zero=>exact absurd HA.out (by simp [dX.l0])
   |succ k1=>
    have H:=HA.out
    clear HA
    simp only [dX.l0] at H
    by_cases c4:bp < (l0.length:Int)
    ·rw [if_pos c4] at H
     have ng:decide (bp < (l0.length:Int))=true:=decide_eq_true c4
     clear c4
     by_cases c5: 0≤bp
     ·rw [if_pos c5] at H
      have qu:decide (0≤bp)=true:=decide_eq_true c5
      clear c5
      by_cases c6:bp < (l0.length:Int)
      ·rw [if_pos c6] at H
       have xm:decide (bp < (l0.length:Int))=true:=decide_eq_true c6
       clear c6
       by_cases c7:bp < (l1.length:Int)
       ·rw [if_pos c7] at H
        have E1:decide (bp < (l1.length:Int))=true:=decide_eq_true c7
        clear c7
        by_cases c8:(rd l0 bp)=(rd l1 bp)
        ·rw [if_pos c8] at H
         have yB:((rd l0 bp) == (rd l1 bp))=true:=beq_iff_eq.mpr c8
         have Jy:((rd l0 bp) != (rd l1 bp))=false:=bne_eq_false_iff_eq.mpr c8
         clear c8
         have H':=ah.mk H
         clear H
         have O3: 0≤(bp:Int):=of_decide_eq_true xe
         have O4:bp < (l0.length:Int):=of_decide_eq_true xe
         obtain ⟨ao5,ahP,adN⟩:=Kd.qB qN.out bp O3 O4
         cases ahP
         replace O3:=eq_true O3
         replace O4:=eq_true O4
         have O5: 0≤(bp:Int):=of_decide_eq_true xe
         have O6:bp < (l1.length:Int):=of_decide_eq_true xe
         obtain ⟨ao6,ahQ,adO⟩:=Kd.qB Cy.out bp O5 O6
         cases ahQ
         replace O5:=eq_true O5
         replace O6:=eq_true O6
         go_wp2
         repeat (go_quiet (fail);try go_wp2)
         go_roundg k1
         case measure=>have:=oI.out;omega
         case rel=>exact ⟨(wrap64 (bp + 1)),zI,H',⟨lS⟩,jl⟩
        ·rw [if_neg c8] at H
         have yB:((rd l0 bp) == (rd l1 bp))=false:=beq_eq_false_iff_ne.mpr c8
         have Jy:((rd l0 bp) != (rd l1 bp))=true:=bne_iff_ne.mpr c8
         obtain rfl:=Option.some.inj H
         have O3: 0≤(bp:Int):=of_decide_eq_true xe
         have O4:bp < (l0.length:Int):=of_decide_eq_true xe
         obtain ⟨ao5,ahP,adN⟩:=Kd.qB qN.out bp O3 O4
         cases ahP
         replace O3:=eq_true O3
         replace O4:=eq_true O4
         have O5: 0≤(bp:Int):=of_decide_eq_true xe
         have O6:bp < (l1.length:Int):=of_decide_eq_true xe
         obtain ⟨ao6,ahQ,adO⟩:=Kd.qB Cy.out bp O5 O6
         cases ahQ
         replace O5:=eq_true O5
         replace O6:=eq_true O6
         go_wp2
         repeat (go_quiet (fail);try go_wp2)
         go_ret
         exact ⟨zI,jl⟩
       ·rw [if_neg c7] at H
        exact absurd H dz
      ·rw [if_neg c6] at H
       exact absurd H dz
     ·rw [if_neg c5] at H
      exact absurd H dz
    ·rw [if_neg c4] at H
     have ng:decide (bp < (l0.length:Int))=false:=decide_eq_false c4
     clear c4
     obtain rfl:=Option.some.inj H
     go_wp2
     repeat (go_quiet (fail);try go_wp2)
     go_ret
     exact ⟨zI,jl⟩
 ·rw [if_neg c3] at H
  have nT:((l0.length:Int) == (l1.length:Int))=false:=beq_eq_false_iff_ne.mpr c3
  have tZ:((l0.length:Int) != (l1.length:Int))=true:=bne_iff_ne.mpr c3
  have Fa:(l0.length == l1.length)=false:=by first|simpa using c3|(simp at c3 ⊢;omega)
  obtain rfl:=Option.some.inj H
  go_enter Tryz.func29,Tryz.ntmps29
  go_wp2
  repeat (go_quiet (fail);try go_wp2)
  go_ret
  exact ⟨zI,jl⟩
end Go.Proofs.YtbjjaaodfbjkfaaGreatDoor.ow
