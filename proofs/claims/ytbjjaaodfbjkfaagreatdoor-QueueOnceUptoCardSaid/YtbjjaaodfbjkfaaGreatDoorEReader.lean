import Derived.Test.YtbjjaaodfbjkfaaGreatDoorQQux11
set_option maxHeartbeats 4000000
set_option maxRecDepth 100000
namespace Go.Proofs.YtbjjaaodfbjkfaaGreatDoor.mU
open Go.RowKit Go.Proofs.ak.bR Go.Proofs.ak.dz Go.Proofs.ak.cZ
set_option linter.unusedVariables false
set_option linter.unusedSimpArgs false
structure RD (w0 W:World) (g:Nat) (A:Option Addr) (c:Nat) (l:List Int) (off:Bool):Prop where
 hb:W.heap[g]? =some (.cells #[.slice A l.length c,.bool off] 108 (0,0))
 ge:w0.heap.size≤g
 bl:Below w0.heap.size w0 W
 hr:(Kd.int .u8).C w0 A l.length l
 hc:l.length≤c
variable {w0 w:World} {g:Nat} {A:Option Addr} {c:Nat} {l:List Int} {off:Bool}
theorem Lx (h:RD w0 w g A c l off) (n:Int) (hn:n < 0∨(l.length:Int) < n):
 Calls Tryz.prog 111 #[.pointer (some ⟨g,0,none⟩),.int .i64 n] w fun e w'=>e= .returned (.slice none 0 0)∧RD w0 w' g none 0 [] true∧dF w w' g none:=by
 have hu:=Tryz.underlying108
 have c0:w.cell? ⟨g,0,none⟩=some (.slice A l.length c):=(af h.hb 0).trans rfl
 have c1:w.cell? ⟨g,1,none⟩=some (.bool off):=(af h.hb 1).trans rfl
 have f0:=aa h.hb 0
 have f1:=aa h.hb 1
 have HH:=ah.mk h
 clear h
 by_cases h1:n < 0
 ·have e1:decide (n < 0)=true:=decide_eq_true h1
  clear hn
  go_enter Tryz.func111,Tryz.ntmps111
  go_wp2
  go_ret
  exact ⟨rfl,⟨aZ (cs:=#[.slice A l.length c,.bool true]) (aZ (cs:=#[.slice A l.length c,.bool off]) HH.out.hb 1 _ rfl) 0 _ rfl,HH.out.ge,cC (cC HH.out.bl HH.out.ge) HH.out.ge,Kd.mE _ _,Nat.le_refl _⟩,((dF.refl w g none).Ko 1 _).Ko 0 _⟩
 ·have e1:decide (n < 0)=false:=decide_eq_false h1
  have e2:decide (n > (l.length:Int))=true:=decide_eq_true az
  clear hn
  go_enter Tryz.func111,Tryz.ntmps111
  go_wp2
  go_ret
  exact ⟨rfl,⟨aZ (cs:=#[.slice A l.length c,.bool true]) (aZ (cs:=#[.slice A l.length c,.bool off]) HH.out.hb 1 _ rfl) 0 _ rfl,HH.out.ge,cC (cC HH.out.bl HH.out.ge) HH.out.ge,Kd.mE _ _,Nat.le_refl _⟩,((dF.refl w g none).Ko 1 _).Ko 0 _⟩
theorem JT (h:RD w0 w g A c l off) (m:Nat) (hm:m≤l.length):
 Calls Tryz.prog 111 #[.pointer (some ⟨g,0,none⟩),.int .i64 m] w fun e w'=>e= .returned (.slice A m c)∧RD w0 w' g (if c=m then A else A.map (·.add (m * 1))) (c - m) (l.drop m) off∧dF w w' g none:=by
 have hu:=Tryz.underlying108
 have c0:w.cell? ⟨g,0,none⟩=some (.slice A l.length c):=(af h.hb 0).trans rfl
 have c1:w.cell? ⟨g,1,none⟩=some (.bool off):=(af h.hb 1).trans rfl
 have f0:=aa h.hb 0
 have f1:=aa h.hb 1
 have hc:=h.hc
 have e1:decide ((m:Int) < 0)=false:=decide_eq_false az
 have e2:decide ((m:Int) > (l.length:Int))=false:=decide_eq_false az
 have e3:(m:Int)≤(c:Int):=by omega
 have e4:(0:Int)≤(m:Int):=by omega
 have e5:(m:Int)≤(l.length:Int):=by omega
 have HR:=ah.mk (Kd.ack (k:=Kd.int .u8) (m:=m) (c:=c) h.hr hm h.hc)
 have HH:=ah.mk h
 clear h
 go_enter Tryz.func111,Tryz.ntmps111
 go_wp2
 ·go_ret
  refine ⟨rfl,⟨?_,HH.out.ge,cC HH.out.bl HH.out.ge,?_,?_⟩,(dF.refl w g none).Ko 0 _⟩
  ·rw [List.length_drop]
   exact aZ HH.out.hb 0 _ rfl
  ·have hr:=HR.out
   rw [if_pos mD] at hr
   exact hr
  ·rw [List.length_drop]
   have:=HH.out.hc
   omega
 ·go_ret
  refine ⟨rfl,⟨?_,HH.out.ge,cC HH.out.bl HH.out.ge,?_,?_⟩,(dF.refl w g none).Ko 0 _⟩
  ·rw [List.length_drop]
   exact aZ HH.out.hb 0 _ rfl
  ·have hr:=HR.out
   rw [if_neg mD,show m * (Kd.int .u8).sz=m from Nat.mul_one m] at hr
   exact hr
  ·rw [List.length_drop]
   have:=HH.out.hc
   omega
theorem fL (h:RD w0 w g A c l off) (m:Nat):
 Calls Tryz.prog 111 #[.pointer (some ⟨g,0,none⟩),.int .i64 m] w fun e w'=>dF w w' g none∧
  ((m≤l.length∧e= .returned (.slice A m c)∧RD w0 w' g (if c=m then A else A.map (·.add (m * 1))) (c - m) (l.drop m) off)∨(l.length < m∧e= .returned (.slice none 0 0)∧RD w0 w' g none 0 [] true)):=by
 by_cases hm:m≤l.length
 ·exact (JT h m hm).mono fun _ _ ⟨h1,h2,h3⟩=>⟨h3,.inl ⟨hm,h1,h2⟩⟩
 ·exact (Lx h m (.inr az)).mono fun _ _ ⟨h1,h2,h3⟩=>⟨h3,.inr ⟨az,h1,h2⟩⟩
def Lz (l:List Int):Int:=if 1≤l.length then rd l 0 else 0
def QN (l:List Int):List Int:=if 1≤l.length then l.drop 1 else []
def QO (l:List Int) (off:Bool):Bool:=if 1≤l.length then off else true
theorem LA (h:RD w0 w g A c l off):
 Calls Tryz.prog 66 #[.pointer (some ⟨g,0,none⟩)] w fun e w'=>e= .returned (.int .u8 (Lz l))∧(∃ A' c',RD w0 w' g A' c' (QN l) (QO l off))∧dF w w' g none:=by
 by_cases hl: 1≤l.length
 ·have hv:Lz l=rd l 0:=if_pos hl
  have hL:QN l=l.drop 1:=if_pos hl
  have hO:QO l off=off:=if_pos hl
  rw [hv,hL,hO]
  have HT:=ah.mk (JT h 1 hl)
  have HH:=ah.mk h
  obtain ⟨ad,ea,hx⟩:=Kd.uk h.hr 0 (Int.le_refl _) az
  cases ea
  have HX:=ah.mk hx
  have HLL:=ah.mk hl
  clear h hl hv hL hO hx
  go_enter Tryz.func66,Tryz.ntmps66
  go_wp2_with (first|(go_at_call 111;refine HT.out.mono ?_;rintro e w1 ⟨rfl,hr1,hk1⟩;have FH:=ah.mk hr1;have qi:=ah.mk hk1;have hx1:w1.cell? ad=some (.int .u8 (rd l 0)):=(hr1.bl.cell (World.block_lt_of_cell? w0 _ HX.out)).trans HX.out;clear hr1 hk1))
  go_ret
  exact ⟨rfl,⟨_,_,FH.out⟩,qi.out⟩
 ·have hv:Lz l=0:=if_neg hl
  have hL:QN l= []:=if_neg hl
  have hO:QO l off=true:=if_neg hl
  rw [hv,hL,hO]
  have HT:=ah.mk (Lx h ((1:Nat):Int) (.inr az))
  clear h hl hv hL hO
  go_enter Tryz.func66,Tryz.ntmps66
  go_wp2_with (first|(go_at_call 111;refine HT.out.mono ?_;rintro e w1 ⟨rfl,hr1,hk1⟩;have FH:=ah.mk hr1;have qi:=ah.mk hk1;clear hr1 hk1))
  go_ret
  exact ⟨rfl,⟨_,_,FH.out⟩,qi.out⟩
def EG (l:List Int):Int:=l.foldl (fun n c=>bits .or .i64 (wrap64 (n * 256)) (wrap64 c)) 0
theorem R9 (l:List Int) (k:Nat) (hk:k < l.length):bits .or .i64 (wrap64 (EG (l.take k) * 256)) (wrap64 (rd l (k:Int)))=EG (l.take (k + 1)):=by
 have e:rd l (k:Int)=l[k]:=by simp [rd,hk]
 rw [e,List.take_succ_eq_append_getElem hk]
 unfold EG
 rw [List.foldl_append]
 rfl
theorem yt (h:RD w0 w g A c l off) (hl: 6≤l.length):
 Calls Tryz.prog 67 #[.pointer (some ⟨g,0,none⟩)] w fun e w'=>e= .returned (.int .i64 (EG (l.take 6)))∧(∃ A' c',RD w0 w' g A' c' (l.drop 6) off)∧dF w w' g none:=by
 have HT:=ah.mk (JT h 6 hl)
 have HH:=ah.mk h
 have HLL:=ah.mk hl
 clear h hl
 go_enter Tryz.func67,Tryz.ntmps67
 go_wp2_with (first|(go_at_call 111;refine HT.out.mono ?_;rintro e w1 ⟨rfl,hr1,hk1⟩;have FH:=ah.mk hr1;have qi:=ah.mk hk1;clear hr1 hk1))
 go_loopw [3,9] (fun v i wr=>∃ k:Nat,k≤6∧i= .int .i64 k∧v= .int .i64 (EG (l.take k))∧wr=w1) (fun v i _ =>6 - (intOf i).toNat)
 case atStart=>exact ⟨0,az,rfl,rfl,rfl⟩
 case round=>
  obtain ⟨k,hk,rfl,rfl,rfl⟩:=hrel
  by_cases hlt:k < 6
  ·obtain ⟨ad,ea,hx⟩:=Kd.uk HH.out.hr (k:Int) az (by have:=HLL.out;omega)
   cases ea
   rw [Int.toNat_natCast] at hx
   have hx1:=(FH.out.bl.cell (World.block_lt_of_cell? w0 _ hx)).trans hx
   clear hx
   have e1:decide ((k:Int) < 6)=true:=decide_eq_true az
   go_wp2
   go_roundw
   case rel=>exact ⟨k + 1,az,cF,by rw [R9 l k (by have:=HLL.out;omega)],trivial⟩
   case measure=>simp [intOf];omega
  ·obtain rfl:k=6:=by omega
   go_wp2
   go_ret
   exact ⟨rfl,⟨_,_,FH.out⟩,qi.out⟩
end Go.Proofs.YtbjjaaodfbjkfaaGreatDoor.mU
