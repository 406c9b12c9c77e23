import Derived.Test.YtbjjaaodfbjkfaaGreatDoorQQux0
import Derived.Lib.Hide
import Derived.Lib.SliceRun
import Derived.Shelf.RegionOpenPlain
set_option maxHeartbeats 4000000
set_option maxRecDepth 100000
namespace Go.Proofs.YtbjjaaodfbjkfaaGreatDoor.qb
open Go.RowKit Go.Proofs.aj.bQ Go.Proofs.aj.dX Go.Proofs.aj.dJ
set_option linter.unusedVariables false
set_option linter.unusedSimpArgs false
abbrev Ml:=qV
abbrev R9:=Cb
theorem adQ:(Tryz.prog.info? 34).map (fun i=>(i.zero,i.size,i.bytes))=some (some (.agg #[.int .i64 0,.bool false,.slice none 0 0,.string ⟨#[]⟩,.string ⟨#[]⟩,.bool false,.slice none 0 0,.slice none 0 0,.int .i64 0]),9,136):=by kernel_rfl
def nH (id:Int):List Ml→Nat→Int
 | [],_ =>-1
 |m :: l,k=>if m.f0=id then (k:Int) else nH id l (k + 1)
theorem adR (x0:Int) (x1:Bool) (v2:Value) (x3 x4:ByteArray) (x5:Bool) (v6 v7:Value) (x8:Int) (id:Int) (g:Nat) (w:World) (hc:w.cell? ⟨g,1,none⟩=some (.int .i64 id)):
 Calls Tryz.prog 105 #[.agg #[.int .i64 x0,.bool x1,v2,.string x3,.string x4,.bool x5,v6,v7,.int .i64 x8],.pointer (some ⟨g,0,none⟩)] w fun e w'=>e= .returned (.bool (decide (x0=id)))∧Below w.heap.size w w':=by
 have hc2:=(World.cell?_alloc_lt w (.cells #[.int .i64 x0,.bool x1,v2,.string x3,.string x4,.bool x5,v6,v7,.int .i64 x8] 34) _ (World.block_lt_of_cell? w _ hc)).trans hc
 by_cases h:x0=id
 ·have e1:decide (x0=id)=true:=decide_eq_true h
  have e2:(x0 == id)=true:=by simpa using h
  have H:=Lib.hid h
  clear h
  go_enter Tryz.func105,Tryz.ntmps105
  go_wp2
  go_ret
  exact ⟨by simp [H.out],cW (Below.refl _ _) _⟩
 ·have e1:decide (x0=id)=false:=decide_eq_false h
  have e2:(x0 == id)=false:=by simpa using h
  have H:=Lib.hid h
  clear h
  go_enter Tryz.func105,Tryz.ntmps105
  go_wp2
  go_ret
  exact ⟨by simp [H.out],cW (Below.refl _ _) _⟩
theorem wX (xs:List Ml) (id:Int) (A:Option Addr) (c:Nat) (g:Nat) (w:World) (hR:Kd.C R9 w A xs.length xs) (hc:w.cell? ⟨g,1,none⟩=some (.int .i64 id)):
 Calls Tryz.prog 104 #[.slice A xs.length c,.func (.func 105) #[] #[.pointer (some ⟨g,0,none⟩)]] w fun e w'=>e= .returned (.int .i64 (nH id xs 0))∧Below w.heap.size w w':=by
 have hu:=Tryz.underlying34
 have hn:=hR.2.1
 have HR:=Lib.hid hR
 have HC:=Lib.hid hc
 clear hR hc
 obtain ⟨r,hr⟩:∃ r,r=nH id xs 0:=⟨_,rfl⟩
 rw [← hr]
 have H0:=Lib.hid hr
 clear hr
 go_enter Tryz.func104,Tryz.ntmps104
 go_wp2
 go_loopw [8] (fun i wr=>∃ k:Nat,k≤xs.length∧i= .int .i64 k∧Hid (nH id (xs.drop k) k=r)∧Hid (Below w.heap.size w wr)) (fun i _ =>xs.length - (intOf i).toNat)
 case atStart=>exact ⟨0,Nat.zero_le _,rfl,Lib.hid (by rw [H0.out];rfl),Lib.hid (Below.refl _ _)⟩
 case round=>
  obtain ⟨k,hk,rfl,HP,HB⟩:=hrel
  by_cases hlt:k < xs.length
  ·have hT:=HP.out
   rw [List.drop_eq_getElem_cons hlt,show xs[k]=av xs (k:Int) by simp [av,hlt]] at hT
   unfold nH at hT
   have HT:=Lib.hid hT
   have hx:=uP HR.out (k:Int) ay ay
   clear HP hT
   generalize av xs (k:Int)=x at hx HT
   rw [Int.toNat_natCast] at hx
   obtain ⟨ad,A2,c2,A6,c6,A7,c7,rfl,hx0,hx1,hx2,hx3,hx4,Ra,Ub,hx7,hx8,-⟩:=hx
   replace hx0:=(HB.out.cell (World.block_lt_of_cell? w _ hx0)).trans hx0
   replace hx1:=(HB.out.cell (World.block_lt_of_cell? w _ hx1)).trans hx1
   replace hx2:=(HB.out.cell (World.block_lt_of_cell? w _ hx2)).trans hx2
   replace hx3:=(HB.out.cell (World.block_lt_of_cell? w _ hx3)).trans hx3
   replace hx4:=(HB.out.cell (World.block_lt_of_cell? w _ hx4)).trans hx4
   replace Ra:=(HB.out.cell (World.block_lt_of_cell? w _ Ra)).trans Ra
   replace Ub:=(HB.out.cell (World.block_lt_of_cell? w _ Ub)).trans Ub
   replace hx7:=(HB.out.cell (World.block_lt_of_cell? w _ hx7)).trans hx7
   replace hx8:=(HB.out.cell (World.block_lt_of_cell? w _ hx8)).trans hx8
   have HCR:=Lib.hid ((HB.out.cell (World.block_lt_of_cell? w _ HC.out)).trans HC.out)
   have HK:=Lib.hid (fun v2 v6 v7=>adR x.f0 x.f1.f0 v2 x.f1.f2.f0 x.f1.f2.f1 x.f1.f2.f2 v6 v7 x.f4 id g wr HCR.out)
   by_cases hb:x.f0=id
   ·rw [show decide (x.f0=id)=true from decide_eq_true hb] at HK
    have HE:=Lib.hid (HT.out.symm.trans (if_pos hb))
    clear hb HT
    go_wp2_with (go_at_call 105;refine (HK.out _ _ _).mono ?_;rintro e w1 ⟨rfl,hb1⟩;have rY:=Lib.hid (fB HB.out HB.out.size hb1);clear hb1)
    go_ret
    exact ⟨by rw [HE.out];rfl,rY.out⟩
   ·rw [show decide (x.f0=id)=false from decide_eq_false hb] at HK
    have HE:=Lib.hid ((if_neg hb).symm.trans HT.out)
    clear hb HT
    go_wp2_with (go_at_call 105;refine (HK.out _ _ _).mono ?_;rintro e w1 ⟨rfl,hb1⟩;have rY:=Lib.hid (fB HB.out HB.out.size hb1);clear hb1)
    go_roundw
    case rel=>exact ⟨k + 1,ay,by go_num,HE,rY⟩
    case measure=>simp [intOf];omega
  ·have HZ:=Lib.hid (show r= -1 by rw [← HP.out,List.drop_of_length_le ay];rfl)
   go_wp2
   go_ret
   exact ⟨xA,HB.out⟩
end Go.Proofs.YtbjjaaodfbjkfaaGreatDoor.qb
