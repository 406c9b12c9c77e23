import Derived.Test.YtokpnfljjjjikaaGreatDoorZo
import Derived.Test.YtokpnfljjjjikaaGreatDoorRows
import Derived.Test.YtokpnfljjjjikaaGreatDoorWWords
import Derived.OpenShut
import Derived.SliceStrings
namespace Go.Proofs.YtokpnfljjjjikaaGreatDoor.qm
open Go.ChangeShapes Go.WideShapes Go.RowKit
open Go.Proofs.aj.bw
set_option linter.unusedVariables false
set_option linter.unusedSimpArgs false
set_option maxRecDepth 100000
theorem laidOut:laidOutB Tryz.prog=true:=by kernel_rfl
theorem SZ {α:Type} {l:List α} (h:l.length=5):∃ a b c d e,l= [a,b,c,d,e]:=by
 match l,h with
 | [a,b,c,d,e],_ =>exact ⟨a,b,c,d,e,rfl⟩
theorem Kp {α:Type} {l:List α} (h:l.length=3):∃ a b c,l= [a,b,c]:=by
 match l,h with
 | [a,b,c],_ =>exact ⟨a,b,c,rfl⟩
theorem Ng:Tryz.prog.cellsOf 32=5:=by kernel_rfl
theorem Gk:Tryz.prog.cellsOf 30=3:=by kernel_rfl
theorem Kq:Tryz.prog.cellsOf 4=1:=by kernel_rfl
theorem Kr:Tryz.prog.cellsOf 9=1:=by kernel_rfl
theorem Nh:Tryz.prog.cellsOf 28=1:=by kernel_rfl
section
variable {H:Type} {enc:TypeId×Value→H} {W:World} {base:Nat} {spare:Nat→Bool} {held:Bool}
theorem Ks {fuel:Nat} {cs:List Value} {x:DataW H×List MemPlace} (h:DataW.trod enc Tryz.prog W base spare held fuel 30 cs=some x):
 ∃ (lo dom:ByteArray) (lit:Bool),cs= [.string lo,.string dom,.bool lit]∧x.1= .agg [.lit (.string lo.data.toList),.lit (.string dom.data.toList),.lit (.bool lit)]:=by
 obtain ⟨xs,n,_,rfl,hl,hlen,hf⟩:=DataW.trod_struct Tryz.underlying30 h
 rw [Gk] at hl
 obtain ⟨c0,c1,c2,rfl⟩:=Kp hl
 obtain ⟨y0,y1,y2,rfl⟩:=Kp hlen
 have h0:DataW.trod enc Tryz.prog W base spare held n 9 (([c0,c1,c2].drop 0).take (Tryz.prog.cellsOf 9))=some y0:=hf 0 _ rfl
 have h1:DataW.trod enc Tryz.prog W base spare held n 9 (([c0,c1,c2].drop 1).take (Tryz.prog.cellsOf 9))=some y1:=hf 1 _ rfl
 have h2:DataW.trod enc Tryz.prog W base spare held n 4 (([c0,c1,c2].drop 2).take (Tryz.prog.cellsOf 4))=some y2:=hf 2 _ rfl
 rw [Kr] at h0 h1
 rw [Kq] at h2
 replace h0:DataW.trod enc Tryz.prog W base spare held n 9 [c0]=some y0:=h0
 replace h1:DataW.trod enc Tryz.prog W base spare held n 9 [c1]=some y1:=h1
 replace h2:DataW.trod enc Tryz.prog W base spare held n 4 [c2]=some y2:=h2
 obtain ⟨lo,e0,rfl,_⟩:=DataW.trod_string Tryz.underlying9 h0
 obtain ⟨dom,e1,rfl,_⟩:=DataW.trod_string Tryz.underlying9 h1
 obtain ⟨lit,e2,rfl⟩:=DataW.trod_bool Tryz.underlying4 h2
 obtain ⟨rfl,_⟩:=List.cons.inj e0
 obtain ⟨rfl,_⟩:=List.cons.inj e1
 obtain ⟨rfl,_⟩:=List.cons.inj e2
 exact ⟨lo,dom,lit,rfl,rfl⟩
theorem S0 {a:Addr} {len:Nat} {ss:List ByteArray} (hl:len≤ss.length) (hm:len≤9223372036854775807) (hc:∀ i,i < ss.length→W.cell? (a.add i)=some (.string (ss.getD i ByteArray.empty))):Kd.string.C W (some a) len (ss.take len):=by
 refine ⟨by rw [List.length_take];omega,hm,fun _ =>⟨a,rfl,fun j p hj=>⟨[.string p],rfl,rfl,fun i u hi=>?_⟩⟩⟩
 have hj2:j < len∧ss[j]? =some p:=by
  rw [List.getElem?_take] at hj
  by_cases h:j < len
  ·rw [if_pos h] at hj;exact ⟨h,hj⟩
  ·rw [if_neg h] at hj;cases hj
 cases i with
 |zero=>
  obtain rfl:Value.string p=u:=by simpa using hi
  have:=hc j ak
  rw [List.getD_eq_getElem?_getD,hj2.2] at this
  show W.cell? (a.add (j * 1 + 0))=_
  rw [Nat.mul_one,Nat.add_zero]
  exact this
 |succ i=>simp at hi
theorem Hh {b0:Nat} {v:Value} {d:DataW H} {ps:List MemPlace} (hv:Value.okWide Tryz.prog W .any b0 32 v) (h:DataW.Trod enc Tryz.prog W 0 (fun _ =>true) true 32 v d ps):
 ∃ (a:Bool) (A:Option Addr) (c:Nat) (R:List ByteArray) (lo dom:ByteArray) (lit:Bool) (rd:DataW H),v= .agg #[.bool a,.slice A R.length c,.string lo,.string dom,.bool lit]∧Kd.string.C W A R.length R∧R.length≤c∧
   d= .agg [.lit (.bool a),rd,.agg [.lit (.string lo.data.toList),.lit (.string dom.data.toList),.lit (.bool lit)]]∧(R= []∧rd= .nil∨∃ sp,rd= .slice (strs R) sp):=by
 obtain ⟨cs,rfl,_⟩:=okWide_struct Tryz.underlying32 hv
 obtain ⟨fuel,hf⟩:=h
 obtain ⟨xs,n,_,hx,hl,hlen,hfl⟩:=DataW.trod_struct Tryz.underlying32 hf
 rw [Ng] at hl
 obtain ⟨c0,c1,c2,c3,c4,hcs⟩:=SZ hl
 obtain ⟨y0,y1,y2,rfl⟩:=Kp hlen
 have h0:DataW.trod enc Tryz.prog W 0 (fun _ =>true) true n 4 (((Value.agg cs).cells.toList.drop 0).take (Tryz.prog.cellsOf 4))=some y0:=hfl 0 _ rfl
 have h1:DataW.trod enc Tryz.prog W 0 (fun _ =>true) true n 28 (((Value.agg cs).cells.toList.drop 1).take (Tryz.prog.cellsOf 28))=some y1:=hfl 1 _ rfl
 have h2:DataW.trod enc Tryz.prog W 0 (fun _ =>true) true n 30 (((Value.agg cs).cells.toList.drop 2).take (Tryz.prog.cellsOf 30))=some y2:=hfl 2 _ rfl
 rw [hcs,Kq] at h0
 rw [hcs,Nh] at h1
 rw [hcs,Gk] at h2
 replace h0:DataW.trod enc Tryz.prog W 0 (fun _ =>true) true n 4 [c0]=some y0:=h0
 replace h1:DataW.trod enc Tryz.prog W 0 (fun _ =>true) true n 28 [c1]=some y1:=h1
 replace h2:DataW.trod enc Tryz.prog W 0 (fun _ =>true) true n 30 [c2,c3,c4]=some y2:=h2
 obtain ⟨a,e0,rfl⟩:=DataW.trod_bool Tryz.underlying4 h0
 obtain ⟨rfl,_⟩:=List.cons.inj e0
 obtain ⟨lo,dom,lit,e2,hy2⟩:=Ks h2
 obtain ⟨rfl,e3⟩:=List.cons.inj e2
 obtain ⟨rfl,e4⟩:=List.cons.inj e3
 obtain ⟨rfl,_⟩:=List.cons.inj e4
 have hcs':cs= #[.bool a,c1,.string lo,.string dom,.bool lit]:=by
  rw [← Array.toList_inj]
  exact hcs
 obtain ⟨rfl,rfl⟩:=Prod.mk.inj hx
 rcases open_strings Tryz.underlying28 Tryz.underlying9 Kr h1 with ⟨e1,hy1⟩|⟨ad,len,cap,ss,e1,_,hlc,hm,hz,hy1,hcell,_⟩
 ·obtain ⟨rfl,_⟩:=List.cons.inj e1
  refine ⟨a,none,0,[],lo,dom,lit,.nil,by rw [hcs'];rfl,⟨rfl,Nat.zero_le _,fun h=>absurd h (Nat.lt_irrefl _)⟩,Nat.le_refl _,?_,.inl ⟨rfl,rfl⟩⟩
  rw [hy1,List.map_cons,List.map_cons,List.map_cons,List.map_nil,hy2]
 ·obtain ⟨rfl,_⟩:=List.cons.inj e1
  have hss:ss.length=cap:=by simpa using hz
  have hR:(ss.take len).length=len:=by rw [List.length_take];omega
  have hml:maxLen≤9223372036854775807:=by decide
  refine ⟨a,some ad,cap,ss.take len,lo,dom,lit,.slice (strs (ss.take len)) (strs (ss.drop len)),by rw [hcs',hR],?_,by rw [hR];exact hlc,?_,.inr ⟨_,rfl⟩⟩
  ·rw [hR]
   exact S0 ak ak hcell
  ·rw [hy1,List.map_cons,List.map_cons,List.map_cons,List.map_nil,hy2]
end
theorem yH {H:Type}:∀ R:List ByteArray,R.length≤Rows.uptoBulkAll (strs R:List (DataW H))∧∀ y,y∈R→y.size≤Rows.uptoBulkAll (strs R:List (DataW H))
 | []=>⟨Nat.zero_le _,fun y hy=>by cases hy⟩
 |s :: R=>by
  obtain ⟨h1,h2⟩:=yH (H:=H) R
  have e:Rows.uptoBulkAll (strs (s :: R):List (DataW H))=s.data.toList.length + 1 + Rows.uptoBulkAll (strs R:List (DataW H)):=by
   show Rows.uptoBulkAll ((.lit (.string s.data.toList):DataW H) :: strs R)=_
   simp only [Rows.uptoBulkAll,Rows.uptoBulk]
  have hd:=dz s
  rw [e]
  refine ⟨by rw [List.length_cons];omega,fun y hy=>?_⟩
  rcases List.mem_cons.mp hy with rfl|hy
  ·omega
  ·have:=h2 y hy
   omega
theorem Hj {H:Type} {R:List ByteArray} {rd:DataW H} (h:R= []∧rd= .nil∨∃ sp,rd= .slice (strs R) sp):R.length≤Rows.uptoBulk rd∧∀ y,y∈R→y.size≤Rows.uptoBulk rd:=by
 rcases h with ⟨rfl,rfl⟩|⟨sp,rfl⟩
 ·exact ⟨Nat.zero_le _,fun y hy=>by cases hy⟩
 ·obtain ⟨h1,h2⟩:=yH (H:=H) R
  rw [show Rows.uptoBulk (.slice (strs R) sp:DataW H)=Rows.uptoBulkAll (strs R:List (DataW H)) + Rows.uptoBulkAll sp + 1 from by simp only [Rows.uptoBulk]]
  exact ⟨ak,fun y hy=>by have:=h2 y hy;omega⟩
end Go.Proofs.YtokpnfljjjjikaaGreatDoor.qm
