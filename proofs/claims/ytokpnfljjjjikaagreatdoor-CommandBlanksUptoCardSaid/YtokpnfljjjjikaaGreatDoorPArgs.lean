import Derived.Test.YtokpnfljjjjikaaGreatDoorRows
import Derived.OpenShut
import Derived.SliceStrings
import Derived.Test.YtokpnfljjjjikaaGreatDoorQCbx0
import Derived.Test.YtokpnfljjjjikaaGreatDoorEStr
import Derived.Stop.LaidErr
import Derived.LaidMore
namespace Go.Proofs.YtokpnfljjjjikaaGreatDoor.BD
open Go.ChangeShapes Go.WideShapes Go.RowKit
open Go.Proofs.aj.bQ
set_option linter.unusedVariables false
set_option linter.unusedSimpArgs false
set_option maxRecDepth 100000
theorem laidOut:laidOutB Tryz.prog=true:=by kernel_rfl
theorem aeH {α:Type} {l:List α} (h:l.length=5):∃ a b c d e,l= [a,b,c,d,e]:=by
 match l,h with
 | [a,b,c,d,e],_ =>exact ⟨a,b,c,d,e,rfl⟩
theorem Nv {α:Type} {l:List α} (h:l.length=3):∃ a b c,l= [a,b,c]:=by
 match l,h with
 | [a,b,c],_ =>exact ⟨a,b,c,rfl⟩
theorem Sz:Tryz.prog.cellsOf 32=5:=by kernel_rfl
theorem SA:Tryz.prog.cellsOf 30=3:=by kernel_rfl
theorem PJ:Tryz.prog.cellsOf 4=1:=by kernel_rfl
theorem Lf:Tryz.prog.cellsOf 9=1:=by kernel_rfl
theorem Zo:Tryz.prog.cellsOf 28=1:=by kernel_rfl
section
variable {H:Type} {enc:TypeId×Value→H} {W:World} {base:Nat} {spare:Nat→Bool} {held:Bool}
theorem WA {fuel:Nat} {cs:List Value} {x:DataW H×List MemPlace} (h:DataW.trod enc Tryz.prog W base spare held fuel 30 cs=some x):
 ∃ (lo dom:ByteArray) (lit:Bool),cs= [.string lo,.string dom,.bool lit]∧x.1= .agg [.lit (.string lo.data.toList),.lit (.string dom.data.toList),.lit (.bool lit)]:=by
 obtain ⟨xs,n,_,rfl,hl,hlen,hf⟩:=DataW.trod_struct Tryz.underlying30 h
 rw [SA] at hl
 obtain ⟨c0,c1,c2,rfl⟩:=Nv hl
 obtain ⟨y0,y1,y2,rfl⟩:=Nv hlen
 have h0:DataW.trod enc Tryz.prog W base spare held n 9 (([c0,c1,c2].drop 0).take (Tryz.prog.cellsOf 9))=some y0:=hf 0 _ rfl
 have h1:DataW.trod enc Tryz.prog W base spare held n 9 (([c0,c1,c2].drop 1).take (Tryz.prog.cellsOf 9))=some y1:=hf 1 _ rfl
 have h2:DataW.trod enc Tryz.prog W base spare held n 4 (([c0,c1,c2].drop 2).take (Tryz.prog.cellsOf 4))=some y2:=hf 2 _ rfl
 rw [Lf] at h0 h1
 rw [PJ] at h2
 replace h0:DataW.trod enc Tryz.prog W base spare held n 9 [c0]=some y0:=h0
 replace h1:DataW.trod enc Tryz.prog W base spare held n 9 [c1]=some y1:=h1
 replace h2:DataW.trod enc Tryz.prog W base spare held n 4 [c2]=some y2:=h2
 obtain ⟨lo,e0,rfl,_⟩:=DataW.trod_string Tryz.underlying9 h0
 obtain ⟨dom,e1,rfl,_⟩:=DataW.trod_string Tryz.underlying9 h1
 obtain ⟨lit,e2,rfl⟩:=DataW.trod_bool Tryz.underlying4 h2
 obtain ⟨rfl,_⟩:=List.cons.inj e0
 obtain ⟨rfl,_⟩:=List.cons.inj e1
 obtain ⟨rfl,_⟩:=List.cons.inj e2
 exact ⟨lo,dom,lit,rfl,rfl⟩
theorem aeI {a:Addr} {len:Nat} {ss:List ByteArray} (hl:len≤ss.length) (hm:len≤9223372036854775807) (hc:∀ i,i < ss.length→W.cell? (a.add i)=some (.string (ss.getD i ByteArray.empty))):Kd.string.C W (some a) len (ss.take len):=by
 refine ⟨by rw [List.length_take];omega,hm,fun _ =>⟨a,rfl,fun j p hj=>⟨[.string p],rfl,rfl,fun i u hi=>?_⟩⟩⟩
 have hj2:j < len∧ss[j]? =some p:=by
  rw [List.getElem?_take] at hj
  by_cases h:j < len
  ·rw [if_pos h] at hj;exact ⟨h,hj⟩
  ·rw [if_neg h] at hj;cases hj
 cases i with
 |zero=>
  obtain rfl:Value.string p=u:=by simpa using hi
  have:=hc j aq
  rw [List.getD_eq_getElem?_getD,hj2.2] at this
  show W.cell? (a.add (j * 1 + 0))=_
  rw [Nat.mul_one,Nat.add_zero]
  exact this
 |succ i=>simp at hi
end
theorem Ht {H:Type}:∀ R:List ByteArray,R.length≤Rows.uptoBulkAll (strs R:List (DataW H))∧∀ y,y∈R→y.size≤Rows.uptoBulkAll (strs R:List (DataW H))
 | []=>⟨Nat.zero_le _,fun y hy=>by cases hy⟩
 |s :: R=>by
  obtain ⟨h1,h2⟩:=Ht (H:=H) R
  have e:Rows.uptoBulkAll (strs (s :: R):List (DataW H))=s.data.toList.length + 1 + Rows.uptoBulkAll (strs R:List (DataW H)):=by
   show Rows.uptoBulkAll ((.lit (.string s.data.toList):DataW H) :: strs R)=_
   simp only [Rows.uptoBulkAll,Rows.uptoBulk]
  have hd:=dh s
  rw [e]
  refine ⟨by rw [List.length_cons];omega,fun y hy=>?_⟩
  rcases List.mem_cons.mp hy with rfl|hy
  ·omega
  ·have:=h2 y hy
   omega
theorem Hu {H:Type} {R:List ByteArray} {rd:DataW H} (h:R= []∧rd= .nil∨∃ sp,rd= .slice (strs R) sp):R.length≤Rows.uptoBulk rd∧∀ y,y∈R→y.size≤Rows.uptoBulk rd:=by
 rcases h with ⟨rfl,rfl⟩|⟨sp,rfl⟩
 ·exact ⟨Nat.zero_le _,fun y hy=>by cases hy⟩
 ·obtain ⟨h1,h2⟩:=Ht (H:=H) R
  rw [show Rows.uptoBulk (.slice (strs R) sp:DataW H)=Rows.uptoBulkAll (strs R:List (DataW H)) + Rows.uptoBulkAll sp + 1 from by simp only [Rows.uptoBulk]]
  exact ⟨aq,fun y hy=>by have:=h2 y hy;omega⟩
end Go.Proofs.YtokpnfljjjjikaaGreatDoor.BD
namespace Go.Proofs.YtokpnfljjjjikaaGreatDoor.Lg
open Go.ChangeShapes Go.WideShapes Go.RowKit
open Go.Proofs.aj.bQ Go.Proofs.YtokpnfljjjjikaaGreatDoor.BD Go.Proofs.YtokpnfljjjjikaaGreatDoor.nK
set_option linter.unusedVariables false
set_option linter.unusedSimpArgs false
set_option maxRecDepth 100000
theorem aeJ {α:Type} {l:List α} (h:l.length=4):∃ a b c d,l= [a,b,c,d]:=by
 match l,h with
 | [a,b,c,d],_ =>exact ⟨a,b,c,d,rfl⟩
theorem aeK {α:Type} {l:List α} (h:l.length=8):∃ a b c d e f g i,l= [a,b,c,d,e,f,g,i]:=by
 match l,h with
 | [a,b,c,d,e,f,g,i],_ =>exact ⟨a,b,c,d,e,f,g,i,rfl⟩
theorem Zp:Tryz.prog.cellsOf 35=8:=by kernel_rfl
theorem SB:Tryz.prog.cellsOf 58=3:=by kernel_rfl
theorem Zq:Tryz.prog.cellsOf 33=1:=by kernel_rfl
theorem cells5:Tryz.prog.cellsOf 5=1:=by kernel_rfl
theorem add_add (a:Addr) (m n:Nat):(a.add m).add n=a.add (m + n):=by
 unfold Addr.add
 by_cases hm:m=0
 ·subst hm;simp
 ·by_cases hn:n=0
  ·subst hn;simp
  ·rw [if_neg hm,if_neg hn,if_neg aq]
   simp only [Addr.mk.injEq,and_true,true_and]
   omega
def xy {H:Type} (p:gw):DataW H:= .agg [.lit (.string p.f0.data.toList),.lit (.string p.f1.data.toList),.lit (.bool p.f2)]
section
variable {H:Type} {enc:TypeId×Value→H} {W:World} {base:Nat} {spare:Nat→Bool} {held:Bool}
theorem PK {fuel:Nat} {cs:List Value} {x:DataW H×List MemPlace} (h:DataW.trod enc Tryz.prog W base spare held fuel 58 cs=some x):
 ∃ p:gw,cs= [.string p.f0,.string p.f1,.bool p.f2]∧x.1=xy p:=by
 obtain ⟨xs,n,_,rfl,hl,hlen,hf⟩:=DataW.trod_struct Tryz.underlying58 h
 rw [SB] at hl
 obtain ⟨c0,c1,c2,rfl⟩:=Nv hl
 obtain ⟨y0,y1,y2,rfl⟩:=Nv hlen
 have h0:DataW.trod enc Tryz.prog W base spare held n 9 (([c0,c1,c2].drop 0).take (Tryz.prog.cellsOf 9))=some y0:=hf 0 _ rfl
 have h1:DataW.trod enc Tryz.prog W base spare held n 9 (([c0,c1,c2].drop 1).take (Tryz.prog.cellsOf 9))=some y1:=hf 1 _ rfl
 have h2:DataW.trod enc Tryz.prog W base spare held n 4 (([c0,c1,c2].drop 2).take (Tryz.prog.cellsOf 4))=some y2:=hf 2 _ rfl
 rw [Lf] at h0 h1
 rw [PJ] at h2
 replace h0:DataW.trod enc Tryz.prog W base spare held n 9 [c0]=some y0:=h0
 replace h1:DataW.trod enc Tryz.prog W base spare held n 9 [c1]=some y1:=h1
 replace h2:DataW.trod enc Tryz.prog W base spare held n 4 [c2]=some y2:=h2
 obtain ⟨f0,e0,rfl,_⟩:=DataW.trod_string Tryz.underlying9 h0
 obtain ⟨f1,e1,rfl,_⟩:=DataW.trod_string Tryz.underlying9 h1
 obtain ⟨f2,e2,rfl⟩:=DataW.trod_bool Tryz.underlying4 h2
 obtain ⟨rfl,_⟩:=List.cons.inj e0
 obtain ⟨rfl,_⟩:=List.cons.inj e1
 obtain ⟨rfl,_⟩:=List.cons.inj e2
 exact ⟨⟨f0,f1,f2⟩,rfl,rfl⟩
theorem ace {a:Addr} {cs:List Value} (h:W.cells? base a 3=some cs):∃ x y z,cs= [x,y,z]∧W.cell? a=some x∧W.cell? (a.add 1)=some y∧W.cell? (a.add 2)=some z:=by
 unfold World.cells? at h
 split at h
 ·have e0:a.add 0=a:=by simp [Addr.add]
  have er:List.range 3= [0,1,2]:=by decide
  rw [er] at h
  simp only [List.mapM_cons,List.mapM_nil,e0] at h
  cases h0:W.cell? a with
  |none=>simp [h0] at h
  |some x=>
   cases h1:W.cell? (a.add 1) with
   |none=>simp [h0,h1] at h
   |some y=>
    cases h2:W.cell? (a.add 2) with
    |none=>simp [h0,h1,h2] at h
    |some z=>
     simp [h0,h1,h2] at h
     exact ⟨x,y,z,h.symm,rfl,rfl,rfl⟩
 ·cases h
theorem Nw {fuel:Nat} {cs:List Value} {x:DataW H×List MemPlace} (h:DataW.trod enc Tryz.prog W base spare held fuel 33 cs=some x):
 ∃ (A:Option Addr) (c:Nat) (P:List gw),cs= [.slice A P.length c]∧Kd.C zN W A P.length P∧P.length≤c∧(P= []∧x.1= .nil∨∃ sp,x.1= .slice (P.map xy) sp):=by
 rcases DataW.trod_slice Tryz.underlying33 h with ⟨rfl,rfl⟩|⟨a,len,cap,elems,rest,n,_,rfl,rfl,_,hl,hm,hlen,hel,_,_⟩
 ·exact ⟨none,0,[],rfl,⟨rfl,Nat.zero_le _,fun h=>absurd h (Nat.lt_irrefl _)⟩,Nat.le_refl _,.inl ⟨rfl,rfl⟩⟩
 ·have hq:∀ i,∃ p:gw,i < len→W.cell? (a.add (i * 3))=some (.string p.f0)∧W.cell? (a.add (i * 3 + 1))=some (.string p.f1)∧W.cell? (a.add (i * 3 + 2))=some (.bool p.f2)∧∃ y,elems[i]? =some y∧y.1=xy p:=by
   intro i
   by_cases hi:i < len
   ·have he:=hel i hi
    rw [SB] at he
    have hi2:i < elems.length:=by omega
    rw [List.getElem?_eq_getElem hi2] at he
    obtain ⟨cs,h1,h2⟩:=Option.bind_eq_some_iff.mp he
    obtain ⟨x,y,z,rfl,q0,q1,q2⟩:=ace h1
    obtain ⟨p,e1,e2⟩:=PK h2
    simp only [List.cons.injEq,and_true] at e1
    obtain ⟨rfl,rfl,rfl⟩:=e1
    rw [add_add] at q1 q2
    exact ⟨p,fun _ =>⟨q0,q1,q2,_,List.getElem?_eq_getElem hi2,e2⟩⟩
   ·exact ⟨z58,fun h=>absurd h hi⟩
  obtain ⟨f,hf⟩:=Classical.skolem.mp hq
  have hPl:((List.range len).map f).length=len:=by simp
  have hget:∀ j p,((List.range len).map f)[j]? =some p→j < len∧p=f j:=by
   intro j p hj
   rw [List.getElem?_map] at hj
   by_cases hjl:j < len
   ·rw [List.getElem?_range hjl] at hj
    exact ⟨hjl,(Option.some.inj hj).symm⟩
   ·rw [List.getElem?_eq_none sB] at hj
    cases hj
  have hml:maxLen≤9223372036854775807:=by decide
  refine ⟨some a,cap,(List.range len).map f,by rw [hPl],?_,by rw [hPl];exact hl,.inr ⟨rest.map (·.1),?_⟩⟩
  ·rw [hPl]
   refine ⟨hPl,aq,fun _ =>⟨a,rfl,fun j p hj=>?_⟩⟩
   obtain ⟨hjl,rfl⟩:=hget j p hj
   obtain ⟨q0,q1,q2,_⟩:=hf j hjl
   refine ⟨[.string (f j).f0,.string (f j).f1,.bool (f j).f2],rfl,aaC W (f j),fun i u hi=>?_⟩
   match i,hi with
   | 0,hi=>obtain rfl:=Option.some.inj hi;exact q0
   | 1,hi=>obtain rfl:=Option.some.inj hi;exact q1
   | 2,hi=>obtain rfl:=Option.some.inj hi;exact q2
  ·have e:elems.map (·.1)=((List.range len).map f).map xy:=by
    apply List.ext_getElem?
    intro j
    by_cases hjl:j < len
    ·obtain ⟨_,_,_,y,hy,hy2⟩:=hf j hjl
     rw [List.getElem?_map,hy,List.getElem?_map,List.getElem?_map,List.getElem?_range hjl]
     show some y.1=some (xy (f j))
     rw [hy2]
    ·rw [List.getElem?_eq_none sB,List.getElem?_eq_none sB]
   rw [e]
theorem PL {fuel:Nat} {cs:List Value} {x:DataW H×List MemPlace} (h:DataW.trod enc Tryz.prog W 0 (fun _ =>true) true fuel 32 cs=some x):
 ∃ (a:Bool) (A:Option Addr) (c:Nat) (R:List ByteArray) (lo dom:ByteArray) (lit:Bool) (rd:DataW H),cs= [.bool a,.slice A R.length c,.string lo,.string dom,.bool lit]∧Kd.string.C W A R.length R∧R.length≤c∧
   x.1= .agg [.lit (.bool a),rd,.agg [.lit (.string lo.data.toList),.lit (.string dom.data.toList),.lit (.bool lit)]]∧(R= []∧rd= .nil∨∃ sp,rd= .slice (strs R) sp):=by
 obtain ⟨xs,n,_,rfl,hl,hlen,hfl⟩:=DataW.trod_struct Tryz.underlying32 h
 rw [Sz] at hl
 obtain ⟨c0,c1,c2,c3,c4,rfl⟩:=aeH hl
 obtain ⟨y0,y1,y2,rfl⟩:=Nv hlen
 have h0:DataW.trod enc Tryz.prog W 0 (fun _ =>true) true n 4 (([c0,c1,c2,c3,c4].drop 0).take (Tryz.prog.cellsOf 4))=some y0:=hfl 0 _ rfl
 have h1:DataW.trod enc Tryz.prog W 0 (fun _ =>true) true n 28 (([c0,c1,c2,c3,c4].drop 1).take (Tryz.prog.cellsOf 28))=some y1:=hfl 1 _ rfl
 have h2:DataW.trod enc Tryz.prog W 0 (fun _ =>true) true n 30 (([c0,c1,c2,c3,c4].drop 2).take (Tryz.prog.cellsOf 30))=some y2:=hfl 2 _ rfl
 rw [PJ] at h0
 rw [Zo] at h1
 rw [SA] at h2
 replace h0:DataW.trod enc Tryz.prog W 0 (fun _ =>true) true n 4 [c0]=some y0:=h0
 replace h1:DataW.trod enc Tryz.prog W 0 (fun _ =>true) true n 28 [c1]=some y1:=h1
 replace h2:DataW.trod enc Tryz.prog W 0 (fun _ =>true) true n 30 [c2,c3,c4]=some y2:=h2
 obtain ⟨a,e0,rfl⟩:=DataW.trod_bool Tryz.underlying4 h0
 obtain ⟨rfl,_⟩:=List.cons.inj e0
 obtain ⟨lo,dom,lit,e2,hy2⟩:=WA h2
 obtain ⟨rfl,e3⟩:=List.cons.inj e2
 obtain ⟨rfl,e4⟩:=List.cons.inj e3
 obtain ⟨rfl,_⟩:=List.cons.inj e4
 rcases open_strings Tryz.underlying28 Tryz.underlying9 Lf h1 with ⟨e1,hy1⟩|⟨ad,len,cap,ss,e1,_,hlc,hm,hz,hy1,hcell,_⟩
 ·obtain ⟨rfl,_⟩:=List.cons.inj e1
  refine ⟨a,none,0,[],lo,dom,lit,.nil,rfl,⟨rfl,Nat.zero_le _,fun h=>absurd h (Nat.lt_irrefl _)⟩,Nat.le_refl _,?_,.inl ⟨rfl,rfl⟩⟩
  rw [hy1,List.map_cons,List.map_cons,List.map_cons,List.map_nil,hy2]
 ·obtain ⟨rfl,_⟩:=List.cons.inj e1
  have hss:ss.length=cap:=by simpa using hz
  have hR:(ss.take len).length=len:=by rw [List.length_take];omega
  have hml:maxLen≤9223372036854775807:=by decide
  refine ⟨a,some ad,cap,ss.take len,lo,dom,lit,.slice (strs (ss.take len)) (strs (ss.drop len)),by rw [hR],?_,by rw [hR];exact hlc,?_,.inr ⟨_,rfl⟩⟩
  ·rw [hR]
   exact aeI aq aq hcell
  ·rw [hy1,List.map_cons,List.map_cons,List.map_cons,List.map_nil,hy2]
theorem WB {b0:Nat} {v:Value} {d:DataW H} {ps:List MemPlace} (hv:Value.okWide Tryz.prog W .any b0 35 v) (h:DataW.Trod enc Tryz.prog W 0 (fun _ =>true) true 35 v d ps):
 ∃ (vb:Int) (ar:ByteArray) (a:Bool) (A:Option Addr) (c:Nat) (R:List ByteArray) (lo dom:ByteArray) (lit:Bool) (rd:DataW H) (A2:Option Addr) (c2:Nat) (P:List gw) (pd:DataW H),
   v= .agg #[.int .u8 vb,.string ar,.bool a,.slice A R.length c,.string lo,.string dom,.bool lit,.slice A2 P.length c2]∧Kd.string.C W A R.length R∧R.length≤c∧Kd.C zN W A2 P.length P∧P.length≤c2∧
   d= .agg [.lit (.int .u8 vb),.lit (.string ar.data.toList),.agg [.lit (.bool a),rd,.agg [.lit (.string lo.data.toList),.lit (.string dom.data.toList),.lit (.bool lit)]],pd]∧(R= []∧rd= .nil∨∃ sp,rd= .slice (strs R) sp)∧(P= []∧pd= .nil∨∃ sp,pd= .slice (P.map xy) sp)∧(Lit.int .u8 vb).wf=true:=by
 obtain ⟨cs,rfl,_⟩:=okWide_struct Tryz.underlying35 hv
 obtain ⟨fuel,hf⟩:=h
 obtain ⟨xs,n,_,hx,hl,hlen,hfl⟩:=DataW.trod_struct Tryz.underlying35 hf
 rw [Zp] at hl
 obtain ⟨c0,c1,c2,c3,c4,c5,c6,c7,hcs⟩:=aeK hl
 obtain ⟨y0,y1,y2,y3,rfl⟩:=aeJ hlen
 have h0:DataW.trod enc Tryz.prog W 0 (fun _ =>true) true n 5 (((Value.agg cs).cells.toList.drop 0).take (Tryz.prog.cellsOf 5))=some y0:=hfl 0 _ rfl
 have h1:DataW.trod enc Tryz.prog W 0 (fun _ =>true) true n 9 (((Value.agg cs).cells.toList.drop 1).take (Tryz.prog.cellsOf 9))=some y1:=hfl 1 _ rfl
 have h2:DataW.trod enc Tryz.prog W 0 (fun _ =>true) true n 32 (((Value.agg cs).cells.toList.drop 2).take (Tryz.prog.cellsOf 32))=some y2:=hfl 2 _ rfl
 have h3:DataW.trod enc Tryz.prog W 0 (fun _ =>true) true n 33 (((Value.agg cs).cells.toList.drop 7).take (Tryz.prog.cellsOf 33))=some y3:=hfl 3 _ rfl
 rw [hcs,cells5] at h0
 rw [hcs,Lf] at h1
 rw [hcs,Sz] at h2
 rw [hcs,Zq] at h3
 replace h0:DataW.trod enc Tryz.prog W 0 (fun _ =>true) true n 5 [c0]=some y0:=h0
 replace h1:DataW.trod enc Tryz.prog W 0 (fun _ =>true) true n 9 [c1]=some y1:=h1
 replace h2:DataW.trod enc Tryz.prog W 0 (fun _ =>true) true n 32 [c2,c3,c4,c5,c6]=some y2:=h2
 replace h3:DataW.trod enc Tryz.prog W 0 (fun _ =>true) true n 33 [c7]=some y3:=h3
 obtain ⟨vb,e0,rfl,hwf⟩:=DataW.trod_int Tryz.underlying5 h0
 obtain ⟨rfl,_⟩:=List.cons.inj e0
 obtain ⟨ar,e1,rfl,_⟩:=DataW.trod_string Tryz.underlying9 h1
 obtain ⟨rfl,_⟩:=List.cons.inj e1
 obtain ⟨a,A,c,R,lo,dom,lit,rd,e2,q1,q2,q3,q4⟩:=PL h2
 simp only [List.cons.injEq,and_true] at e2
 obtain ⟨rfl,rfl,rfl,rfl,rfl⟩:=e2
 obtain ⟨A2,k2,P,e3,p1,p2,p3⟩:=Nw h3
 obtain ⟨rfl,_⟩:=List.cons.inj e3
 have hcs':cs= #[.int .u8 vb,.string ar,.bool a,.slice A R.length c,.string lo,.string dom,.bool lit,.slice A2 P.length k2]:=by
  rw [← Array.toList_inj]
  exact hcs
 obtain ⟨rfl,rfl⟩:=Prod.mk.inj hx
 refine ⟨vb,ar,a,A,c,R,lo,dom,lit,rd,A2,k2,P,y3.1,by rw [hcs'],q1,q2,p1,p2,?_,q4,p3,hwf⟩
 rw [List.map_cons,List.map_cons,List.map_cons,List.map_cons,List.map_nil,q3]
end
theorem Hv {H:Type}:∀ P:List gw,P.length≤Rows.uptoBulkAll (P.map xy:List (DataW H))∧∀ p,p∈P→p.f0.size≤Rows.uptoBulkAll (P.map xy:List (DataW H))∧p.f1.size≤Rows.uptoBulkAll (P.map xy:List (DataW H))
 | []=>⟨Nat.zero_le _,fun y hy=>by cases hy⟩
 |p :: P=>by
  obtain ⟨h1,h2⟩:=Hv (H:=H) P
  have d0:=dh p.f0
  have d1:=dh p.f1
  have e:p.f0.size + p.f1.size + 1 + Rows.uptoBulkAll (P.map xy:List (DataW H))≤Rows.uptoBulkAll ((p :: P).map xy:List (DataW H)):=by
   show _≤Rows.uptoBulkAll ((xy p:DataW H) :: P.map xy)
   unfold xy
   simp only [Rows.uptoBulkAll,Rows.uptoBulk]
   omega
  refine ⟨by rw [List.length_cons];omega,fun y hy=>?_⟩
  rcases List.mem_cons.mp hy with rfl|hy
  ·omega
  ·have:=h2 y hy
   omega
theorem Db {H:Type} {P:List gw} {pd:DataW H} (h:P= []∧pd= .nil∨∃ sp,pd= .slice (P.map xy) sp):P.length≤Rows.uptoBulk pd∧∀ p,p∈P→p.f0.size≤Rows.uptoBulk pd∧p.f1.size≤Rows.uptoBulk pd:=by
 rcases h with ⟨rfl,rfl⟩|⟨sp,rfl⟩
 ·exact ⟨Nat.zero_le _,fun y hy=>by cases hy⟩
 ·obtain ⟨h1,h2⟩:=Hv (H:=H) P
  rw [show Rows.uptoBulk (.slice (P.map xy) sp:DataW H)=Rows.uptoBulkAll (P.map xy:List (DataW H)) + Rows.uptoBulkAll sp + 1 from by simp only [Rows.uptoBulk]]
  exact ⟨aq,fun y hy=>by have:=h2 y hy;omega⟩
end Go.Proofs.YtokpnfljjjjikaaGreatDoor.Lg
namespace Go.Proofs.YtokpnfljjjjikaaGreatDoor
open Go.ChangeShapes Go.WideShapes Go.RowKit
set_option linter.unusedVariables false
theorem WC {r:List (String×DataW Unit)} {W:World} (h:laidMet Tryz.prog (("franking/command.words",Rows.laid_franking_command_words) :: r) W):z7 W:=by
 obtain ⟨ps,⟨g0,t0,⟨l0⟩,f0,p0,q0,hg0,ht0,hv0,hd0,_,e0⟩,_,_⟩:=h
 have hg:Tryz.prog.globalNamed "franking/command.words" =some 0:=by kernel_rfl
 have ht:(Tryz.prog.globals[(0:Nat)]?).map (·.type)=some 28:=by kernel_rfl
 obtain rfl:=Option.some.inj (hg.symm.trans hg0)
 obtain rfl:=Option.some.inj (ht.symm.trans ht0)
 have hd1:DataW.trod _ Tryz.prog W _ _ _ f0 28 l0=some (.slice (kF.map fun x=> .lit (.string x.data.toList)) [],p0):=hd0
 obtain ⟨a,cap,rfl,hl,hx⟩:=open_row Tryz.underlying28 av hd1
 have hcell:∀ (j:Nat) (x:ByteArray),kF[j]? =some x→W.cell? (a.add j)=some (.string x):=by
  intro j x hj
  obtain ⟨v,n,q,hc,htr⟩:=hx j (.lit (.string x.data.toList)) (by rw [List.getElem?_map,hj];rfl)
  obtain ⟨s,e1,e2,_⟩:=DataW.trod_string Tryz.underlying9 htr
  obtain ⟨rfl,_⟩:=List.cons.inj e1
  have e3:x.data.toList=s.data.toList:=by
   have e4:=congrArg (fun z:DataW Unit×List MemPlace=>z.1) e2
   simp only [DataW.lit.injEq,Lit.string.injEq] at e4
   exact e4
  have e5:x=s:=by
   obtain ⟨⟨l⟩⟩:=x
   obtain ⟨⟨m⟩⟩:=s
   simp at e3
   rw [e3]
  rw [hc,e5]
 have hsp:a.spot=none:=by
  have h0:=hcell 0 _ rfl
  simp only [Addr.add,if_true] at h0
  unfold World.cell? at h0
  split at h0
  ·split at h0
   ·cases h0
   ·rename_i h1
    cases hq:a.spot with
    |none=>rfl
    |some y=>rw [hq] at h1;exact absurd rfl h1
  ·cases h0
 have hadd:∀ j,a.add j=⟨a.block,a.off + j,none⟩:=by
  intro j
  obtain ⟨b,o,sp⟩:=a
  simp only at hsp
  subst hsp
  unfold Addr.add
  split
  ·rename_i h;subst h;rfl
  ·rfl
 refine ⟨a.block,a.off,cap,?_,fun j x hj=>by rw [← hadd];exact hcell j x hj⟩
 have h1:=World.var?_cell hg hv0 0
 have h2:(⟨a.block,a.off,none⟩:Addr)=a:=by have:=hadd 0;simp only [Addr.add,if_true] at this;exact this.symm
 rw [h2]
 simpa [kF] using h1
end Go.Proofs.YtokpnfljjjjikaaGreatDoor
