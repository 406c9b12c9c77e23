import Derived.Test.YtokpnfljjjjikaaGreatDoorPArg
namespace Go.Proofs.YtokpnfljjjjikaaGreatDoor.Kt
open Go.ChangeShapes Go.WideShapes Go.RowKit
open Go.Proofs.aj.bw Go.Proofs.YtokpnfljjjjikaaGreatDoor.qm
set_option linter.unusedVariables false
set_option maxRecDepth 100000
theorem S3 {W:World} {a:Addr} {len:Nat} {zs:List Int} (hl:len≤zs.length) (hm:len≤9223372036854775807) (hc:∀ i,i < zs.length→W.cell? (a.add i)=some (.int .u8 (zs.getD i 0))) (hz:∀ n∈zs,(Lit.int .u8 n).wf=true):Kd.C (Kd.int .u8) W (some a) len (zs.take len):=by
 refine ⟨by rw [List.length_take];omega,hm,fun _ =>⟨a,rfl,fun j p hj=>?_⟩⟩
 have hj2:j < len∧zs[j]? =some p:=by
  rw [List.getElem?_take] at hj
  by_cases h:j < len
  ·rw [if_pos h] at hj;exact ⟨h,hj⟩
  ·rw [if_neg h] at hj;cases hj
 have hp:(Lit.int .u8 p).wf=true:=hz p (List.mem_of_getElem? hj2.2)
 refine ⟨[.int .u8 p],rfl,?_,fun i u hi=>?_⟩
 ·first|exact ⟨rfl,hp⟩|exact ⟨p,rfl,rfl,hp⟩|rfl
 cases i with
 |zero=>
  obtain rfl:Value.int .u8 p=u:=by simpa using hi
  have:=hc j ak
  rw [List.getD_eq_getElem?_getD,hj2.2] at this
  show W.cell? (a.add (j * 1 + 0))=_
  rw [Nat.mul_one,Nat.add_zero]
  exact this
 |succ i=>simp at hi
theorem yI {H:Type}:∀ zs:List Int,Rows.uptoBulkAll (lits .u8 zs:List (DataW H))=zs.length
 | []=>rfl
 |z :: zs=>by
  have h:=yI (H:=H) zs
  show Rows.uptoBulkAll ((.lit (.int .u8 z):DataW H) :: lits .u8 zs)=_
  simp only [Rows.uptoBulkAll,Rows.uptoBulk,List.length_cons,h]
  omega
theorem D9 {H:Type} {enc:TypeId×Value→H} {W:World} {b0:Nat} {v:Value} {d:DataW H} {ps:List MemPlace} (hv:Value.okWide Tryz.prog W .any b0 23 v) (h:DataW.Trod enc Tryz.prog W 0 (fun _ =>true) true 23 v d ps):
 ∃ (A:Option Addr) (c:Nat) (l:List Int),v= .slice A l.length c∧Kd.C (Kd.int .u8) W A l.length l∧l.length≤c∧l.length≤Rows.uptoBulk d:=by
 obtain ⟨a,len,cap,rfl⟩:=okWide_slice Tryz.underlying23 hv
 obtain ⟨fuel,hf⟩:=h
 rcases open_ints Tryz.underlying23 Tryz.underlying5 ay hf with ⟨hcs,_⟩|⟨x,l,c,zs,hcs,_,hl,hm,hz,hd,hcell,hwz⟩
 ·simp [Value.cells] at hcs
  obtain ⟨rfl,rfl,rfl⟩:=hcs
  exact ⟨none,0,[],rfl,⟨rfl,Nat.zero_le _,fun h=>absurd h (Nat.lt_irrefl _)⟩,Nat.le_refl _,Nat.zero_le _⟩
 ·simp [Value.cells] at hcs
  obtain ⟨rfl,rfl,rfl⟩:=hcs
  have hzc:zs.length=cap:=by simpa using hz
  have hml:maxLen≤9223372036854775807:=by decide
  have hlen:(zs.take len).length=len:=by rw [List.length_take];omega
  have hd1:d= .slice (lits .u8 (zs.take len)) (lits .u8 (zs.drop len)):=(Prod.mk.inj hd).1
  refine ⟨some x,cap,zs.take len,by rw [hlen],?_,by rw [hlen];exact hl,?_⟩
  ·rw [hlen]
   exact S3 ak ak hcell hwz
  ·subst hd1
   rw [show Rows.uptoBulk (.slice (lits .u8 (zs.take len)) (lits .u8 (zs.drop len)):DataW H)=Rows.uptoBulkAll (lits .u8 (zs.take len):List (DataW H)) + Rows.uptoBulkAll (lits .u8 (zs.drop len):List (DataW H)) + 1 from by simp only [Rows.uptoBulk],yI]
   omega
end Go.Proofs.YtokpnfljjjjikaaGreatDoor.Kt
