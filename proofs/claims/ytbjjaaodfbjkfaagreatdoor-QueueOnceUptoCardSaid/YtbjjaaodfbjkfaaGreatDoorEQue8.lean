import Derived.Test.YtbjjaaodfbjkfaaGreatDoorEQue7
namespace Go.Proofs.YtbjjaaodfbjkfaaGreatDoor.mU
open Go.RowKit Go.Proofs.ak.bR Go.Proofs.ak.dz Go.Proofs.ak.cZ
set_option linter.unusedVariables false
set_option linter.unusedSimpArgs false
instance (m:Ml):Decidable (rK m):=by unfold rK;infer_instance
def Jl (n:Int) (ms:List Ml) (m:Ml):Option (Bool×Int×List Ml):=
 if rK m∧(ms.length + 1) * 136≤140737488355328 then some (decide (n≤m.f0) && decide (ms.length < 1000),wrap64 (m.f0 + 1),ms ++ [m]) else none
def MN (n:Int) (ms:List Ml) (i:Nat) (kind at_ due:Int) (x:Ml):Option (Bool×Int×List Ml):=
 if (x.f2.length:Int)≤at_ then some (false,n,ms) else if at_ < 0 then none else
 match x.f2[at_.toNat]? with
 |none=>none
 |some r=>if r.f1=0 then some (MM kind r,n,ms.set i ⟨x.f0,x.f1,x.f2.set at_.toNat (AR kind due r),x.f3,x.f4⟩) else some (false,n,ms)
def AX (n:Int) (ms:List Ml) (i:Nat) (m x:Ml):Option (Bool×Int×List Ml):=
 if rK m∧ms.length * 136≤140737488355328 then
  (dc.f m.f0 m.f1.f0 m.f1.f1 m.f1.f2.f0 m.f1.f2.f1 m.f1.f2.f2 m.f2 m.f3 m.f4).bind fun z=>
    if hasB x.f2 0=true then some (false,n,ms) else
     (dA.f m.f0 m.f1.f0 m.f1.f1 m.f1.f2.f0 m.f1.f2.f1 m.f1.f2.f2 m.f2 m.f3 m.f4 x.f0 x.f1.f0 x.f1.f1 x.f1.f2.f0 x.f1.f2.f1 x.f1.f2.f2 x.f2 x.f3 x.f4 n).bind fun b=>
       some (Close (hasB x.f2 2 && !x.f1.f0) b z true,if (hasB x.f2 2 && !x.f1.f0)=true then wrap64 (m.f0 + 1) else n,if (hasB x.f2 2 && !x.f1.f0)=true then ms.eraseIdx i ++ [m] else ms.eraseIdx i)
 else none
def nT.f (n:Int) (ms:List Ml) (kind id at_ due:Int) (m:Ml):Option (Bool×Int×List Ml):=
 if kind=1 then Jl n ms m else if kind=6 then some (decide (n < id),id,ms) else
 if lG id ms 0 < 0 then some (false,n,ms) else
 match ms[(lG id ms 0).toNat]? with
 |none=>none
 |some x=>if kind=5 then AX n ms (lG id ms 0).toNat m x else if kind=2∨kind=3∨kind=4 then MN n ms (lG id ms 0).toNat kind at_ due x else none
theorem nT.calls {w0 w:World} {gq:Nat} {n:Int} {v:Value} {ms:List Ml} {kind id at_ due:Int} {m:Ml} {A2:Option Addr} {c2:Nat} {A6:Option Addr} {c6:Nat} {A7:Option Addr} {c7:Nat} {b:Bool} {n':Int} {ms':List Ml}
 (hW:QW w0 w gq n v ms) (hR:MR w0 m A2 c2 A6 c6 A7 c7) (h:nT.f n ms kind id at_ due m=some (b,n',ms')):
 Calls Tryz.prog 59 #[.pointer (some ⟨gq,0,none⟩),.agg (gI kind id at_ due m A2 c2 A6 c6 A7 c7)] w (FR w0 gq b n' ms'):=by
 unfold nT.f at h
 split at h
 ·rename_i hk
  subst hk
  unfold Jl at h
  split at h
  ·rename_i hc
   simp only [Option.some.injEq,Prod.mk.injEq] at h
   obtain ⟨rfl,rfl,rfl⟩:=h
   exact (UC hW hR hc.1 hc.2).mono fun _ _ ⟨he,v',hq⟩=>⟨he,hq.bl,fun _ =>⟨v',hq⟩⟩
  ·cases h
 ·split at h
  ·rename_i hk
   subst hk
   simp only [Option.some.injEq,Prod.mk.injEq] at h
   obtain ⟨rfl,rfl,rfl⟩:=h
   exact (RM hW).mono fun _ _ ⟨he,v',hq⟩=>⟨he,hq.bl,fun _ =>⟨v',hq⟩⟩
  ·rename_i h1 h6
   split at h
   ·rename_i hi
    simp only [Option.some.injEq,Prod.mk.injEq] at h
    obtain ⟨rfl,rfl,rfl⟩:=h
    exact RN hW h1 h6 hi
   ·rename_i hi
    split at h
    ·cases h
    ·rename_i x hx
     obtain ⟨i,hii⟩:∃ i:Nat,lG id ms 0=i:=⟨(lG id ms 0).toNat,az⟩
     rw [hii,Int.toNat_natCast] at hx h
     split at h
     ·rename_i hk
      unfold AX at h
      split at h
      ·rename_i hc
       obtain ⟨z,hz,h⟩:=Option.bind_eq_some_iff.mp h
       split at h
       ·rename_i h0
        simp only [Option.some.injEq,Prod.mk.injEq] at h
        obtain ⟨rfl,rfl,rfl⟩:=h
        exact (Eg hW hR hk i x hii hx false z (fun e=>by rw [h0] at e;cases e) hz hc.1 hc.2 false _ _ (by rw [h0];rfl) rfl rfl).mono fun _ _ ⟨he,hb,_⟩=>⟨he,hb,fun e=>by cases e⟩
       ·rename_i h0
        obtain ⟨b',hb',h⟩:=Option.bind_eq_some_iff.mp h
        simp only [Option.some.injEq,Prod.mk.injEq] at h
        obtain ⟨rfl,rfl,rfl⟩:=h
        have h1':hasB x.f2 0=false:=by simpa using h0
        exact Eg hW hR hk i x hii hx b' z (fun _ =>hb') hz hc.1 hc.2 _ _ _ (by rw [h1'];rfl) rfl rfl
      ·cases h
     ·split at h
      ·rename_i hk5 hk
       unfold MN at h
       split at h
       ·rename_i ha
        simp only [Option.some.injEq,Prod.mk.injEq] at h
        obtain ⟨rfl,rfl,rfl⟩:=h
        exact K3 hW hk i x hii hx (.inl ha)
       ·split at h
        ·cases h
        ·rename_i ha0 ha1
         split at h
         ·cases h
         ·rename_i r hr
          obtain ⟨a,rfl⟩:∃ a:Nat,at_=a:=⟨at_.toNat,az⟩
          rw [Int.toNat_natCast] at hr h
          split at h
          ·rename_i hs
           simp only [Option.some.injEq,Prod.mk.injEq] at h
           obtain ⟨rfl,rfl,rfl⟩:=h
           exact RQ hW hk i x hii hx a r hr hs
          ·rename_i hs
           simp only [Option.some.injEq,Prod.mk.injEq] at h
           obtain ⟨rfl,rfl,rfl⟩:=h
           exact K3 hW hk i x hii hx (.inr ⟨a,r,rfl,hr,hs⟩)
      ·cases h
end Go.Proofs.YtbjjaaodfbjkfaaGreatDoor.mU
