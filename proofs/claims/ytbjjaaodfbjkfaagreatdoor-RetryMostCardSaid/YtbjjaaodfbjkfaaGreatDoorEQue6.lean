import Derived.Test.YtbjjaaodfbjkfaaGreatDoorEQue5
namespace Go.Proofs.YtbjjaaodfbjkfaaGreatDoor.qb
open Go.RowKit Go.Proofs.aj.bQ Go.Proofs.aj.dX Go.Proofs.aj.dJ
set_option linter.unusedVariables false
set_option linter.unusedSimpArgs false
instance (m:Ml):Decidable (yC m):=by unfold yC;infer_instance
def FI (n:Int) (ms:List Ml) (m:Ml):Option (Bool×Int×List Ml):=
 if yC m∧(ms.length + 1) * 136≤140737488355328 then some (decide (n≤m.f0) && decide (ms.length < 1000),wrap64 (m.f0 + 1),ms ++ [m]) else none
def Sq (n:Int) (ms:List Ml) (i:Nat) (kind at_ due:Int) (x:Ml):Option (Bool×Int×List Ml):=
 if (x.f2.length:Int)≤at_ then some (false,n,ms) else if at_ < 0 then none else
 match x.f2[at_.toNat]? with
 |none=>none
 |some r=>if r.f1=0 then some (FE kind r,n,ms.set i ⟨x.f0,x.f1,x.f2.set at_.toNat (xd kind due r),x.f3,x.f4⟩) else some (false,n,ms)
def fitsAt (n:Int) (ms:List Ml) (kind id at_ due:Int):Option (Bool×Int×List Ml):=
 if nH id ms 0 < 0 then some (false,n,ms) else
 match ms[(nH id ms 0).toNat]? with
 |none=>none
 |some x=>Sq n ms (nH id ms 0).toNat kind at_ due x
def kF.f (n:Int) (ms:List Ml) (kind id at_ due:Int) (m:Ml):Option (Bool×Int×List Ml):=
 if kind=1 then FI n ms m else if kind=6 then some (decide (n < id),id,ms) else if kind=2∨kind=3∨kind=4 then fitsAt n ms kind id at_ due else none
theorem kF.calls {w0 w:World} {gq:Nat} {n:Int} {v:Value} {ms:List Ml} {kind id at_ due:Int} {m:Ml} {A2:Option Addr} {c2:Nat} {A6:Option Addr} {c6:Nat} {A7:Option Addr} {c7:Nat} {b:Bool} {n':Int} {ms':List Ml}
 (hW:QW w0 w gq n v ms) (hR:MR w0 m A2 c2 A6 c6 A7 c7) (h:kF.f n ms kind id at_ due m=some (b,n',ms')):
 Calls Tryz.prog 59 #[.pointer (some ⟨gq,0,none⟩),.agg (iT kind id at_ due m A2 c2 A6 c6 A7 c7)] w (FR w0 gq b n' ms'):=by
 unfold kF.f at h
 split at h
 ·rename_i hk
  subst hk
  unfold FI at h
  split at h
  ·rename_i hc
   simp only [Option.some.injEq,Prod.mk.injEq] at h
   obtain ⟨rfl,rfl,rfl⟩:=h
   exact (Sm hW hR hc.1 hc.2).mono fun _ _ ⟨he,v',hq⟩=>⟨he,hq.bl,fun _ =>⟨v',hq⟩⟩
  ·cases h
 ·split at h
  ·rename_i hk
   subst hk
   simp only [Option.some.injEq,Prod.mk.injEq] at h
   obtain ⟨rfl,rfl,rfl⟩:=h
   exact (Px hW).mono fun _ _ ⟨he,v',hq⟩=>⟨he,hq.bl,fun _ =>⟨v',hq⟩⟩
  ·split at h
   ·rename_i h1 h6 hk
    unfold fitsAt at h
    split at h
    ·rename_i hi
     simp only [Option.some.injEq,Prod.mk.injEq] at h
     obtain ⟨rfl,rfl,rfl⟩:=h
     exact Py hW h1 h6 hi
    ·rename_i hi
     split at h
     ·cases h
     ·rename_i x hx
      obtain ⟨i,hii⟩:∃ i:Nat,nH id ms 0=i:=⟨(nH id ms 0).toNat,ay⟩
      rw [hii,Int.toNat_natCast] at hx h
      unfold Sq at h
      split at h
      ·rename_i ha
       simp only [Option.some.injEq,Prod.mk.injEq] at h
       obtain ⟨rfl,rfl,rfl⟩:=h
       exact Iq hW hk i x hii hx (.inl ha)
      ·split at h
       ·cases h
       ·rename_i ha0 ha1
        split at h
        ·cases h
        ·rename_i r hr
         obtain ⟨a,rfl⟩:∃ a:Nat,at_=a:=⟨at_.toNat,ay⟩
         rw [Int.toNat_natCast] at hr h
         split at h
         ·rename_i hs
          simp only [Option.some.injEq,Prod.mk.injEq] at h
          obtain ⟨rfl,rfl,rfl⟩:=h
          exact PA hW hk i x hii hx a r hr hs
         ·rename_i hs
          simp only [Option.some.injEq,Prod.mk.injEq] at h
          obtain ⟨rfl,rfl,rfl⟩:=h
          exact Iq hW hk i x hii hx (.inr ⟨a,r,rfl,hr,hs⟩)
   ·cases h
end Go.Proofs.YtbjjaaodfbjkfaaGreatDoor.qb
