import Derived.Test.YtokpnfljjjjikaaGreatDoorERep2
import Derived.Test.YtokpnfljjjjikaaGreatDoorQPtx11
namespace Go.Proofs.YtokpnfljjjjikaaGreatDoor.lO
open Go.RowKit Go.Proofs.aj.bw Go.Proofs.aj.cj
set_option linter.unusedVariables false
set_option linter.unusedSimpArgs false
def KH (l dom:ByteArray) (lit:Bool):ByteArray:=if lit=true then ((l ++ (⟨#[64,91]⟩:ByteArray)) ++ dom) ++ (⟨#[93]⟩:ByteArray) else (l ++ (⟨#[64]⟩:ByteArray)) ++ dom
def uw (l:ByteArray):ByteArray:=((⟨#[34]⟩:ByteArray) ++ qO l) ++ (⟨#[34]⟩:ByteArray)
def eG.f (k:Nat) (lo dom:ByteArray) (lit:Bool):Option (ByteArray×Int):=
 (cC.f k lo dom lit).bind fun b=>if b=true then
   (aC.f k lo 0 46).bind fun t=>
     if lo.size≤70368744177664∧dom.size≤70368744177664 then
      some (KH (if t.1=true∧t.2.2=(lo.size:Int) then lo else uw lo) dom lit,0)
     else none
 else some (⟨#[]⟩,150)
theorem BB (s:ByteArray):(qO s).size≤s.size + s.size:=by
 unfold qO
 rw [strOfNums_size,nR,bytesOf_length]
 have h:=countP_le (bytesOf s) (bytesOf s).length
 rw [List.take_length,bytesOf_length] at h
 omega
theorem mG (k:Nat) (lo s':ByteArray) (ok:Bool) (at':Int) (ht:aC.f k lo 0 46=some (ok,s',at')) (w w1:World) (hb:Below w.heap.size w w1) (hlt:w.heap.size < w1.heap.size):
 Calls Tryz.prog 67 #[.pointer (some ⟨w1.heap.size,0,none⟩),.int .u8 46,.func (.func 68) #[.pointer (some ⟨w1.heap.size,0,none⟩)] #[]] (w1.alloc (.cells #[.string lo,.int .i64 0] 82)) fun e w3=>e= .returned (.bool ok)∧Below w.heap.size w w3∧w3.cell? ⟨w1.heap.size,1,none⟩=some (.int .i64 at')∧(∀ j,w3.cell? ⟨w.heap.size,j,none⟩=w1.cell? ⟨w.heap.size,j,none⟩)∧w.heap.size < w3.heap.size:=by
 refine (aC.calls k _ lo 0 46 ok s' at' w _ ⟨heap_alloc_new w1 _,hb.size⟩ (hb.alloc hb.size _) ht).mono ?_
 rintro e w3 ⟨rfl,hi,hb3,hk⟩
 have hsz:w.heap.size < w3.heap.size:=Nat.lt_of_lt_of_le hlt (Nat.le_of_lt (Array.getElem?_eq_some_iff.1 hi.1).1)
 refine ⟨rfl,hb3,cG hi.1,fun j=>?_,hsz⟩
 refine (World.cell?_of_block (hk.2 w.heap.size (by simp;omega) ak bB)).trans ?_
 exact World.cell?_alloc_past _ _ _ hlt
set_option maxRecDepth 100000 in
set_option maxHeartbeats 8000000 in
theorem eG.calls (k:Nat) (bD fM:ByteArray) (bC:Bool) (r1:ByteArray) (r2:Int) (w:World) (hG:aQ w) (h:eG.f k bD fM bC=some (r1,r2)):
 Calls Tryz.prog 22 #[.agg #[.string bD,.string fM,.bool bC]] w fun e w'=>e= .returned (.tuple #[.string r1,.int .i64 r2])∧Below w.heap.size w w':=by
 unfold eG.f at h
 obtain ⟨b,hb,h⟩:=Option.bind_eq_some_iff.mp h
 have HG:=Lib.hid hG
 have O8:=Lib.hid (fun (W:World) (hw:aQ W)=>cC.calls k bD fM bC b W hw hb)
 clear hG hb
 cases b with
 |false=>
  rw [if_neg bg] at h
  cases h
  go_enter Tryz.func22,Tryz.ntmps22
  go_wp2_with (go_at_call 63;refine (O8.out _ (HG.out.below (aJ (Below.refl _ _) _))).mono ?_;rintro e w1 ⟨rfl,hb1⟩;have sA:=Lib.hid hb1;clear hb1)
  go_ret2
  exact ⟨rfl,dn (aJ (Below.refl _ _) _) bB sA.out⟩
 |true=>
  rw [if_pos rfl] at h
  obtain ⟨⟨ok,s',at'⟩,ht,h⟩:=Option.bind_eq_some_iff.mp h
  simp only at h
  by_cases hs:bD.size≤70368744177664∧fM.size≤70368744177664
  case neg=>rw [if_neg hs] at h;cases h
  rw [if_pos hs] at h
  obtain ⟨hs1,hs2⟩:=hs
  have HT:=Lib.hid ht
  clear ht
  have hq:=BB bD
  have NT:=Lib.hid hs1
  obtain ⟨Q,hQ⟩:∃ Q,Q=qO bD:=⟨_,rfl⟩
  rw [← hQ] at hq
  have HQ:=Lib.hid hQ
  have e1:(9223372036854775807 < 1 + Q.size)=False:=eq_false ak
  have e2:(9223372036854775807 < 1 + Q.size + 1)=False:=eq_false ak
  have e3:(9223372036854775807 < bD.size + 2)=False:=eq_false ak
  have e4:(9223372036854775807 < bD.size + 2 + fM.size)=False:=eq_false ak
  have e5:(9223372036854775807 < bD.size + 2 + fM.size + 1)=False:=eq_false ak
  have e6:(9223372036854775807 < bD.size + 1)=False:=eq_false ak
  have e7:(9223372036854775807 < bD.size + 1 + fM.size)=False:=eq_false ak
  have e8:(9223372036854775807 < 1 + Q.size + 1 + 2)=False:=eq_false ak
  have e9:(9223372036854775807 < 1 + Q.size + 1 + 2 + fM.size)=False:=eq_false ak
  have e10:(9223372036854775807 < 1 + Q.size + 1 + 2 + fM.size + 1)=False:=eq_false ak
  have e11:(9223372036854775807 < 1 + Q.size + 1 + 1)=False:=eq_false ak
  have e12:(9223372036854775807 < 1 + Q.size + 1 + 1 + fM.size)=False:=eq_false ak
  clear hs1 hs2 hq hQ
  by_cases hp:ok=true∧at'=(bD.size:Int)
  ·rw [if_pos hp] at h
   obtain ⟨rfl,hat⟩:=hp
   have b1:(at' != (bD.size:Int))=false:=by simp [hat]
   clear hat
   cases bC with
   |true=>
    have HR:=Lib.hid (Option.some.inj h)
    clear h
    go_enter Tryz.func22,Tryz.ntmps22
    go_wp2_with (first
     |(go_at_call 63;refine (O8.out _ (HG.out.below (aJ (Below.refl _ _) _))).mono ?_;rintro e w1 ⟨rfl,hb1⟩;have k0:=(hb1.cell (p:=⟨w.heap.size,0,none⟩) bB).trans (World.cell?_alloc_at _ _ _ _ rfl);have k1:=(hb1.cell (p:=⟨w.heap.size,1,none⟩) bB).trans (World.cell?_alloc_at _ _ _ _ rfl);have k2:=(hb1.cell (p:=⟨w.heap.size,2,none⟩) bB).trans (World.cell?_alloc_at _ _ _ _ rfl);have HS:=Lib.hid (show w.heap.size < w1.heap.size by have:=hb1.size;simp at this;omega);have sA:=Lib.hid (dn (aJ (Below.refl _ _) _) bB hb1);clear hb1)
     |(go_at_call 67;refine (mG k bD s' true at' HT.out w w1 sA.out HS.out).mono ?_;rintro e w3 ⟨rfl,hb3,JD,rS,hs3⟩;have l0:=(rS 0).trans k0;have l1:=(rS 1).trans k1;have l2:=(rS 2).trans k2;clear k0 k1 k2 rS;have uq:=Lib.hid hb3;have Ct:=Lib.hid hs3;clear hb3 hs3))
    go_ret2
    exact ⟨Ek,uq.out⟩
   |false=>
    have HR:=Lib.hid (Option.some.inj h)
    clear h
    go_enter Tryz.func22,Tryz.ntmps22
    go_wp2_with (first
     |(go_at_call 63;refine (O8.out _ (HG.out.below (aJ (Below.refl _ _) _))).mono ?_;rintro e w1 ⟨rfl,hb1⟩;have k0:=(hb1.cell (p:=⟨w.heap.size,0,none⟩) bB).trans (World.cell?_alloc_at _ _ _ _ rfl);have k1:=(hb1.cell (p:=⟨w.heap.size,1,none⟩) bB).trans (World.cell?_alloc_at _ _ _ _ rfl);have k2:=(hb1.cell (p:=⟨w.heap.size,2,none⟩) bB).trans (World.cell?_alloc_at _ _ _ _ rfl);have HS:=Lib.hid (show w.heap.size < w1.heap.size by have:=hb1.size;simp at this;omega);have sA:=Lib.hid (dn (aJ (Below.refl _ _) _) bB hb1);clear hb1)
     |(go_at_call 67;refine (mG k bD s' true at' HT.out w w1 sA.out HS.out).mono ?_;rintro e w3 ⟨rfl,hb3,JD,rS,hs3⟩;have l0:=(rS 0).trans k0;have l1:=(rS 1).trans k1;have l2:=(rS 2).trans k2;clear k0 k1 k2 rS;have uq:=Lib.hid hb3;have Ct:=Lib.hid hs3;clear hb3 hs3))
    go_ret2
    exact ⟨Ek,uq.out⟩
  ·rw [if_neg hp] at h
   cases ok with
   |false=>
    clear hp
    cases bC with
    |true=>
     have HR:=Lib.hid (Option.some.inj h)
     clear h
     go_enter Tryz.func22,Tryz.ntmps22
     go_wp2_with (first
      |(go_at_call 63;refine (O8.out _ (HG.out.below (aJ (Below.refl _ _) _))).mono ?_;rintro e w1 ⟨rfl,hb1⟩;have k0:=(hb1.cell (p:=⟨w.heap.size,0,none⟩) bB).trans (World.cell?_alloc_at _ _ _ _ rfl);have k1:=(hb1.cell (p:=⟨w.heap.size,1,none⟩) bB).trans (World.cell?_alloc_at _ _ _ _ rfl);have k2:=(hb1.cell (p:=⟨w.heap.size,2,none⟩) bB).trans (World.cell?_alloc_at _ _ _ _ rfl);have HS:=Lib.hid (show w.heap.size < w1.heap.size by have:=hb1.size;simp at this;omega);have sA:=Lib.hid (dn (aJ (Below.refl _ _) _) bB hb1);clear hb1)
      |(go_at_call 67;refine (mG k bD s' false at' HT.out w w1 sA.out HS.out).mono ?_;rintro e w3 ⟨rfl,hb3,JD,rS,hs3⟩;have l0:=(rS 0).trans k0;have l1:=(rS 1).trans k1;have l2:=(rS 2).trans k2;clear k0 k1 k2 rS;have uq:=Lib.hid hb3;have Ct:=Lib.hid hs3;clear hb3 hs3)
      |(go_at_call 69;refine (qi _ _ _ bB bB bB bB).mono ?_;rintro e w4 ⟨p,q,rfl,hn⟩;have m1:=(hn.og.cell (p:=⟨w.heap.size,1,none⟩) gT).trans ((World.cell?_alloc_past _ _ _ Ct.out).trans l1);have m2:=(hn.og.cell (p:=⟨w.heap.size,2,none⟩) gT).trans ((World.cell?_alloc_past _ _ _ Ct.out).trans l2);clear l0 l1 l2;have HN:=Lib.hid hn;clear hn)
      |(go_at_call 70;obtain ⟨c4,JE⟩:=HN.out.k4;refine (lA bD NT.out p q c4 _ HN.out.ql HN.out.pl HN.out.pq HN.out.k0 HN.out.k1 HN.out.k3 JE HN.out.fz HN.out.s0 HN.out.s1 HN.out.s2 HN.out.s3 _ HN.out.pn).mono ?_;clear JE;rintro e w5 ⟨rfl,zT⟩;rw [← HQ.out];have n1:=(zT.cell (p:=⟨w.heap.size,1,none⟩) gT).trans m1;have n2:=(zT.cell (p:=⟨w.heap.size,2,none⟩) gT).trans m2;clear m1 m2;have O9:=Lib.hid zT;clear zT))
     go_ret2
     exact ⟨yV,uq.out.trans (((aJ (Below.refl w3.heap.size w3) _).mono uz).trans ((HN.out.og.mono gT).trans (O9.out.mono gT)))⟩
    |false=>
     have HR:=Lib.hid (Option.some.inj h)
     clear h
     go_enter Tryz.func22,Tryz.ntmps22
     go_wp2_with (first
      |(go_at_call 63;refine (O8.out _ (HG.out.below (aJ (Below.refl _ _) _))).mono ?_;rintro e w1 ⟨rfl,hb1⟩;have k0:=(hb1.cell (p:=⟨w.heap.size,0,none⟩) bB).trans (World.cell?_alloc_at _ _ _ _ rfl);have k1:=(hb1.cell (p:=⟨w.heap.size,1,none⟩) bB).trans (World.cell?_alloc_at _ _ _ _ rfl);have k2:=(hb1.cell (p:=⟨w.heap.size,2,none⟩) bB).trans (World.cell?_alloc_at _ _ _ _ rfl);have HS:=Lib.hid (show w.heap.size < w1.heap.size by have:=hb1.size;simp at this;omega);have sA:=Lib.hid (dn (aJ (Below.refl _ _) _) bB hb1);clear hb1)
      |(go_at_call 67;refine (mG k bD s' false at' HT.out w w1 sA.out HS.out).mono ?_;rintro e w3 ⟨rfl,hb3,JD,rS,hs3⟩;have l0:=(rS 0).trans k0;have l1:=(rS 1).trans k1;have l2:=(rS 2).trans k2;clear k0 k1 k2 rS;have uq:=Lib.hid hb3;have Ct:=Lib.hid hs3;clear hb3 hs3)
      |(go_at_call 69;refine (qi _ _ _ bB bB bB bB).mono ?_;rintro e w4 ⟨p,q,rfl,hn⟩;have m1:=(hn.og.cell (p:=⟨w.heap.size,1,none⟩) gT).trans ((World.cell?_alloc_past _ _ _ Ct.out).trans l1);have m2:=(hn.og.cell (p:=⟨w.heap.size,2,none⟩) gT).trans ((World.cell?_alloc_past _ _ _ Ct.out).trans l2);clear l0 l1 l2;have HN:=Lib.hid hn;clear hn)
      |(go_at_call 70;obtain ⟨c4,JE⟩:=HN.out.k4;refine (lA bD NT.out p q c4 _ HN.out.ql HN.out.pl HN.out.pq HN.out.k0 HN.out.k1 HN.out.k3 JE HN.out.fz HN.out.s0 HN.out.s1 HN.out.s2 HN.out.s3 _ HN.out.pn).mono ?_;clear JE;rintro e w5 ⟨rfl,zT⟩;rw [← HQ.out];have n1:=(zT.cell (p:=⟨w.heap.size,1,none⟩) gT).trans m1;have n2:=(zT.cell (p:=⟨w.heap.size,2,none⟩) gT).trans m2;clear m1 m2;have O9:=Lib.hid zT;clear zT))
     go_ret2
     exact ⟨yV,uq.out.trans (((aJ (Below.refl w3.heap.size w3) _).mono uz).trans ((HN.out.og.mono gT).trans (O9.out.mono gT)))⟩
   |true=>
    have b1:(at' != (bD.size:Int))=true:=by simp;intro h1;exact hp ⟨rfl,h1⟩
    clear hp
    cases bC with
    |true=>
     have HR:=Lib.hid (Option.some.inj h)
     clear h
     go_enter Tryz.func22,Tryz.ntmps22
     go_wp2_with (first
      |(go_at_call 63;refine (O8.out _ (HG.out.below (aJ (Below.refl _ _) _))).mono ?_;rintro e w1 ⟨rfl,hb1⟩;have k0:=(hb1.cell (p:=⟨w.heap.size,0,none⟩) bB).trans (World.cell?_alloc_at _ _ _ _ rfl);have k1:=(hb1.cell (p:=⟨w.heap.size,1,none⟩) bB).trans (World.cell?_alloc_at _ _ _ _ rfl);have k2:=(hb1.cell (p:=⟨w.heap.size,2,none⟩) bB).trans (World.cell?_alloc_at _ _ _ _ rfl);have HS:=Lib.hid (show w.heap.size < w1.heap.size by have:=hb1.size;simp at this;omega);have sA:=Lib.hid (dn (aJ (Below.refl _ _) _) bB hb1);clear hb1)
      |(go_at_call 67;refine (mG k bD s' true at' HT.out w w1 sA.out HS.out).mono ?_;rintro e w3 ⟨rfl,hb3,JD,rS,hs3⟩;have l0:=(rS 0).trans k0;have l1:=(rS 1).trans k1;have l2:=(rS 2).trans k2;clear k0 k1 k2 rS;have uq:=Lib.hid hb3;have Ct:=Lib.hid hs3;clear hb3 hs3)
      |(go_at_call 69;refine (qi _ _ _ bB bB bB bB).mono ?_;rintro e w4 ⟨p,q,rfl,hn⟩;have m1:=(hn.og.cell (p:=⟨w.heap.size,1,none⟩) gT).trans ((World.cell?_alloc_past _ _ _ Ct.out).trans l1);have m2:=(hn.og.cell (p:=⟨w.heap.size,2,none⟩) gT).trans ((World.cell?_alloc_past _ _ _ Ct.out).trans l2);clear l0 l1 l2;have HN:=Lib.hid hn;clear hn)
      |(go_at_call 70;obtain ⟨c4,JE⟩:=HN.out.k4;refine (lA bD NT.out p q c4 _ HN.out.ql HN.out.pl HN.out.pq HN.out.k0 HN.out.k1 HN.out.k3 JE HN.out.fz HN.out.s0 HN.out.s1 HN.out.s2 HN.out.s3 _ HN.out.pn).mono ?_;clear JE;rintro e w5 ⟨rfl,zT⟩;rw [← HQ.out];have n1:=(zT.cell (p:=⟨w.heap.size,1,none⟩) gT).trans m1;have n2:=(zT.cell (p:=⟨w.heap.size,2,none⟩) gT).trans m2;clear m1 m2;have O9:=Lib.hid zT;clear zT))
     go_ret2
     exact ⟨yV,uq.out.trans (((aJ (Below.refl w3.heap.size w3) _).mono uz).trans ((HN.out.og.mono gT).trans (O9.out.mono gT)))⟩
    |false=>
     have HR:=Lib.hid (Option.some.inj h)
     clear h
     go_enter Tryz.func22,Tryz.ntmps22
     go_wp2_with (first
      |(go_at_call 63;refine (O8.out _ (HG.out.below (aJ (Below.refl _ _) _))).mono ?_;rintro e w1 ⟨rfl,hb1⟩;have k0:=(hb1.cell (p:=⟨w.heap.size,0,none⟩) bB).trans (World.cell?_alloc_at _ _ _ _ rfl);have k1:=(hb1.cell (p:=⟨w.heap.size,1,none⟩) bB).trans (World.cell?_alloc_at _ _ _ _ rfl);have k2:=(hb1.cell (p:=⟨w.heap.size,2,none⟩) bB).trans (World.cell?_alloc_at _ _ _ _ rfl);have HS:=Lib.hid (show w.heap.size < w1.heap.size by have:=hb1.size;simp at this;omega);have sA:=Lib.hid (dn (aJ (Below.refl _ _) _) bB hb1);clear hb1)
      |(go_at_call 67;refine (mG k bD s' true at' HT.out w w1 sA.out HS.out).mono ?_;rintro e w3 ⟨rfl,hb3,JD,rS,hs3⟩;have l0:=(rS 0).trans k0;have l1:=(rS 1).trans k1;have l2:=(rS 2).trans k2;clear k0 k1 k2 rS;have uq:=Lib.hid hb3;have Ct:=Lib.hid hs3;clear hb3 hs3)
      |(go_at_call 69;refine (qi _ _ _ bB bB bB bB).mono ?_;rintro e w4 ⟨p,q,rfl,hn⟩;have m1:=(hn.og.cell (p:=⟨w.heap.size,1,none⟩) gT).trans ((World.cell?_alloc_past _ _ _ Ct.out).trans l1);have m2:=(hn.og.cell (p:=⟨w.heap.size,2,none⟩) gT).trans ((World.cell?_alloc_past _ _ _ Ct.out).trans l2);clear l0 l1 l2;have HN:=Lib.hid hn;clear hn)
      |(go_at_call 70;obtain ⟨c4,JE⟩:=HN.out.k4;refine (lA bD NT.out p q c4 _ HN.out.ql HN.out.pl HN.out.pq HN.out.k0 HN.out.k1 HN.out.k3 JE HN.out.fz HN.out.s0 HN.out.s1 HN.out.s2 HN.out.s3 _ HN.out.pn).mono ?_;clear JE;rintro e w5 ⟨rfl,zT⟩;rw [← HQ.out];have n1:=(zT.cell (p:=⟨w.heap.size,1,none⟩) gT).trans m1;have n2:=(zT.cell (p:=⟨w.heap.size,2,none⟩) gT).trans m2;clear m1 m2;have O9:=Lib.hid zT;clear zT))
     go_ret2
     exact ⟨yV,uq.out.trans (((aJ (Below.refl w3.heap.size w3) _).mono uz).trans ((HN.out.og.mono gT).trans (O9.out.mono gT)))⟩
end Go.Proofs.YtokpnfljjjjikaaGreatDoor.lO
