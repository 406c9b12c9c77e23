import Derived.Test.YtokpnfljjjjikaaGreatDoorERep2
import Derived.Test.YtokpnfljjjjikaaGreatDoorQPtx11
namespace Go.Proofs.YtokpnfljjjjikaaGreatDoor.mY
open Go.RowKit Go.Proofs.aj.bO Go.Proofs.aj.cK
set_option linter.unusedVariables false
set_option linter.unusedSimpArgs false
def Yz (l dom:ByteArray) (lit:Bool):ByteArray:=if lit=true then ((l ++ (⟨#[64,91]⟩:ByteArray)) ++ dom) ++ (⟨#[93]⟩:ByteArray) else (l ++ (⟨#[64]⟩:ByteArray)) ++ dom
def DR (l:ByteArray):ByteArray:=((⟨#[34]⟩:ByteArray) ++ zF l) ++ (⟨#[34]⟩:ByteArray)
def gP.f (k:Nat) (lo dom:ByteArray) (lit:Bool):Option (ByteArray×Int):=
 (dN.f k lo dom lit).bind fun b=>if b=true then
   (aW.f k lo 0 46).bind fun t=>
     if lo.size≤70368744177664∧dom.size≤70368744177664 then
      some (Yz (if t.1=true∧t.2.2=(lo.size:Int) then lo else DR lo) dom lit,0)
     else none
 else some (⟨#[]⟩,150)
theorem Mq (s:ByteArray):(zF s).size≤s.size + s.size:=by
 unfold zF
 rw [strOfNums_size,uq,bytesOf_length]
 have h:=countP_le (bytesOf s) (bytesOf s).length
 rw [List.take_length,bytesOf_length] at h
 omega
theorem su (k:Nat) (lo s':ByteArray) (ok:Bool) (at':Int) (ht:aW.f k lo 0 46=some (ok,s',at')) (w w1:World) (hb:Below w.heap.size w w1) (hlt:w.heap.size < w1.heap.size):
 Calls Tryz.prog 67 #[.pointer (some ⟨w1.heap.size,0,none⟩),.int .u8 46,.func (.func 68) #[.pointer (some ⟨w1.heap.size,0,none⟩)] #[]] (w1.alloc (.cells #[.string lo,.int .i64 0] 82)) fun e w3=>e= .returned (.bool ok)∧Below w.heap.size w w3∧w3.cell? ⟨w1.heap.size,1,none⟩=some (.int .i64 at')∧(∀ j,w3.cell? ⟨w.heap.size,j,none⟩=w1.cell? ⟨w.heap.size,j,none⟩)∧w.heap.size < w3.heap.size:=by
 refine (aW.calls k _ lo 0 46 ok s' at' w _ ⟨heap_alloc_new w1 _,hb.size⟩ (hb.alloc hb.size _) ht).mono ?_
 rintro e w3 ⟨rfl,hi,hb3,hk⟩
 have hsz:w.heap.size < w3.heap.size:=Nat.lt_of_lt_of_le hlt (Nat.le_of_lt (Array.getElem?_eq_some_iff.1 hi.1).1)
 refine ⟨rfl,hb3,dP hi.1,fun j=>?_,hsz⟩
 refine (World.cell?_of_block (hk.2 w.heap.size (by simp;omega) ak bw)).trans ?_
 exact World.cell?_alloc_past _ _ _ hlt
set_option maxRecDepth 100000 in
set_option maxHeartbeats 8000000 in
theorem gP.calls (k:Nat) (bS dZ:ByteArray) (cg:Bool) (r1:ByteArray) (r2:Int) (w:World) (hG:aJ w) (h:gP.f k bS dZ cg=some (r1,r2)):
 Calls Tryz.prog 22 #[.agg #[.string bS,.string dZ,.bool cg]] w fun e w'=>e= .returned (.tuple #[.string r1,.int .i64 r2])∧Below w.heap.size w w':=by
 unfold gP.f at h
 obtain ⟨b,hb,h⟩:=Option.bind_eq_some_iff.mp h
 have HG:=Lib.hid hG
 have HBX:=Lib.hid (fun (W:World) (hw:aJ W)=>dN.calls k bS dZ cg b W hw hb)
 clear hG hb
 cases b with
 |false=>
  rw [if_neg bh] at h
  cases h
  go_enter Tryz.func22,Tryz.ntmps22
  go_wp2_with (go_at_call 63;refine (HBX.out _ (HG.out.below (aV (Below.refl _ _) _))).mono ?_;rintro e w1 ⟨rfl,hb1⟩;have BM:=Lib.hid hb1;clear hb1)
  go_ret2
  exact ⟨rfl,fE (aV (Below.refl _ _) _) bw BM.out⟩
 |true=>
  rw [if_pos rfl] at h
  obtain ⟨⟨ok,s',at'⟩,ht,h⟩:=Option.bind_eq_some_iff.mp h
  simp only at h
  by_cases hs:bS.size≤70368744177664∧dZ.size≤70368744177664
  case neg=>rw [if_neg hs] at h;cases h
  rw [if_pos hs] at h
  obtain ⟨hs1,hs2⟩:=hs
  have HT:=Lib.hid ht
  clear ht
  have hq:=Mq bS
  have HS1:=Lib.hid hs1
  obtain ⟨Q,hQ⟩:∃ Q,Q=zF bS:=⟨_,rfl⟩
  rw [← hQ] at hq
  have HQ:=Lib.hid hQ
  have e1:(9223372036854775807 < 1 + Q.size)=False:=eq_false ak
  have e2:(9223372036854775807 < 1 + Q.size + 1)=False:=eq_false ak
  have e3:(9223372036854775807 < bS.size + 2)=False:=eq_false ak
  have e4:(9223372036854775807 < bS.size + 2 + dZ.size)=False:=eq_false ak
  have e5:(9223372036854775807 < bS.size + 2 + dZ.size + 1)=False:=eq_false ak
  have e6:(9223372036854775807 < bS.size + 1)=False:=eq_false ak
  have e7:(9223372036854775807 < bS.size + 1 + dZ.size)=False:=eq_false ak
  have e8:(9223372036854775807 < 1 + Q.size + 1 + 2)=False:=eq_false ak
  have e9:(9223372036854775807 < 1 + Q.size + 1 + 2 + dZ.size)=False:=eq_false ak
  have e10:(9223372036854775807 < 1 + Q.size + 1 + 2 + dZ.size + 1)=False:=eq_false ak
  have e11:(9223372036854775807 < 1 + Q.size + 1 + 1)=False:=eq_false ak
  have e12:(9223372036854775807 < 1 + Q.size + 1 + 1 + dZ.size)=False:=eq_false ak
  clear hs1 hs2 hq hQ
  by_cases hp:ok=true∧at'=(bS.size:Int)
  ·rw [if_pos hp] at h
   obtain ⟨rfl,hat⟩:=hp
   have b1:(at' != (bS.size:Int))=false:=by simp [hat]
   clear hat
   cases cg with
   |true=>
    have HR:=Lib.hid (Option.some.inj h)
    clear h
    go_enter Tryz.func22,Tryz.ntmps22
    go_wp2_with (first
     |(go_at_call 63;refine (HBX.out _ (HG.out.below (aV (Below.refl _ _) _))).mono ?_;rintro e w1 ⟨rfl,hb1⟩;have k0:=(hb1.cell (p:=⟨w.heap.size,0,none⟩) bw).trans (World.cell?_alloc_at _ _ _ _ rfl);have k1:=(hb1.cell (p:=⟨w.heap.size,1,none⟩) bw).trans (World.cell?_alloc_at _ _ _ _ rfl);have k2:=(hb1.cell (p:=⟨w.heap.size,2,none⟩) bw).trans (World.cell?_alloc_at _ _ _ _ rfl);have HS:=Lib.hid (show w.heap.size < w1.heap.size by have:=hb1.size;simp at this;omega);have BM:=Lib.hid (fE (aV (Below.refl _ _) _) bw hb1);clear hb1)
     |(go_at_call 67;refine (su k bS s' true at' HT.out w w1 BM.out HS.out).mono ?_;rintro e w3 ⟨rfl,hb3,Wv,zG,hs3⟩;have l0:=(zG 0).trans k0;have l1:=(zG 1).trans k1;have l2:=(zG 2).trans k2;clear k0 k1 k2 zG;have DC:=Lib.hid hb3;have NH:=Lib.hid hs3;clear hb3 hs3))
    go_ret2
    exact ⟨QF,DC.out⟩
   |false=>
    have HR:=Lib.hid (Option.some.inj h)
    clear h
    go_enter Tryz.func22,Tryz.ntmps22
    go_wp2_with (first
     |(go_at_call 63;refine (HBX.out _ (HG.out.below (aV (Below.refl _ _) _))).mono ?_;rintro e w1 ⟨rfl,hb1⟩;have k0:=(hb1.cell (p:=⟨w.heap.size,0,none⟩) bw).trans (World.cell?_alloc_at _ _ _ _ rfl);have k1:=(hb1.cell (p:=⟨w.heap.size,1,none⟩) bw).trans (World.cell?_alloc_at _ _ _ _ rfl);have k2:=(hb1.cell (p:=⟨w.heap.size,2,none⟩) bw).trans (World.cell?_alloc_at _ _ _ _ rfl);have HS:=Lib.hid (show w.heap.size < w1.heap.size by have:=hb1.size;simp at this;omega);have BM:=Lib.hid (fE (aV (Below.refl _ _) _) bw hb1);clear hb1)
     |(go_at_call 67;refine (su k bS s' true at' HT.out w w1 BM.out HS.out).mono ?_;rintro e w3 ⟨rfl,hb3,Wv,zG,hs3⟩;have l0:=(zG 0).trans k0;have l1:=(zG 1).trans k1;have l2:=(zG 2).trans k2;clear k0 k1 k2 zG;have DC:=Lib.hid hb3;have NH:=Lib.hid hs3;clear hb3 hs3))
    go_ret2
    exact ⟨QF,DC.out⟩
  ·rw [if_neg hp] at h
   cases ok with
   |false=>
    clear hp
    cases cg with
    |true=>
     have HR:=Lib.hid (Option.some.inj h)
     clear h
     go_enter Tryz.func22,Tryz.ntmps22
     go_wp2_with (first
      |(go_at_call 63;refine (HBX.out _ (HG.out.below (aV (Below.refl _ _) _))).mono ?_;rintro e w1 ⟨rfl,hb1⟩;have k0:=(hb1.cell (p:=⟨w.heap.size,0,none⟩) bw).trans (World.cell?_alloc_at _ _ _ _ rfl);have k1:=(hb1.cell (p:=⟨w.heap.size,1,none⟩) bw).trans (World.cell?_alloc_at _ _ _ _ rfl);have k2:=(hb1.cell (p:=⟨w.heap.size,2,none⟩) bw).trans (World.cell?_alloc_at _ _ _ _ rfl);have HS:=Lib.hid (show w.heap.size < w1.heap.size by have:=hb1.size;simp at this;omega);have BM:=Lib.hid (fE (aV (Below.refl _ _) _) bw hb1);clear hb1)
      |(go_at_call 67;refine (su k bS s' false at' HT.out w w1 BM.out HS.out).mono ?_;rintro e w3 ⟨rfl,hb3,Wv,zG,hs3⟩;have l0:=(zG 0).trans k0;have l1:=(zG 1).trans k1;have l2:=(zG 2).trans k2;clear k0 k1 k2 zG;have DC:=Lib.hid hb3;have NH:=Lib.hid hs3;clear hb3 hs3)
      |(go_at_call 69;refine (yI _ _ _ bw bw bw bw).mono ?_;rintro e w4 ⟨p,q,rfl,hn⟩;have m1:=(hn.vA.cell (p:=⟨w.heap.size,1,none⟩) jF).trans ((World.cell?_alloc_past _ _ _ NH.out).trans l1);have m2:=(hn.vA.cell (p:=⟨w.heap.size,2,none⟩) jF).trans ((World.cell?_alloc_past _ _ _ NH.out).trans l2);clear l0 l1 l2;have HN:=Lib.hid hn;clear hn)
      |(go_at_call 70;obtain ⟨c4,Ww⟩:=HN.out.k4;refine (qH bS HS1.out p q c4 _ HN.out.ql HN.out.pl HN.out.pq HN.out.k0 HN.out.k1 HN.out.k3 Ww HN.out.fz HN.out.s0 HN.out.s1 HN.out.s2 HN.out.s3 _ HN.out.pn).mono ?_;clear Ww;rintro e w5 ⟨rfl,KF⟩;rw [← HQ.out];have n1:=(KF.cell (p:=⟨w.heap.size,1,none⟩) jF).trans m1;have n2:=(KF.cell (p:=⟨w.heap.size,2,none⟩) jF).trans m2;clear m1 m2;have HB5:=Lib.hid KF;clear KF))
     go_ret2
     exact ⟨DN,DC.out.trans (((aV (Below.refl w3.heap.size w3) _).mono D7).trans ((HN.out.vA.mono jF).trans (HB5.out.mono jF)))⟩
    |false=>
     have HR:=Lib.hid (Option.some.inj h)
     clear h
     go_enter Tryz.func22,Tryz.ntmps22
     go_wp2_with (first
      |(go_at_call 63;refine (HBX.out _ (HG.out.below (aV (Below.refl _ _) _))).mono ?_;rintro e w1 ⟨rfl,hb1⟩;have k0:=(hb1.cell (p:=⟨w.heap.size,0,none⟩) bw).trans (World.cell?_alloc_at _ _ _ _ rfl);have k1:=(hb1.cell (p:=⟨w.heap.size,1,none⟩) bw).trans (World.cell?_alloc_at _ _ _ _ rfl);have k2:=(hb1.cell (p:=⟨w.heap.size,2,none⟩) bw).trans (World.cell?_alloc_at _ _ _ _ rfl);have HS:=Lib.hid (show w.heap.size < w1.heap.size by have:=hb1.size;simp at this;omega);have BM:=Lib.hid (fE (aV (Below.refl _ _) _) bw hb1);clear hb1)
      |(go_at_call 67;refine (su k bS s' false at' HT.out w w1 BM.out HS.out).mono ?_;rintro e w3 ⟨rfl,hb3,Wv,zG,hs3⟩;have l0:=(zG 0).trans k0;have l1:=(zG 1).trans k1;have l2:=(zG 2).trans k2;clear k0 k1 k2 zG;have DC:=Lib.hid hb3;have NH:=Lib.hid hs3;clear hb3 hs3)
      |(go_at_call 69;refine (yI _ _ _ bw bw bw bw).mono ?_;rintro e w4 ⟨p,q,rfl,hn⟩;have m1:=(hn.vA.cell (p:=⟨w.heap.size,1,none⟩) jF).trans ((World.cell?_alloc_past _ _ _ NH.out).trans l1);have m2:=(hn.vA.cell (p:=⟨w.heap.size,2,none⟩) jF).trans ((World.cell?_alloc_past _ _ _ NH.out).trans l2);clear l0 l1 l2;have HN:=Lib.hid hn;clear hn)
      |(go_at_call 70;obtain ⟨c4,Ww⟩:=HN.out.k4;refine (qH bS HS1.out p q c4 _ HN.out.ql HN.out.pl HN.out.pq HN.out.k0 HN.out.k1 HN.out.k3 Ww HN.out.fz HN.out.s0 HN.out.s1 HN.out.s2 HN.out.s3 _ HN.out.pn).mono ?_;clear Ww;rintro e w5 ⟨rfl,KF⟩;rw [← HQ.out];have n1:=(KF.cell (p:=⟨w.heap.size,1,none⟩) jF).trans m1;have n2:=(KF.cell (p:=⟨w.heap.size,2,none⟩) jF).trans m2;clear m1 m2;have HB5:=Lib.hid KF;clear KF))
     go_ret2
     exact ⟨DN,DC.out.trans (((aV (Below.refl w3.heap.size w3) _).mono D7).trans ((HN.out.vA.mono jF).trans (HB5.out.mono jF)))⟩
   |true=>
    have b1:(at' != (bS.size:Int))=true:=by simp;intro h1;exact hp ⟨rfl,h1⟩
    clear hp
    cases cg with
    |true=>
     have HR:=Lib.hid (Option.some.inj h)
     clear h
     go_enter Tryz.func22,Tryz.ntmps22
     go_wp2_with (first
      |(go_at_call 63;refine (HBX.out _ (HG.out.below (aV (Below.refl _ _) _))).mono ?_;rintro e w1 ⟨rfl,hb1⟩;have k0:=(hb1.cell (p:=⟨w.heap.size,0,none⟩) bw).trans (World.cell?_alloc_at _ _ _ _ rfl);have k1:=(hb1.cell (p:=⟨w.heap.size,1,none⟩) bw).trans (World.cell?_alloc_at _ _ _ _ rfl);have k2:=(hb1.cell (p:=⟨w.heap.size,2,none⟩) bw).trans (World.cell?_alloc_at _ _ _ _ rfl);have HS:=Lib.hid (show w.heap.size < w1.heap.size by have:=hb1.size;simp at this;omega);have BM:=Lib.hid (fE (aV (Below.refl _ _) _) bw hb1);clear hb1)
      |(go_at_call 67;refine (su k bS s' true at' HT.out w w1 BM.out HS.out).mono ?_;rintro e w3 ⟨rfl,hb3,Wv,zG,hs3⟩;have l0:=(zG 0).trans k0;have l1:=(zG 1).trans k1;have l2:=(zG 2).trans k2;clear k0 k1 k2 zG;have DC:=Lib.hid hb3;have NH:=Lib.hid hs3;clear hb3 hs3)
      |(go_at_call 69;refine (yI _ _ _ bw bw bw bw).mono ?_;rintro e w4 ⟨p,q,rfl,hn⟩;have m1:=(hn.vA.cell (p:=⟨w.heap.size,1,none⟩) jF).trans ((World.cell?_alloc_past _ _ _ NH.out).trans l1);have m2:=(hn.vA.cell (p:=⟨w.heap.size,2,none⟩) jF).trans ((World.cell?_alloc_past _ _ _ NH.out).trans l2);clear l0 l1 l2;have HN:=Lib.hid hn;clear hn)
      |(go_at_call 70;obtain ⟨c4,Ww⟩:=HN.out.k4;refine (qH bS HS1.out p q c4 _ HN.out.ql HN.out.pl HN.out.pq HN.out.k0 HN.out.k1 HN.out.k3 Ww HN.out.fz HN.out.s0 HN.out.s1 HN.out.s2 HN.out.s3 _ HN.out.pn).mono ?_;clear Ww;rintro e w5 ⟨rfl,KF⟩;rw [← HQ.out];have n1:=(KF.cell (p:=⟨w.heap.size,1,none⟩) jF).trans m1;have n2:=(KF.cell (p:=⟨w.heap.size,2,none⟩) jF).trans m2;clear m1 m2;have HB5:=Lib.hid KF;clear KF))
     go_ret2
     exact ⟨DN,DC.out.trans (((aV (Below.refl w3.heap.size w3) _).mono D7).trans ((HN.out.vA.mono jF).trans (HB5.out.mono jF)))⟩
    |false=>
     have HR:=Lib.hid (Option.some.inj h)
     clear h
     go_enter Tryz.func22,Tryz.ntmps22
     go_wp2_with (first
      |(go_at_call 63;refine (HBX.out _ (HG.out.below (aV (Below.refl _ _) _))).mono ?_;rintro e w1 ⟨rfl,hb1⟩;have k0:=(hb1.cell (p:=⟨w.heap.size,0,none⟩) bw).trans (World.cell?_alloc_at _ _ _ _ rfl);have k1:=(hb1.cell (p:=⟨w.heap.size,1,none⟩) bw).trans (World.cell?_alloc_at _ _ _ _ rfl);have k2:=(hb1.cell (p:=⟨w.heap.size,2,none⟩) bw).trans (World.cell?_alloc_at _ _ _ _ rfl);have HS:=Lib.hid (show w.heap.size < w1.heap.size by have:=hb1.size;simp at this;omega);have BM:=Lib.hid (fE (aV (Below.refl _ _) _) bw hb1);clear hb1)
      |(go_at_call 67;refine (su k bS s' true at' HT.out w w1 BM.out HS.out).mono ?_;rintro e w3 ⟨rfl,hb3,Wv,zG,hs3⟩;have l0:=(zG 0).trans k0;have l1:=(zG 1).trans k1;have l2:=(zG 2).trans k2;clear k0 k1 k2 zG;have DC:=Lib.hid hb3;have NH:=Lib.hid hs3;clear hb3 hs3)
      |(go_at_call 69;refine (yI _ _ _ bw bw bw bw).mono ?_;rintro e w4 ⟨p,q,rfl,hn⟩;have m1:=(hn.vA.cell (p:=⟨w.heap.size,1,none⟩) jF).trans ((World.cell?_alloc_past _ _ _ NH.out).trans l1);have m2:=(hn.vA.cell (p:=⟨w.heap.size,2,none⟩) jF).trans ((World.cell?_alloc_past _ _ _ NH.out).trans l2);clear l0 l1 l2;have HN:=Lib.hid hn;clear hn)
      |(go_at_call 70;obtain ⟨c4,Ww⟩:=HN.out.k4;refine (qH bS HS1.out p q c4 _ HN.out.ql HN.out.pl HN.out.pq HN.out.k0 HN.out.k1 HN.out.k3 Ww HN.out.fz HN.out.s0 HN.out.s1 HN.out.s2 HN.out.s3 _ HN.out.pn).mono ?_;clear Ww;rintro e w5 ⟨rfl,KF⟩;rw [← HQ.out];have n1:=(KF.cell (p:=⟨w.heap.size,1,none⟩) jF).trans m1;have n2:=(KF.cell (p:=⟨w.heap.size,2,none⟩) jF).trans m2;clear m1 m2;have HB5:=Lib.hid KF;clear KF))
     go_ret2
     exact ⟨DN,DC.out.trans (((aV (Below.refl w3.heap.size w3) _).mono D7).trans ((HN.out.vA.mono jF).trans (HB5.out.mono jF)))⟩
end Go.Proofs.YtokpnfljjjjikaaGreatDoor.mY
