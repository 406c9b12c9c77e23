import Derived.Test.YtokpnfljjjjikaaGreatDoorERep2
import Derived.Test.YtokpnfljjjjikaaGreatDoorQCbx14
namespace Go.Proofs.YtokpnfljjjjikaaGreatDoor.nK
open Go.RowKit Go.Proofs.aj.bQ Go.Proofs.aj.cM
set_option linter.unusedVariables false
set_option linter.unusedSimpArgs false
def WM (l dom:ByteArray) (lit:Bool):ByteArray:=if lit=true then ((l ++ (⟨#[64,91]⟩:ByteArray)) ++ dom) ++ (⟨#[93]⟩:ByteArray) else (l ++ (⟨#[64]⟩:ByteArray)) ++ dom
def DA (l:ByteArray):ByteArray:=((⟨#[34]⟩:ByteArray) ++ zA l) ++ (⟨#[34]⟩:ByteArray)
def gZ.f (k:Nat) (lo dom:ByteArray) (lit:Bool):Option (ByteArray×Int):=
 (dL.f k lo dom lit).bind fun b=>if b=true then
   (aH.f k lo 0 46).bind fun t=>
     if lo.size≤70368744177664∧dom.size≤70368744177664 then
      some (WM (if t.1=true∧t.2.2=(lo.size:Int) then lo else DA lo) dom lit,0)
     else none
 else some (⟨#[]⟩,150)
theorem MH (s:ByteArray):(zA s).size≤s.size + s.size:=by
 unfold zA
 rw [strOfNums_size,tX,bytesOf_length]
 have h:=countP_le (bytesOf s) (bytesOf s).length
 rw [List.take_length,bytesOf_length] at h
 omega
theorem rI (k:Nat) (lo s':ByteArray) (ok:Bool) (at':Int) (ht:aH.f k lo 0 46=some (ok,s',at')) (w w1:World) (hb:Below w.heap.size w w1) (hlt:w.heap.size < w1.heap.size):
 Calls Tryz.prog 67 #[.pointer (some ⟨w1.heap.size,0,none⟩),.int .u8 46,.func (.func 68) #[.pointer (some ⟨w1.heap.size,0,none⟩)] #[]] (w1.alloc (.cells #[.string lo,.int .i64 0] 82)) fun e w3=>e= .returned (.bool ok)∧Below w.heap.size w w3∧w3.cell? ⟨w1.heap.size,1,none⟩=some (.int .i64 at')∧(∀ j,w3.cell? ⟨w.heap.size,j,none⟩=w1.cell? ⟨w.heap.size,j,none⟩)∧w.heap.size < w3.heap.size:=by
 refine (aH.calls k _ lo 0 46 ok s' at' w _ ⟨heap_alloc_new w1 _,hb.size⟩ (hb.alloc hb.size _) ht).mono ?_
 rintro e w3 ⟨rfl,hi,hb3,hk⟩
 have hsz:w.heap.size < w3.heap.size:=Nat.lt_of_lt_of_le hlt (Nat.le_of_lt (Array.getElem?_eq_some_iff.1 hi.1).1)
 refine ⟨rfl,hb3,dB hi.1,fun j=>?_,hsz⟩
 refine (World.cell?_of_block (hk.2 w.heap.size sB aq aV)).trans ?_
 exact World.cell?_alloc_past _ _ _ hlt
set_option maxRecDepth 100000 in
set_option maxHeartbeats 8000000 in
theorem gZ.calls (k:Nat) (aI aZ:ByteArray) (bp:Bool) (r1:ByteArray) (r2:Int) (w:World) (hG:aQ w) (h:gZ.f k aI aZ bp=some (r1,r2)):
 Calls Tryz.prog 22 #[.agg #[.string aI,.string aZ,.bool bp]] w fun e w'=>e= .returned (.tuple #[.string r1,.int .i64 r2])∧Below w.heap.size w w':=by
 unfold gZ.f at h
 obtain ⟨b,hb,h⟩:=Option.bind_eq_some_iff.mp h
 have HG:=Lib.hid hG
 have HBX:=Lib.hid (fun (W:World) (hw:aQ W)=>dL.calls k aI aZ bp b W hw hb)
 clear hG hb
 cases b with
 |false=>
  rw [if_neg bG] at h
  cases h
  go_enter Tryz.func22,Tryz.ntmps22
  go_wp2_with (go_at_call 63;refine (HBX.out _ (HG.out.below (aG (Below.refl _ _) _))).mono ?_;rintro e w1 ⟨rfl,hb1⟩;have su:=Lib.hid hb1;clear hb1)
  go_ret2
  exact ⟨rfl,bR (aG (Below.refl _ _) _) aV su.out⟩
 |true=>
  rw [if_pos rfl] at h
  obtain ⟨⟨ok,s',at'⟩,ht,h⟩:=Option.bind_eq_some_iff.mp h
  simp only at h
  by_cases hs:aI.size≤70368744177664∧aZ.size≤70368744177664
  case neg=>rw [if_neg hs] at h;cases h
  rw [if_pos hs] at h
  obtain ⟨hs1,hs2⟩:=hs
  have HT:=Lib.hid ht
  clear ht
  have hq:=MH aI
  have Z6:=Lib.hid hs1
  obtain ⟨Q,hQ⟩:∃ Q,Q=zA aI:=⟨_,rfl⟩
  rw [← hQ] at hq
  have HQ:=Lib.hid hQ
  have e1:(9223372036854775807 < 1 + Q.size)=False:=eq_false aq
  have e2:(9223372036854775807 < 1 + Q.size + 1)=False:=eq_false aq
  have e3:(9223372036854775807 < aI.size + 2)=False:=eq_false aq
  have e4:(9223372036854775807 < aI.size + 2 + aZ.size)=False:=eq_false aq
  have e5:(9223372036854775807 < aI.size + 2 + aZ.size + 1)=False:=eq_false aq
  have e6:(9223372036854775807 < aI.size + 1)=False:=eq_false aq
  have e7:(9223372036854775807 < aI.size + 1 + aZ.size)=False:=eq_false aq
  have e8:(9223372036854775807 < 1 + Q.size + 1 + 2)=False:=eq_false aq
  have e9:(9223372036854775807 < 1 + Q.size + 1 + 2 + aZ.size)=False:=eq_false aq
  have e10:(9223372036854775807 < 1 + Q.size + 1 + 2 + aZ.size + 1)=False:=eq_false aq
  have e11:(9223372036854775807 < 1 + Q.size + 1 + 1)=False:=eq_false aq
  have e12:(9223372036854775807 < 1 + Q.size + 1 + 1 + aZ.size)=False:=eq_false aq
  clear hs1 hs2 hq hQ
  by_cases hp:ok=true∧at'=(aI.size:Int)
  ·rw [if_pos hp] at h
   obtain ⟨rfl,hat⟩:=hp
   have b1:(at' != (aI.size:Int))=false:=by simp [hat]
   clear hat
   cases bp with
   |true=>
    have HR:=Lib.hid (Option.some.inj h)
    clear h
    go_enter Tryz.func22,Tryz.ntmps22
    go_wp2_with (first
     |(go_at_call 63;refine (HBX.out _ (HG.out.below (aG (Below.refl _ _) _))).mono ?_;rintro e w1 ⟨rfl,hb1⟩;have k0:=(hb1.cell (p:=⟨w.heap.size,0,none⟩) aV).trans (World.cell?_alloc_at _ _ _ _ rfl);have k1:=(hb1.cell (p:=⟨w.heap.size,1,none⟩) aV).trans (World.cell?_alloc_at _ _ _ _ rfl);have k2:=(hb1.cell (p:=⟨w.heap.size,2,none⟩) aV).trans (World.cell?_alloc_at _ _ _ _ rfl);have HS:=Lib.hid (show w.heap.size < w1.heap.size by have:=hb1.size;simp at this;omega);have su:=Lib.hid (bR (aG (Below.refl _ _) _) aV hb1);clear hb1)
     |(go_at_call 67;refine (rI k aI s' true at' HT.out w w1 su.out HS.out).mono ?_;rintro e w3 ⟨rfl,hb3,VI,Bo,hs3⟩;have l0:=(Bo 0).trans k0;have l1:=(Bo 1).trans k1;have l2:=(Bo 2).trans k2;clear k0 k1 k2 Bo;have BG:=Lib.hid hb3;have NN:=Lib.hid hs3;clear hb3 hs3))
    go_ret2
    exact ⟨P5,BG.out⟩
   |false=>
    have HR:=Lib.hid (Option.some.inj h)
    clear h
    go_enter Tryz.func22,Tryz.ntmps22
    go_wp2_with (first
     |(go_at_call 63;refine (HBX.out _ (HG.out.below (aG (Below.refl _ _) _))).mono ?_;rintro e w1 ⟨rfl,hb1⟩;have k0:=(hb1.cell (p:=⟨w.heap.size,0,none⟩) aV).trans (World.cell?_alloc_at _ _ _ _ rfl);have k1:=(hb1.cell (p:=⟨w.heap.size,1,none⟩) aV).trans (World.cell?_alloc_at _ _ _ _ rfl);have k2:=(hb1.cell (p:=⟨w.heap.size,2,none⟩) aV).trans (World.cell?_alloc_at _ _ _ _ rfl);have HS:=Lib.hid (show w.heap.size < w1.heap.size by have:=hb1.size;simp at this;omega);have su:=Lib.hid (bR (aG (Below.refl _ _) _) aV hb1);clear hb1)
     |(go_at_call 67;refine (rI k aI s' true at' HT.out w w1 su.out HS.out).mono ?_;rintro e w3 ⟨rfl,hb3,VI,Bo,hs3⟩;have l0:=(Bo 0).trans k0;have l1:=(Bo 1).trans k1;have l2:=(Bo 2).trans k2;clear k0 k1 k2 Bo;have BG:=Lib.hid hb3;have NN:=Lib.hid hs3;clear hb3 hs3))
    go_ret2
    exact ⟨P5,BG.out⟩
  ·rw [if_neg hp] at h
   cases ok with
   |false=>
    clear hp
    cases bp with
    |true=>
     have HR:=Lib.hid (Option.some.inj h)
     clear h
     go_enter Tryz.func22,Tryz.ntmps22
     go_wp2_with (first
      |(go_at_call 63;refine (HBX.out _ (HG.out.below (aG (Below.refl _ _) _))).mono ?_;rintro e w1 ⟨rfl,hb1⟩;have k0:=(hb1.cell (p:=⟨w.heap.size,0,none⟩) aV).trans (World.cell?_alloc_at _ _ _ _ rfl);have k1:=(hb1.cell (p:=⟨w.heap.size,1,none⟩) aV).trans (World.cell?_alloc_at _ _ _ _ rfl);have k2:=(hb1.cell (p:=⟨w.heap.size,2,none⟩) aV).trans (World.cell?_alloc_at _ _ _ _ rfl);have HS:=Lib.hid (show w.heap.size < w1.heap.size by have:=hb1.size;simp at this;omega);have su:=Lib.hid (bR (aG (Below.refl _ _) _) aV hb1);clear hb1)
      |(go_at_call 67;refine (rI k aI s' false at' HT.out w w1 su.out HS.out).mono ?_;rintro e w3 ⟨rfl,hb3,VI,Bo,hs3⟩;have l0:=(Bo 0).trans k0;have l1:=(Bo 1).trans k1;have l2:=(Bo 2).trans k2;clear k0 k1 k2 Bo;have BG:=Lib.hid hb3;have NN:=Lib.hid hs3;clear hb3 hs3)
      |(go_at_call 69;refine (yP _ _ _ aV aV aV aV).mono ?_;rintro e w4 ⟨p,q,rfl,hn⟩;have m1:=(hn.vN.cell (p:=⟨w.heap.size,1,none⟩) ko).trans ((World.cell?_alloc_past _ _ _ NN.out).trans l1);have m2:=(hn.vN.cell (p:=⟨w.heap.size,2,none⟩) ko).trans ((World.cell?_alloc_past _ _ _ NN.out).trans l2);clear l0 l1 l2;have HN:=Lib.hid hn;clear hn)
      |(go_at_call 70;obtain ⟨c4,VJ⟩:=HN.out.k4;refine (qw aI Z6.out p q c4 _ HN.out.ql HN.out.pl HN.out.pq HN.out.k0 HN.out.k1 HN.out.k3 VJ HN.out.fz HN.out.s0 HN.out.s1 HN.out.s2 HN.out.s3 _ HN.out.pn).mono ?_;clear VJ;rintro e w5 ⟨rfl,KQ⟩;rw [← HQ.out];have n1:=(KQ.cell (p:=⟨w.heap.size,1,none⟩) ko).trans m1;have n2:=(KQ.cell (p:=⟨w.heap.size,2,none⟩) ko).trans m2;clear m1 m2;have xe:=Lib.hid KQ;clear KQ))
     go_ret2
     exact ⟨HJ,BG.out.trans (((aG (Below.refl w3.heap.size w3) _).mono DG).trans ((HN.out.vN.mono ko).trans (xe.out.mono ko)))⟩
    |false=>
     have HR:=Lib.hid (Option.some.inj h)
     clear h
     go_enter Tryz.func22,Tryz.ntmps22
     go_wp2_with (first
      |(go_at_call 63;refine (HBX.out _ (HG.out.below (aG (Below.refl _ _) _))).mono ?_;rintro e w1 ⟨rfl,hb1⟩;have k0:=(hb1.cell (p:=⟨w.heap.size,0,none⟩) aV).trans (World.cell?_alloc_at _ _ _ _ rfl);have k1:=(hb1.cell (p:=⟨w.heap.size,1,none⟩) aV).trans (World.cell?_alloc_at _ _ _ _ rfl);have k2:=(hb1.cell (p:=⟨w.heap.size,2,none⟩) aV).trans (World.cell?_alloc_at _ _ _ _ rfl);have HS:=Lib.hid (show w.heap.size < w1.heap.size by have:=hb1.size;simp at this;omega);have su:=Lib.hid (bR (aG (Below.refl _ _) _) aV hb1);clear hb1)
      |(go_at_call 67;refine (rI k aI s' false at' HT.out w w1 su.out HS.out).mono ?_;rintro e w3 ⟨rfl,hb3,VI,Bo,hs3⟩;have l0:=(Bo 0).trans k0;have l1:=(Bo 1).trans k1;have l2:=(Bo 2).trans k2;clear k0 k1 k2 Bo;have BG:=Lib.hid hb3;have NN:=Lib.hid hs3;clear hb3 hs3)
      |(go_at_call 69;refine (yP _ _ _ aV aV aV aV).mono ?_;rintro e w4 ⟨p,q,rfl,hn⟩;have m1:=(hn.vN.cell (p:=⟨w.heap.size,1,none⟩) ko).trans ((World.cell?_alloc_past _ _ _ NN.out).trans l1);have m2:=(hn.vN.cell (p:=⟨w.heap.size,2,none⟩) ko).trans ((World.cell?_alloc_past _ _ _ NN.out).trans l2);clear l0 l1 l2;have HN:=Lib.hid hn;clear hn)
      |(go_at_call 70;obtain ⟨c4,VJ⟩:=HN.out.k4;refine (qw aI Z6.out p q c4 _ HN.out.ql HN.out.pl HN.out.pq HN.out.k0 HN.out.k1 HN.out.k3 VJ HN.out.fz HN.out.s0 HN.out.s1 HN.out.s2 HN.out.s3 _ HN.out.pn).mono ?_;clear VJ;rintro e w5 ⟨rfl,KQ⟩;rw [← HQ.out];have n1:=(KQ.cell (p:=⟨w.heap.size,1,none⟩) ko).trans m1;have n2:=(KQ.cell (p:=⟨w.heap.size,2,none⟩) ko).trans m2;clear m1 m2;have xe:=Lib.hid KQ;clear KQ))
     go_ret2
     exact ⟨HJ,BG.out.trans (((aG (Below.refl w3.heap.size w3) _).mono DG).trans ((HN.out.vN.mono ko).trans (xe.out.mono ko)))⟩
   |true=>
    have b1:(at' != (aI.size:Int))=true:=by simp;intro h1;exact hp ⟨rfl,h1⟩
    clear hp
    cases bp with
    |true=>
     have HR:=Lib.hid (Option.some.inj h)
     clear h
     go_enter Tryz.func22,Tryz.ntmps22
     go_wp2_with (first
      |(go_at_call 63;refine (HBX.out _ (HG.out.below (aG (Below.refl _ _) _))).mono ?_;rintro e w1 ⟨rfl,hb1⟩;have k0:=(hb1.cell (p:=⟨w.heap.size,0,none⟩) aV).trans (World.cell?_alloc_at _ _ _ _ rfl);have k1:=(hb1.cell (p:=⟨w.heap.size,1,none⟩) aV).trans (World.cell?_alloc_at _ _ _ _ rfl);have k2:=(hb1.cell (p:=⟨w.heap.size,2,none⟩) aV).trans (World.cell?_alloc_at _ _ _ _ rfl);have HS:=Lib.hid (show w.heap.size < w1.heap.size by have:=hb1.size;simp at this;omega);have su:=Lib.hid (bR (aG (Below.refl _ _) _) aV hb1);clear hb1)
      |(go_at_call 67;refine (rI k aI s' true at' HT.out w w1 su.out HS.out).mono ?_;rintro e w3 ⟨rfl,hb3,VI,Bo,hs3⟩;have l0:=(Bo 0).trans k0;have l1:=(Bo 1).trans k1;have l2:=(Bo 2).trans k2;clear k0 k1 k2 Bo;have BG:=Lib.hid hb3;have NN:=Lib.hid hs3;clear hb3 hs3)
      |(go_at_call 69;refine (yP _ _ _ aV aV aV aV).mono ?_;rintro e w4 ⟨p,q,rfl,hn⟩;have m1:=(hn.vN.cell (p:=⟨w.heap.size,1,none⟩) ko).trans ((World.cell?_alloc_past _ _ _ NN.out).trans l1);have m2:=(hn.vN.cell (p:=⟨w.heap.size,2,none⟩) ko).trans ((World.cell?_alloc_past _ _ _ NN.out).trans l2);clear l0 l1 l2;have HN:=Lib.hid hn;clear hn)
      |(go_at_call 70;obtain ⟨c4,VJ⟩:=HN.out.k4;refine (qw aI Z6.out p q c4 _ HN.out.ql HN.out.pl HN.out.pq HN.out.k0 HN.out.k1 HN.out.k3 VJ HN.out.fz HN.out.s0 HN.out.s1 HN.out.s2 HN.out.s3 _ HN.out.pn).mono ?_;clear VJ;rintro e w5 ⟨rfl,KQ⟩;rw [← HQ.out];have n1:=(KQ.cell (p:=⟨w.heap.size,1,none⟩) ko).trans m1;have n2:=(KQ.cell (p:=⟨w.heap.size,2,none⟩) ko).trans m2;clear m1 m2;have xe:=Lib.hid KQ;clear KQ))
     go_ret2
     exact ⟨HJ,BG.out.trans (((aG (Below.refl w3.heap.size w3) _).mono DG).trans ((HN.out.vN.mono ko).trans (xe.out.mono ko)))⟩
    |false=>
     have HR:=Lib.hid (Option.some.inj h)
     clear h
     go_enter Tryz.func22,Tryz.ntmps22
     go_wp2_with (first
      |(go_at_call 63;refine (HBX.out _ (HG.out.below (aG (Below.refl _ _) _))).mono ?_;rintro e w1 ⟨rfl,hb1⟩;have k0:=(hb1.cell (p:=⟨w.heap.size,0,none⟩) aV).trans (World.cell?_alloc_at _ _ _ _ rfl);have k1:=(hb1.cell (p:=⟨w.heap.size,1,none⟩) aV).trans (World.cell?_alloc_at _ _ _ _ rfl);have k2:=(hb1.cell (p:=⟨w.heap.size,2,none⟩) aV).trans (World.cell?_alloc_at _ _ _ _ rfl);have HS:=Lib.hid (show w.heap.size < w1.heap.size by have:=hb1.size;simp at this;omega);have su:=Lib.hid (bR (aG (Below.refl _ _) _) aV hb1);clear hb1)
      |(go_at_call 67;refine (rI k aI s' true at' HT.out w w1 su.out HS.out).mono ?_;rintro e w3 ⟨rfl,hb3,VI,Bo,hs3⟩;have l0:=(Bo 0).trans k0;have l1:=(Bo 1).trans k1;have l2:=(Bo 2).trans k2;clear k0 k1 k2 Bo;have BG:=Lib.hid hb3;have NN:=Lib.hid hs3;clear hb3 hs3)
      |(go_at_call 69;refine (yP _ _ _ aV aV aV aV).mono ?_;rintro e w4 ⟨p,q,rfl,hn⟩;have m1:=(hn.vN.cell (p:=⟨w.heap.size,1,none⟩) ko).trans ((World.cell?_alloc_past _ _ _ NN.out).trans l1);have m2:=(hn.vN.cell (p:=⟨w.heap.size,2,none⟩) ko).trans ((World.cell?_alloc_past _ _ _ NN.out).trans l2);clear l0 l1 l2;have HN:=Lib.hid hn;clear hn)
      |(go_at_call 70;obtain ⟨c4,VJ⟩:=HN.out.k4;refine (qw aI Z6.out p q c4 _ HN.out.ql HN.out.pl HN.out.pq HN.out.k0 HN.out.k1 HN.out.k3 VJ HN.out.fz HN.out.s0 HN.out.s1 HN.out.s2 HN.out.s3 _ HN.out.pn).mono ?_;clear VJ;rintro e w5 ⟨rfl,KQ⟩;rw [← HQ.out];have n1:=(KQ.cell (p:=⟨w.heap.size,1,none⟩) ko).trans m1;have n2:=(KQ.cell (p:=⟨w.heap.size,2,none⟩) ko).trans m2;clear m1 m2;have xe:=Lib.hid KQ;clear KQ))
     go_ret2
     exact ⟨HJ,BG.out.trans (((aG (Below.refl w3.heap.size w3) _).mono DG).trans ((HN.out.vN.mono ko).trans (xe.out.mono ko)))⟩
end Go.Proofs.YtokpnfljjjjikaaGreatDoor.nK
