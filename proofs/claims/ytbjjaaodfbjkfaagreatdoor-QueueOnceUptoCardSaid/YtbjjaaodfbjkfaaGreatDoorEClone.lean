import Derived.Test.YtbjjaaodfbjkfaaGreatDoorQQux0
import Derived.Lib.Hide
import Derived.Lib.SliceRun
set_option maxHeartbeats 2000000
set_option maxRecDepth 100000
namespace Go.Proofs.YtbjjaaodfbjkfaaGreatDoor.mU
open Go.RowKit Go.Proofs.ak.bR Go.Proofs.ak.dz Go.Proofs.ak.cZ
set_option linter.unusedVariables false
set_option linter.unusedSimpArgs false
theorem AK {α:Type} {d:Kd α} {w:World} {A:Option Addr} {n:Nat} {xs:List α} (hs: 0 < d.sz) (h:d.C w A n xs) (ad:Addr) (hA:A=some ad):
 ∀ k,k≤xs.length→∃ inner,dJ (d.K w) d.sz (xs.take k) inner∧(∀ u∈inner,u.oneCell'=true)∧∀ j u,inner[j]? =some u→w.cell? (ad.add j)=some u:=by
 intro k
 induction k with
 |zero=>intro _;exact ⟨[],dJ.none _ _,(fun u hu=>nomatch hu),(fun j u hu=>nomatch hu)⟩
 |succ k ih=>
  intro hk
  obtain ⟨inner,h1,h2,h3⟩:=ih az
  obtain ⟨hl,hm,hc⟩:=h
  obtain ⟨ad',e,hcc⟩:=hc az
  rw [hA] at e
  obtain rfl:=Option.some.inj e
  obtain ⟨c,hcl,hK,hcell⟩:=hcc k xs[k] (List.getElem?_eq_getElem az)
  have hlen:inner.length=k * d.sz:=by rw [h1.1,List.length_take,Nat.min_eq_left az]
  refine ⟨inner ++ c,?_,?_,?_⟩
  ·rw [List.take_succ_eq_append_getElem az]
   exact h1.snoc hK hcl
  ·intro u hu
   rcases List.mem_append.1 hu with hu|hu
   ·exact h2 u hu
   ·exact d.nV hK u hu
  ·intro j u hu
   rcases Nat.lt_or_ge j inner.length with hj|hj
   ·rw [List.getElem?_append_left hj] at hu
    exact h3 j u hu
   ·rw [List.getElem?_append_right hj] at hu
    have h4:=hcell (j - inner.length) u hu
    rw [hlen] at h4
    rwa [show k * d.sz + (j - k * d.sz)=j by omega] at h4
def fC.f (l:List ByteArray):Option (List ByteArray):=if l.length * 16≤140737488355328 then some l else none
theorem fC.calls (A0:Option Addr) (c0:Nat) (l0:List ByteArray) (r:List ByteArray) (w:World) (nK:Kd.C Kd.string w A0 l0.length l0) (hc0:l0.length≤c0) (h:fC.f l0=some r):
 Calls Tryz.prog 119 #[.slice A0 l0.length c0] w fun e w'=>∃ D5:Value,e= .returned (D5)∧Kd.R Kd.string 9 w' w.heap.size (fun _ =>True) D5 r∧Below w.heap.size w w':=by
 unfold fC.f at h
 by_cases hb:l0.length * 16≤140737488355328
 case neg=>rw [if_neg hb] at h;cases h
 rw [if_pos hb] at h
 obtain rfl:=Option.some.inj h
 clear h
 have q22:∀ (w:World) (a:Option Addr) (n c n' c':Nat),(binOp .eql 27 (.slice a n c) (.slice none n' c')).run Tryz.prog w= .ok (.bool a.isNone) w:=fun w a n c n' c'=>Lib.run_eql_slice_nil w _ _ a n c n' c' Tryz.underlying27
 cases A0 with
 |none=>
  obtain rfl:l0= []:=by
   cases l0 with
   |nil=>rfl
   |cons x l=>obtain ⟨_,_,h3⟩:=nK;obtain ⟨ad,e,_⟩:=h3 cF;cases e
  clear nK hc0
  go_enter Tryz.func119,Tryz.ntmps119
  go_wp2
  go_ret
  exact ⟨_,rfl,Kd.BA _ _ _ _ _,Below.refl _ _⟩
 |some ad=>
  obtain ⟨inner,h1,h2,h3⟩:=AK bC nK ad rfl l0.length (Nat.le_refl _)
  rw [List.take_of_length_le (Nat.le_refl _)] at h1
  have hlen:inner.length=l0.length * 1:=h1.1
  have H1:=Lib.hid h1
  have H2:=Lib.hid h2
  have H3:=Lib.hid h3
  have HL:=Lib.hid hlen
  have hm:=Lib.hid nK.2.1
  clear h1 h2 h3 hlen nK hc0
  obtain ⟨i0,hi,hz⟩:=Option.map_eq_some_iff.1 afp
  simp only [Prod.mk.injEq] at hz
  obtain ⟨hz0,hz1,hz2⟩:=hz
  have HI:=Lib.hid hi
  have HZ0:=Lib.hid hz0
  have HZ1:=Lib.hid hz1
  have HZ2:=Lib.hid hz2
  clear hi hz0 hz1 hz2
  go_enter Tryz.func119,Tryz.ntmps119
  go_wp2_with (at_builtin;refine wpList_append_own _ rfl _ _ 27 rfl w.heap.size 9 i0 (Value.string ⟨#[]⟩) 1 16 Tryz.underlying27 HI.out HZ0.out HZ1.out HZ2.out rfl bC _ _ _ rfl (World.ownsRow_made w #[] 0 (Nat.le_refl _) (Nat.zero_le _) rfl) ad l0.length c0 inner rfl ?qc1 ?qc2 ?qc3 ?qc4 ?qc5 ?qc6 ?_)
  case qc1=>exact HL.out
  case qc2=>intro j u hj;exact Lib.cell?_alloc_some _ (H3.out j u hj)
  case qc3=>exact H2.out
  case qc4=>have:=hm.out;unfold maxLen;omega
  case qc5=>omega
  case qc6=>simp
  intro v' w1 hown hgrow hnil
  go_wp2
  go_ret
  refine ⟨v',rfl,⟨fun _ _ =>trivial,inner,hown,H1.out.vL (fun p c hp=>hp)⟩,?_⟩
  exact ((Below.refl _ w).alloc (Nat.le_refl _) _).grown hgrow cF GF
def eA.f (l:List jM):Option (List jM):=if l.length * 64≤140737488355328 then some l else none
theorem eA.calls (A0:Option Addr) (c0:Nat) (l0:List jM) (r:List jM) (w:World) (nK:Kd.C sM w A0 l0.length l0) (hc0:l0.length≤c0) (h:eA.f l0=some r):
 Calls Tryz.prog 120 #[.slice A0 l0.length c0] w fun e w'=>∃ D5:Value,e= .returned (D5)∧Kd.R sM 37 w' w.heap.size (fun _ =>True) D5 r∧Below w.heap.size w w':=by
 unfold eA.f at h
 by_cases hb:l0.length * 64≤140737488355328
 case neg=>rw [if_neg hb] at h;cases h
 rw [if_pos hb] at h
 obtain rfl:=Option.some.inj h
 clear h
 have q22:∀ (w:World) (a:Option Addr) (n c n' c':Nat),(binOp .eql 32 (.slice a n c) (.slice none n' c')).run Tryz.prog w= .ok (.bool a.isNone) w:=fun w a n c n' c'=>Lib.run_eql_slice_nil w _ _ a n c n' c' Tryz.underlying32
 cases A0 with
 |none=>
  obtain rfl:l0= []:=by
   cases l0 with
   |nil=>rfl
   |cons x l=>obtain ⟨_,_,h3⟩:=nK;obtain ⟨ad,e,_⟩:=h3 cF;cases e
  clear nK hc0
  go_enter Tryz.func120,Tryz.ntmps120
  go_wp2
  go_ret
  exact ⟨_,rfl,Kd.BA _ _ _ _ _,Below.refl _ _⟩
 |some ad=>
  obtain ⟨inner,h1,h2,h3⟩:=AK bC nK ad rfl l0.length (Nat.le_refl _)
  rw [List.take_of_length_le (Nat.le_refl _)] at h1
  have hlen:inner.length=l0.length * 6:=h1.1
  have H1:=Lib.hid h1
  have H2:=Lib.hid h2
  have H3:=Lib.hid h3
  have HL:=Lib.hid hlen
  have hm:=Lib.hid nK.2.1
  clear h1 h2 h3 hlen nK hc0
  obtain ⟨i0,hi,hz⟩:=Option.map_eq_some_iff.1 Mn
  simp only [Prod.mk.injEq] at hz
  obtain ⟨hz0,hz1,hz2⟩:=hz
  have HI:=Lib.hid hi
  have HZ0:=Lib.hid hz0
  have HZ1:=Lib.hid hz1
  have HZ2:=Lib.hid hz2
  clear hi hz0 hz1 hz2
  go_enter Tryz.func120,Tryz.ntmps120
  go_wp2_with (at_builtin;refine wpList_append_own _ rfl _ _ 32 rfl w.heap.size 37 i0 (.agg #[(.string ⟨#[]⟩),(.string ⟨#[]⟩),(.bool false),(.int .u8 0),(.int .i64 0),(.int .i64 0)]) 6 64 Tryz.underlying32 HI.out HZ0.out HZ1.out HZ2.out rfl bC _ _ _ rfl (World.ownsRow_made w #[] 0 (Nat.le_refl _) (Nat.zero_le _) rfl) ad l0.length c0 inner rfl ?qc1 ?qc2 ?qc3 ?qc4 ?qc5 ?qc6 ?_)
  case qc1=>exact HL.out
  case qc2=>intro j u hj;exact Lib.cell?_alloc_some _ (H3.out j u hj)
  case qc3=>exact H2.out
  case qc4=>have:=hm.out;unfold maxLen;omega
  case qc5=>omega
  case qc6=>simp
  intro v' w1 hown hgrow hnil
  go_wp2
  go_ret
  refine ⟨v',rfl,⟨fun _ _ =>trivial,inner,hown,H1.out.vL (fun p c hp=>by obtain rfl:=KA hp;exact Cz _ _ _ _)⟩,?_⟩
  exact ((Below.refl _ w).alloc (Nat.le_refl _) _).grown hgrow cF GF
def gf.f (l:List Int):Option (List Int):=if l.length * 1≤140737488355328 then some l else none
theorem gf.calls (A0:Option Addr) (c0:Nat) (l0:List Int) (r:List Int) (w:World) (nK:Kd.C (Kd.int .u8) w A0 l0.length l0) (hc0:l0.length≤c0) (h:gf.f l0=some r):
 Calls Tryz.prog 121 #[.slice A0 l0.length c0] w fun e w'=>∃ D5:Value,e= .returned (D5)∧Kd.R (Kd.int .u8) 5 w' w.heap.size (fun _ =>True) D5 r∧Below w.heap.size w w':=by
 unfold gf.f at h
 by_cases hb:l0.length * 1≤140737488355328
 case neg=>rw [if_neg hb] at h;cases h
 rw [if_pos hb] at h
 obtain rfl:=Option.some.inj h
 clear h
 have q22:∀ (w:World) (a:Option Addr) (n c n' c':Nat),(binOp .eql 22 (.slice a n c) (.slice none n' c')).run Tryz.prog w= .ok (.bool a.isNone) w:=fun w a n c n' c'=>Lib.run_eql_slice_nil w _ _ a n c n' c' Tryz.underlying22
 cases A0 with
 |none=>
  obtain rfl:l0= []:=by
   cases l0 with
   |nil=>rfl
   |cons x l=>obtain ⟨_,_,h3⟩:=nK;obtain ⟨ad,e,_⟩:=h3 cF;cases e
  clear nK hc0
  go_enter Tryz.func121,Tryz.ntmps121
  go_wp2
  go_ret
  exact ⟨_,rfl,Kd.BA _ _ _ _ _,Below.refl _ _⟩
 |some ad=>
  obtain ⟨inner,h1,h2,h3⟩:=AK bC nK ad rfl l0.length (Nat.le_refl _)
  rw [List.take_of_length_le (Nat.le_refl _)] at h1
  have hlen:inner.length=l0.length * 1:=h1.1
  have H1:=Lib.hid h1
  have H2:=Lib.hid h2
  have H3:=Lib.hid h3
  have HL:=Lib.hid hlen
  have hm:=Lib.hid nK.2.1
  clear h1 h2 h3 hlen nK hc0
  obtain ⟨i0,hi,hz⟩:=Option.map_eq_some_iff.1 abg
  simp only [Prod.mk.injEq] at hz
  obtain ⟨hz0,hz1,hz2⟩:=hz
  have HI:=Lib.hid hi
  have HZ0:=Lib.hid hz0
  have HZ1:=Lib.hid hz1
  have HZ2:=Lib.hid hz2
  clear hi hz0 hz1 hz2
  go_enter Tryz.func121,Tryz.ntmps121
  go_wp2_with (at_builtin;refine wpList_append_own _ rfl _ _ 22 rfl w.heap.size 5 i0 (.int .u8 0) 1 1 Tryz.underlying22 HI.out HZ0.out HZ1.out HZ2.out rfl bC _ _ _ rfl (World.ownsRow_made w #[] 0 (Nat.le_refl _) (Nat.zero_le _) rfl) ad l0.length c0 inner rfl ?qc1 ?qc2 ?qc3 ?qc4 ?qc5 ?qc6 ?_)
  case qc1=>exact HL.out
  case qc2=>intro j u hj;exact Lib.cell?_alloc_some _ (H3.out j u hj)
  case qc3=>exact H2.out
  case qc4=>have:=hm.out;unfold maxLen;omega
  case qc5=>omega
  case qc6=>simp
  intro v' w1 hown hgrow hnil
  go_wp2
  go_ret
  refine ⟨v',rfl,⟨fun _ _ =>trivial,inner,hown,H1.out.vL (fun p c hp=>hp)⟩,?_⟩
  exact ((Below.refl _ w).alloc (Nat.le_refl _) _).grown hgrow cF GF
end Go.Proofs.YtbjjaaodfbjkfaaGreatDoor.mU
