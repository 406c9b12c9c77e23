import Derived.Test.YtokpnfljjjjikaaGreatDoorEQuote
set_option maxHeartbeats 4000000
set_option maxRecDepth 100000
namespace Go.Proofs.YtokpnfljjjjikaaGreatDoor
open Go.RowKit Go.Proofs.aj.bw Go.Proofs.aj.cj
set_option linter.unusedVariables false
set_option linter.unusedSimpArgs false
def qO (s:ByteArray):ByteArray:=strOfNums (iy (bytesOf s))
theorem ur (p q c:Nat) (w:World) (hq:q < w.heap.size) (hp:p < w.heap.size) (ho:w.cell? ⟨p,4,none⟩=some (.slice (some ⟨q,0,none⟩) 4 c)) {u:Value} (hu:w.cell? ⟨p,3,none⟩=some u) (f3:w.frozen? ⟨p,3,none⟩=false) (f4:w.frozen? ⟨p,4,none⟩=false)
 (h0:w.cell? ⟨q,0,none⟩=some (.string ⟨#[34]⟩)) (h1:w.cell? ⟨q,1,none⟩=some (.string ⟨#[92,34]⟩)) (h2:w.cell? ⟨q,2,none⟩=some (.string ⟨#[92]⟩)) (h3:w.cell? ⟨q,3,none⟩=some (.string ⟨#[92,92]⟩)):
 Calls Tryz.prog 122 #[.pointer (some ⟨p,0,none⟩)] w fun e w'=>e= .returned (.tuple #[])∧∃ (g:Nat) (W1:World),FQ w W1 g∧w'=(W1.setCell ⟨p,3,none⟩ (.iface 190 (.pointer (some ⟨g,0,none⟩)))).setCell ⟨p,4,none⟩ (.slice none 0 0):=by
 have HC:=Lib.hid (Bq p q c w hq ho h0 h1 h2 h3)
 have HU:=Lib.hid hu
 have HO:=Lib.hid ho
 have F3:=Lib.hid f3
 have F4:=Lib.hid f4
 clear h0 h1 h2 h3 hu ho f3 f4
 go_enter Tryz.func122,Tryz.ntmps122
 go_wp2_with (go_at_call 162;refine HC.out.mono ?_;rintro e w1 ⟨g,rfl,hb⟩;have hbel:Below w.heap.size w w1:=by {obtain ⟨_,_,_,_,_,h,_⟩:=hb;exact h.og};have k3:=(hbel.cell (p:=⟨p,3,none⟩) hp).trans HU.out;have k4:=(hbel.cell (p:=⟨p,4,none⟩) hp).trans HO.out;have z3:=(hbel.frozen (p:=⟨p,3,none⟩) hp).trans F3.out;have z4:=(hbel.frozen (p:=⟨p,4,none⟩) hp).trans F4.out;have HB:=Lib.hid hb;clear hb hbel)
 go_end0
 exact ⟨rfl,g,w1,HB.out,rfl⟩
def Aft (w w':World) (p g B:Nat):Prop:=w'.cell? ⟨p,3,none⟩=some (.iface 190 (.pointer (some ⟨g,0,none⟩)))∧Below B w w'∧B≤w'.heap.size∧∃ t x cx y cy:Nat,
 (∀ j:Nat,j < 256→j≠34→j≠92→w'.cell? ⟨g,j,none⟩=some (.slice none 0 0))∧w'.cell? ⟨g,34,none⟩=some (.slice (some ⟨y,0,none⟩) 2 cy)∧w'.cell? ⟨g,92,none⟩=some (.slice (some ⟨x,0,none⟩) 2 cx)∧
 w'.cell? ⟨g,256,none⟩=some (.slice (some ⟨t,0,none⟩) 2 2)∧w'.cell? ⟨t,0,none⟩=some (.string ⟨#[92]⟩)∧w'.cell? ⟨t,1,none⟩=some (.string ⟨#[34]⟩)∧gK w' x [92,92]∧gK w' y [92,34]∧g < w'.heap.size∧t < w'.heap.size∧x < w'.heap.size∧y < w'.heap.size
theorem O7 (w W1:World) (p g B:Nat) (hp:p < w.heap.size) (hB:B≤p) {u:Value} (k3:(w.setCell ⟨p,1,none⟩ (.int .i32 1)).cell? ⟨p,3,none⟩=some u) (h:FQ (w.setCell ⟨p,1,none⟩ (.int .i32 1)) W1 g):
 Aft w ((((W1.setCell ⟨p,3,none⟩ (.iface 190 (.pointer (some ⟨g,0,none⟩)))).setCell ⟨p,4,none⟩ (.slice none 0 0)).drew.setCell ⟨p,0,none⟩ (.int .u32 1)).setCell ⟨p,1,none⟩ (.int .i32 0)) p g B:=by
 obtain ⟨t,x,cx,y,cy,hbs,hx,hxn,hy,hyn⟩:=h
 have hsz:(w.setCell ⟨p,1,none⟩ (.int .i32 1)).heap.size=w.heap.size:=by simp
 have hg:=hbs.gN
 have ht:=hbs.tN
 have hw:=hbs.FO
 rw [hsz] at hg ht hxn hyn hw
 have hc:∀ a:Nat,∀ j:Nat,a≠p→((((W1.setCell ⟨p,3,none⟩ (.iface 190 (.pointer (some ⟨g,0,none⟩)))).setCell ⟨p,4,none⟩ (.slice none 0 0)).drew.setCell ⟨p,0,none⟩ (.int .u32 1)).setCell ⟨p,1,none⟩ (.int .i32 0)).cell? ⟨a,j,none⟩=W1.cell? ⟨a,j,none⟩:=by
  intro a j ha
  rw [World.cell?_setCell_other _ _ _ _ (fW (.inl (Ne.symm ha))),World.cell?_setCell_other _ _ _ _ (fW (.inl (Ne.symm ha)))]
  show ((W1.setCell ⟨p,3,none⟩ _).setCell ⟨p,4,none⟩ _).cell? ⟨a,j,none⟩=_
  rw [World.cell?_setCell_other _ _ _ _ (fW (.inl (Ne.symm ha))),World.cell?_setCell_other _ _ _ _ (fW (.inl (Ne.symm ha)))]
 have hfz:∀ a:Addr,((((W1.setCell ⟨p,3,none⟩ (.iface 190 (.pointer (some ⟨g,0,none⟩)))).setCell ⟨p,4,none⟩ (.slice none 0 0)).drew.setCell ⟨p,0,none⟩ (.int .u32 1)).setCell ⟨p,1,none⟩ (.int .i32 0)).frozen? a=W1.frozen? a:=by
  intro a
  rw [World.frozen?_setCell,World.frozen?_setCell]
  show ((W1.setCell ⟨p,3,none⟩ _).setCell ⟨p,4,none⟩ _).frozen? a=_
  rw [World.frozen?_setCell,World.frozen?_setCell]
 have hs:((((W1.setCell ⟨p,3,none⟩ (.iface 190 (.pointer (some ⟨g,0,none⟩)))).setCell ⟨p,4,none⟩ (.slice none 0 0)).drew.setCell ⟨p,0,none⟩ (.int .u32 1)).setCell ⟨p,1,none⟩ (.int .i32 0)).heap.size=W1.heap.size:=by simp
 have hrow:∀ (b:Nat) (xs:List Int),b≠p→gK W1 b xs→gK ((((W1.setCell ⟨p,3,none⟩ (.iface 190 (.pointer (some ⟨g,0,none⟩)))).setCell ⟨p,4,none⟩ (.slice none 0 0)).drew.setCell ⟨p,0,none⟩ (.int .u32 1)).setCell ⟨p,1,none⟩ (.int .i32 0)) b xs:=
  fun b xs hb h j hj=>⟨(hc b j hb).trans (h j hj).1,(hfz _).trans (h j hj).2⟩
 refine ⟨?_,?_,by rw [hs];omega,t,x,cx,y,cy,fun j h1 h2 h3=>(hc _ _ ak).trans (hbs.z j h1 h2 h3),(hc _ _ ak).trans hbs.rR,(hc _ _ ak).trans hbs.xk,(hc _ _ ak).trans hbs.ct,(hc _ _ ak).trans hbs.t0,(hc _ _ ak).trans hbs.t1,hrow _ _ ak hx,hrow _ _ ak hy,by rw [hs];exact hbs.gl,by rw [hs];exact hbs.tl,by rw [hs];exact hxn.2,by rw [hs];exact hyn.2⟩
 ·rw [World.cell?_setCell_other _ _ _ _ (fW (.inr bg)),World.cell?_setCell_other _ _ _ _ (fW (.inr bg))]
  show ((W1.setCell ⟨p,3,none⟩ _).setCell ⟨p,4,none⟩ _).cell? ⟨p,3,none⟩=_
  rw [World.cell?_setCell_other _ _ _ _ (fW (.inr bg))]
  exact World.cell?_setCell_same _ _ _ ((hbs.og.cell (p:=⟨p,3,none⟩) (by rw [hsz];exact hp)).trans k3)
 ·have h1:Below B w (w.setCell ⟨p,1,none⟩ (.int .i32 1)):=(Below.refl B w).setCell hB _
  have h2:Below B w W1:=h1.trans (hbs.og.mono (by rw [hsz];omega))
  exact (((((h2.setCell (p:=⟨p,3,none⟩) hB _).setCell (p:=⟨p,4,none⟩) hB _).drew).setCell (p:=⟨p,0,none⟩) hB _).setCell (p:=⟨p,1,none⟩) hB _)
theorem lA (s:ByteArray) (hs:s.size≤70368744177664) (p q c:Nat) (w:World) (hq:q < w.heap.size) (hp:p < w.heap.size) (hpq:p≠q)
 (k0:w.cell? ⟨p,0,none⟩=some (.int .u32 0)) (k1:w.cell? ⟨p,1,none⟩=some (.int .i32 0)) (k3:w.cell? ⟨p,3,none⟩=some .nilIface) (k4:w.cell? ⟨p,4,none⟩=some (.slice (some ⟨q,0,none⟩) 4 c)) (hf:∀ j,w.frozen? ⟨p,j,none⟩=false)
 (h0:w.cell? ⟨q,0,none⟩=some (.string ⟨#[34]⟩)) (h1:w.cell? ⟨q,1,none⟩=some (.string ⟨#[92,34]⟩)) (h2:w.cell? ⟨q,2,none⟩=some (.string ⟨#[92]⟩)) (h3:w.cell? ⟨q,3,none⟩=some (.string ⟨#[92,92]⟩)) (B:Nat) (hB:B≤p):
 Calls Tryz.prog 70 #[.pointer (some ⟨p,0,none⟩),.string s] w fun e w'=>e= .returned (.string (qO s))∧Below B w w':=by
 have hsz:(w.setCell ⟨p,1,none⟩ (.int .i32 1)).heap.size=w.heap.size:=by simp
 have ho:∀ j,j≠1→(w.setCell ⟨p,1,none⟩ (.int .i32 1)).cell? ⟨p,j,none⟩=w.cell? ⟨p,j,none⟩:=fun j hj=>World.cell?_setCell_other _ _ _ _ (fW (.inr (Ne.symm hj)))
 have Ra:∀ j,(w.setCell ⟨p,1,none⟩ (.int .i32 1)).cell? ⟨q,j,none⟩=w.cell? ⟨q,j,none⟩:=fun j=>World.cell?_setCell_other _ _ _ _ (fW (.inl hpq))
 have Rb:∀ j,(w.setCell ⟨p,1,none⟩ (.int .i32 1)).frozen? ⟨p,j,none⟩=false:=fun j=>by rw [World.frozen?_setCell];exact hf j
 have hbo:=ur p q c (w.setCell ⟨p,1,none⟩ (.int .i32 1)) ak ak ((ho 4 bg).trans k4) ((ho 3 bg).trans k3) (Rb 3) (Rb 4) ((Ra 0).trans h0) ((Ra 1).trans h1) ((Ra 2).trans h2) ((Ra 3).trans h3)
 have HD:=Lib.hid (Mn p w (fun w1=>∃ (g:Nat) (W1:World),FQ (w.setCell ⟨p,1,none⟩ (.int .i32 1)) W1 g∧w1=(W1.setCell ⟨p,3,none⟩ (.iface 190 (.pointer (some ⟨g,0,none⟩)))).setCell ⟨p,4,none⟩ (.slice none 0 0)) k0 k1 (hf 0) (hf 1) (by
  rintro w1 ⟨g,W1,hb,rfl⟩
  obtain ⟨_,_,_,_,_,hbs,_⟩:=hb
  have hp':p < (w.setCell ⟨p,1,none⟩ (.int .i32 1)).heap.size:=by omega
  refine ⟨?_,?_,?_,?_⟩
  ·rw [World.cell?_setCell_other _ _ _ _ (fW (.inr bg)),World.cell?_setCell_other _ _ _ _ (fW (.inr bg))]
   exact (hbs.og.cell (p:=⟨p,0,none⟩) hp').trans ((ho 0 bg).trans k0)
  ·rw [World.cell?_setCell_other _ _ _ _ (fW (.inr bg)),World.cell?_setCell_other _ _ _ _ (fW (.inr bg))]
   exact (hbs.og.cell (p:=⟨p,1,none⟩) hp').trans (World.cell?_setCell_same _ _ _ k1)
  ·rw [World.frozen?_setCell,World.frozen?_setCell]
   exact (hbs.og.frozen (p:=⟨p,0,none⟩) hp').trans (Rb 0)
  ·rw [World.frozen?_setCell,World.frozen?_setCell]
   exact (hbs.og.frozen (p:=⟨p,1,none⟩) hp').trans (Rb 1)) hbo)
 have HA:=Lib.hid (fun W1 g hb=>O7 w W1 p g B hp hB ((ho 3 bg).trans k3) hb)
 clear hbo h0 h1 h2 h3 k0 k1 k3 k4 Ra Rb ho
 go_enter Tryz.func70,Tryz.ntmps70
 have acZ:∀ (W:World) (g:Nat),(method 372 190 (.pointer (some ⟨g,0,none⟩)) "Replace").run Tryz.prog W= .ok (257,.pointer (some ⟨g,0,none⟩)) W:=fun W g=>by kernel_rfl
 go_wp2_with (first
  |(go_at_call 121;refine HD.out.mono ?_;rintro e w1 ⟨rfl,w2,⟨g,W1,hb,hw2⟩,hw1⟩;have hA:=HA.out W1 g hb;rw [← hw2,← hw1] at hA;have KI:=hA.1;have HAF:=Lib.hid hA;clear hA hw1 hw2 hb)
  |(go_at_call 257;obtain ⟨_,hbel,hbw,t,x,cx,y,cy,a1,a2,a3,a4,a5,a6,a7,a8,a9,a10,a11,a12⟩:=HAF.out;have HBW:=Lib.hid (And.intro hbel hbw);refine (BA s hs _ _ t x cx y cy a1 a2 a3 a4 a5 a6 a7 a8 a9 a10 a11 a12).mono ?_;clear a1 a2 a3 a4 a5 a6 a7 a8 a9 a10 a11 a12 hbel hbw;rintro e w3 ⟨rfl,hb3⟩;have uq:=Lib.hid hb3;clear hb3))
 go_ret
 exact ⟨rfl,HBW.out.1.trans (uq.out.mono HBW.out.2)⟩
end Go.Proofs.YtokpnfljjjjikaaGreatDoor
namespace Go.Proofs.YtokpnfljjjjikaaGreatDoor
open Go.RowKit Go.Proofs.aj.bw Go.Proofs.aj.cj
set_option linter.unusedVariables false
set_option linter.unusedSimpArgs false
structure abe (w w':World) (p q:Nat):Prop where
 pn:w.heap.size≤p
 pq:p≠q
 pl:p < w'.heap.size
 ql:q < w'.heap.size
 k0:w'.cell? ⟨p,0,none⟩=some (.int .u32 0)
 k1:w'.cell? ⟨p,1,none⟩=some (.int .i32 0)
 k3:w'.cell? ⟨p,3,none⟩=some .nilIface
 k4:∃ c,w'.cell? ⟨p,4,none⟩=some (.slice (some ⟨q,0,none⟩) 4 c)
 fz:∀ j,w'.frozen? ⟨p,j,none⟩=false
 s0:w'.cell? ⟨q,0,none⟩=some (.string ⟨#[34]⟩)
 s1:w'.cell? ⟨q,1,none⟩=some (.string ⟨#[92,34]⟩)
 s2:w'.cell? ⟨q,2,none⟩=some (.string ⟨#[92]⟩)
 s3:w'.cell? ⟨q,3,none⟩=some (.string ⟨#[92,92]⟩)
 og:Below w.heap.size w w'
theorem qi (b c:Nat) (w:World) (c0:w.cell? ⟨b,0,none⟩=some (.string ⟨#[34]⟩)) (c1:w.cell? ⟨b,1,none⟩=some (.string ⟨#[92,34]⟩)) (c2:w.cell? ⟨b,2,none⟩=some (.string ⟨#[92]⟩)) (c3:w.cell? ⟨b,3,none⟩=some (.string ⟨#[92,92]⟩)):
 Calls Tryz.prog 69 #[.slice (some ⟨b,0,none⟩) 4 c] w fun e w'=>∃ p q,e= .returned (.pointer (some ⟨p,0,none⟩))∧abe w w' p q:=by
 go_enter Tryz.func69,Tryz.ntmps69
 go_wp2
 go_ret
 generalize (Question.appendCap 4 0 9).cut _=cc
 refine ⟨w.heap.size + 1,w.heap.size,rfl,?_⟩
 refine ⟨ak,ak,bB,by simp;omega,bB,bB,bB,⟨cc,bB⟩,fun j=>by simp,?_,?_,?_,?_,?_⟩
 all_goals first|(exact (((Below.refl w.heap.size w).alloc (Nat.le_refl _) _).alloc bB _).drew)|(rw [World.cell?_drew,World.cell?_alloc_past _ _ _ bB,World.cell?_alloc_at _ _ _ _ bB,Array.getElem?_append_left bB];rfl)
end Go.Proofs.YtokpnfljjjjikaaGreatDoor
