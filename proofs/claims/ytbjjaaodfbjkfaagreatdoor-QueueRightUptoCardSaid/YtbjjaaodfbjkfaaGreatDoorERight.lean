import Derived.Test.YtbjjaaodfbjkfaaGreatDoorQQux18
import Derived.Test.YtbjjaaodfbjkfaaGreatDoorQQux17
set_option maxHeartbeats 16000000
set_option maxRecDepth 100000
namespace Go.Proofs.YtbjjaaodfbjkfaaGreatDoor.mN
open Go.RowKit Go.Proofs.ak.bQ Go.Proofs.ak.dA Go.Proofs.ak.cX
set_option linter.unusedVariables false
set_option linter.unusedSimpArgs false
theorem QW.akj {w0 W:World} {gq:Nat} {n:Int} {v:Value} {ms:List Ml} (h:QW w0 W gq n v ms) (i:Nat) (x:Ml) (hx:ms[i]? =some x):
 ∃ gm cm v2 v6 v7 og,v= .slice (some ⟨gm,0,none⟩) ms.length cm∧
   (∀ j u,[Value.int .i64 x.f0,.bool x.f1.f0,v2,.string x.f1.f2.f0,.string x.f1.f2.f1,.bool x.f1.f2.f2,v6,v7,.int .i64 x.f4][j]? =some u→W.cell? ⟨gm,i * 9 + j,none⟩=some u)∧
   (Kd.int .u8).R 5 W w0.heap.size og v7 x.f3∧
   ∀ w1 (bl:List Int),W.grownBy w1 v7.ownBlock→(Kd.int .u8).R 5 w1 w0.heap.size og v7 bl→QW w0 w1 gq n v (ms.set i ⟨x.f0,x.f1,x.f2,bl,x.f4⟩):=by
 have hi:i < ms.length:=(List.getElem?_eq_some_iff.1 hx).1
 obtain ⟨gm,cm,rfl,hge,hlt,cells,hcl⟩:=Kd.SJ h.hs aA
 obtain ⟨og,c,hc,hM,hcc,hok,hback⟩:=Kd.JR h.hs z34 (i:Int) aA aA
 rw [Int.toNat_natCast] at hM hcc hback
 rw [List.getD_eq_getElem?_getD,hx,Option.getD_some] at hM
 obtain ⟨v2,v6,v7,rfl,h2,h6,h7⟩:=E5 hM
 refine ⟨gm,cm,v2,v6,v7,og,rfl,fun j u hu=>?_,h7,fun w1 bl hg hr=>?_⟩
 ·have:=hcc j u hu
  rw [add_plain] at this
  exact this
 ·have hrow:∀ k,v7.ownBlock=some k→og k:=fun k hk=>h7.1 k hk
  refine ⟨h.bl.grown hg h.bl.size (fun k hk=>Kd.fV h7 k hk),fG h.hq hg (Kd.vT h7 h.hq bB),h.ge,Kd.fB (hback hg hrow (Cb w1 w0.heap.size og ⟨x.f0,x.f1,x.f2,bl,x.f4⟩ (Kd.Gg h2 h7 bB hg) (Kd.Gg h6 h7 bB hg) hr)) (fun _ _ =>trivial)⟩
structure LW (w0 W:World) (gq gb:Nat) (n:Int) (v:Value) (L i l6 l7:Nat) (cs:Array Value) (ms:List Ml):Prop where
 q:QW w0 W gq n v ms
 b:W.heap[gb]? =some (.cells cs 34 (0,0))
 len:ms.length=L
 at_:∃ x,ms[i]? =some x∧x.f2.length=l6∧x.f3.length=l7
theorem LW.below {w0 W W1:World} {gq gb:Nat} {n:Int} {v:Value} {L i l6 l7:Nat} {cs:Array Value} {ms:List Ml} (h:LW w0 W gq gb n v L i l6 l7 cs ms) (hb:Below W.heap.size W W1):LW w0 W1 gq gb n v L i l6 l7 cs ms:=
 ⟨h.q.below hb,az h.b hb,h.len,h.at_⟩
theorem LW.to {w0 W:World} {gq gb:Nat} {n:Int} {v:Value} {L i l6 l7:Nat} {cs:Array Value} {ms:List Ml} (h:LW w0 W gq gb n v L i l6 l7 cs ms) (k:Nat) (hk:k < l6):
 ∃ (gm cm gt ct:Nat) (t:Int),v= .slice (some ⟨gm,0,none⟩) L cm∧W.cell? ⟨gm,i * 9 + 6,none⟩=some (.slice (some ⟨gt,0,none⟩) l6 ct)∧W.cell? ⟨gt,k * 6 + 4,none⟩=some (.int .i64 t)∧W.frozen? ⟨gt,k * 6 + 4,none⟩=false∧
   ∀ W1,Below W.heap.size W W1→∃ ms',LW w0 (W1.setCell ⟨gt,k * 6 + 4,none⟩ (.int .i64 (wrap64 (t + 1)))) gq gb n v L i l6 l7 cs ms':=by
 obtain ⟨x,hx,h6,h7⟩:=h.at_
 obtain ⟨gm,cm,v2,v6,v7,og,rfl,hne,hcells,Fg,sQ,Au,hback⟩:=h.q.Iq i x hx
 obtain ⟨gt,ct,rfl,-⟩:=Kd.xU sQ aA
 obtain ⟨r,hr⟩:∃ r,x.f2[k]? =some r:=⟨x.f2[k],List.getElem?_eq_getElem aA⟩
 obtain ⟨⟨ht0,ht1,ht2,ht3,ht4,ht5⟩,TD,-⟩:=qV sQ k r hr
 refine ⟨gm,cm,gt,ct,r.f2,by rw [h.len],by rw [← h6];exact hcells 6 _ rfl,ht4,TD 4,fun W1 hb=>?_⟩
 obtain ⟨-,-,hs⟩:=qV (Kd.bG sQ hb) k r hr
 obtain ⟨q1,q2⟩:=hs 4 [.int .i64 (wrap64 (r.f2 + 1))] ⟨r.f0,r.f1,wrap64 (r.f2 + 1),r.f3⟩ (by show 4 + 1≤6;omega) rfl
 have hg:=World.grownBy.trans (ld hb _) q2
 have hi:i < ms.length:=(List.getElem?_eq_some_iff.1 hx).1
 exact ⟨ms.set i ⟨x.f0,x.f1,x.f2.set k ⟨r.f0,r.f1,wrap64 (r.f2 + 1),r.f3⟩,x.f3,x.f4⟩,hback _ _ hg q1,fG h.b hg (Kd.vT sQ h.b bB),by rw [List.length_set];exact h.len,⟨⟨x.f0,x.f1,x.f2.set k ⟨r.f0,r.f1,wrap64 (r.f2 + 1),r.f3⟩,x.f3,x.f4⟩,List.getElem?_set_self hi,by rw [← h6];exact List.length_set,h7⟩⟩
theorem LW.body {w0 W:World} {gq gb:Nat} {n:Int} {v:Value} {L i l6 l7:Nat} {cs:Array Value} {ms:List Ml} (h:LW w0 W gq gb n v L i l6 l7 cs ms) (k:Nat) (hk:k < l7):
 ∃ (gm cm gt ct:Nat) (t:Int),v= .slice (some ⟨gm,0,none⟩) L cm∧W.cell? ⟨gm,i * 9 + 7,none⟩=some (.slice (some ⟨gt,0,none⟩) l7 ct)∧W.cell? ⟨gt,k,none⟩=some (.int .u8 t)∧W.frozen? ⟨gt,k,none⟩=false∧
   ∀ W1 (u:Int),Below W.heap.size W W1→∃ ms',LW w0 (W1.setCell ⟨gt,k,none⟩ (.int .u8 u)) gq gb n v L i l6 l7 cs ms':=by
 obtain ⟨x,hx,h6,h7⟩:=h.at_
 obtain ⟨gm,cm,v2,v6,v7,og,rfl,hcells,Au,hback⟩:=h.q.akj i x hx
 obtain ⟨gt,ct,rfl,-⟩:=Kd.xU Au aA
 obtain ⟨cs7,hcl,hM,hcc,hf⟩:=Kd.SD Au 0 (k:Int) aA aA
 rw [Int.toNat_natCast] at hM hcc hf
 have hM':cs7= [.int .u8 (x.f3.getD k 0)]:=hM
 subst hM'
 have hc0:W.cell? ⟨gt,k * 1 + 0,none⟩=some (.int .u8 (x.f3.getD k 0)):=hcc 0 _ rfl
 have hf0:W.frozen? ⟨gt,k * 1 + 0,none⟩=false:=hf 0
 rw [Nat.mul_one,Nat.add_zero] at hc0 hf0
 refine ⟨gm,cm,gt,ct,x.f3.getD k 0,by rw [h.len],by rw [← h7];exact hcells 7 _ rfl,hc0,hf0,fun W1 u hb=>?_⟩
 have hp:=Kd.adY (Kd.bG Au hb) (k:Int) u
 rw [Int.toNat_natCast] at hp
 have hg:W.grownBy (W1.setCell ⟨gt,k,none⟩ (.int .u8 u)) (some gt):=World.grownBy.trans (ld hb _) hp.2
 exact ⟨_,hback _ _ hg hp.1,fG h.b hg (Kd.vT Au h.b bB),by rw [List.length_set];exact h.len,by
  have hi:i < ms.length:=(List.getElem?_eq_some_iff.1 hx).1
  exact ⟨⟨x.f0,x.f1,x.f2,x.f3.set k u,x.f4⟩,List.getElem?_set_self hi,h6,by rw [← h7];exact List.length_set⟩⟩
theorem kH {w1 W:World} {g:Nat} {a:Int} {A:Option Addr} {l c:Nat} (h:w1.heap[g]? =some (.cells #[.int .i64 a,.slice A l c] 40 (0,0))) (hb:Below w1.heap.size w1 W):
 W.cell? ⟨g,0,none⟩=some (.int .i64 a)∧W.cell? ⟨g,1,none⟩=some (.slice A l c)∧W.frozen? ⟨g,0,none⟩=false∧W.frozen? ⟨g,1,none⟩=false:=
 ⟨(af (az h hb) 0).trans rfl,(af (az h hb) 1).trans rfl,aa (az h hb) 0,aa (az h hb) 1⟩
theorem gT {w1 W:World} {g:Nat} {cs:Array Value} (h:w1.heap[g]? =some (.cells cs 46 (0,0))) (hb:Below w1.heap.size w1 W):∀ j,W.cell? ⟨g,j,none⟩=cs[j]? :=fun j=>af (az h hb) j
theorem MO (k:Nat) (n:Int) (A:Option Addr) (c:Nat) (ms:List Ml) (kind id at_ due:Int) (m:Ml) (A2:Option Addr) (c2:Nat) (A6:Option Addr) (c6:Nat) (A7:Option Addr) (c7:Nat) (n2:Int) (ms2:List Ml) (e2:Int) (w:World)
 (hr:Kd.C DT w A ms.length ms) (hc:ms.length≤c) (hM:MR w m A2 c2 A6 c6 A7 c7) (hG:bp w)
 (h1:fH.f k n ms=some true)
 (h2:cC.f k n ms 0 0 0 0 0 false [] ⟨#[]⟩ ⟨#[]⟩ false [] [] 0=some (n,ms,220))
 (h3:fR.f k n ms n ms=some true)
 (h4:cC.f k n ms kind id at_ due m.f0 m.f1.f0 m.f1.f1 m.f1.f2.f0 m.f1.f2.f1 m.f1.f2.f2 m.f2 m.f3 m.f4=some (n2,ms2,e2))
 (h5:fR.f k n2 ms2 n2 ms2=some true) (h6:fH.f k n2 ms2=some true)
 (h7:e2=0∨e2=220∧fR.f k n2 ms2 n ms=some true)
 (h8:dM.f k=some true):
 Calls Tryz.prog 7 #[.agg #[.int .i64 n,.slice A ms.length c],.agg (fD kind id at_ due m A2 c2 A6 c6 A7 c7)] w fun e w'=>e= .returned (.bool true)∧Below w.heap.size w w':=by
 have hu1:=Tryz.underlying46
 have hu2:=Tryz.underlying40
 have hu3:=Tryz.underlying34
 have hu4:=Tryz.underlying37
 obtain ⟨w1,hw1⟩:∃ w1,w1=(w.alloc (.cells #[.int .i64 n,.slice A ms.length c] 40)).alloc (.cells (fD kind id at_ due m A2 c2 A6 c6 A7 c7) 46):=⟨_,rfl⟩
 have mU:=ah.mk (show Below w.heap.size w w1 by rw [hw1];exact bW (bW (Below.refl _ _) _) _)
 have z1:=ah.mk (show w1.heap[w.heap.size]? =some (.cells #[.int .i64 n,.slice A ms.length c] 40 (0,0)) by rw [hw1];exact gG (iE w _) _)
 have ym:=ah.mk (show w1.heap[w.heap.size + 1]? =some (.cells (fD kind id at_ due m A2 c2 A6 c6 A7 c7) 46 (0,0)) by rw [hw1];have:=iE (w.alloc (.cells #[.int .i64 n,.slice A ms.length c] 40)) (.cells (fD kind id at_ due m A2 c2 A6 c6 A7 c7) 46);simpa using this)
 have HR:=ah.mk hr
 have HC:=ah.mk hc
 have RL:=ah.mk hM
 have HG:=ah.mk hG
 have H1:=ah.mk h1
 have H2:=ah.mk h2
 have H3:=ah.mk h3
 have H4:=ah.mk h4
 have H5:=ah.mk h5
 have H6:=ah.mk h6
 have H7:=ah.mk h7
 have H8:=ah.mk h8
 have uz:=Lib.hid hw1
 clear hr hc hM hG h1 h2 h3 h4 h5 h6 h7 h8 hw1
 go_enter Tryz.func7,Tryz.ntmps7
 go_wp2_with fail
 rw [← uz.out]
 refine (fH.calls k n A c ms true w1 (Kd.bD HR.out mU.out) HC.out (HG.out.below mU.out) H1.out).mono ?_
 rintro e w2 ⟨rfl,hb2⟩
 have GG:=ah.mk hb2
 obtain ⟨qa0,qa1,ZE,ZF⟩:=kH z1.out hb2
 clear hb2
 go_wp2_with fail
 refine (cC.calls k n A c ms 0 0 0 0 0 false none 0 [] ⟨#[]⟩ ⟨#[]⟩ false none 0 [] none 0 [] 0 n ms 220 w2 (Kd.bD HR.out (cj mU.out mU.out.size GG.out)) HC.out (Kd.lf _ _) (Nat.le_refl _) (Kd.lf _ _) (Nat.le_refl _) (Kd.lf _ _) (Nat.le_refl _) (HG.out.below (cj mU.out mU.out.size GG.out)) H2.out).mono ?_
 rintro e w3 ⟨RG,rfl,hS,hb3⟩
 obtain ⟨A1,c1,rfl⟩:=Kd.iF hS
 have HS3:=ah.mk hS
 have HB3:=ah.mk (cj GG.out GG.out.size hb3)
 clear hS hb3 qa0 qa1 ZE ZF
 obtain ⟨w4,hw4⟩:∃ w4,w4=w3.alloc (.cells #[.int .i64 n,.slice A1 ms.length c1] 40):=⟨_,rfl⟩
 have HP4:=ah.mk (show w4.heap[w3.heap.size]? =some (.cells #[.int .i64 n,.slice A1 ms.length c1] 40 (0,0)) by rw [hw4];exact iE w3 _)
 have akk:=ah.mk (show Kd.C DT w4 A1 ms.length ms by rw [hw4];exact Kd.BZ (Kd.fq HS3.out).2.2 _)
 have HL1:=ah.mk (Kd.fq HS3.out).2.1
 have adm:=ah.mk (show Below w1.heap.size w1 w4 by rw [hw4];exact bW HB3.out _)
 have RH:=Lib.hid hw4
 obtain ⟨qa0,qa1,ZE,ZF⟩:=kH z1.out (bW HB3.out (.cells #[.int .i64 n,.slice A1 ms.length c1] 40))
 clear hw4
 go_wp2_with fail
 rw [← RH.out]
 refine (fR.calls k n A1 c1 ms n A c ms true w4 akk.out HL1.out (Kd.bD HR.out (cj mU.out mU.out.size adm.out)) HC.out H3.out).mono ?_
 rintro e w5 ⟨rfl,tL⟩
 have j3:=ah.mk (cj adm.out adm.out.size tL)
 have ZJ:=ah.mk (Kd.bD akk.out tL)
 have HP5:=ah.mk (az HP4.out tL)
 have Eu:=ah.mk (cj mU.out mU.out.size j3.out)
 clear qa0 qa1 ZE ZF tL
 obtain ⟨qa0,qa1,ZE,ZF⟩:=kH z1.out j3.out
 have cc0:=(gT ym.out (j3.out) 0).trans rfl
 have cc1:=(gT ym.out (j3.out) 1).trans rfl
 have cc2:=(gT ym.out (j3.out) 2).trans rfl
 have cc3:=(gT ym.out (j3.out) 3).trans rfl
 have cc4:=(gT ym.out (j3.out) 4).trans rfl
 have cc5:=(gT ym.out (j3.out) 5).trans rfl
 have cc6:=(gT ym.out (j3.out) 6).trans rfl
 have cc7:=(gT ym.out (j3.out) 7).trans rfl
 have cc8:=(gT ym.out (j3.out) 8).trans rfl
 have cc9:=(gT ym.out (j3.out) 9).trans rfl
 have adn:=(gT ym.out (j3.out) 10).trans rfl
 have ado:=(gT ym.out (j3.out) 11).trans rfl
 have adp:=(gT ym.out (j3.out) 12).trans rfl
 go_wp2_with fail
 refine (cC.calls k n A c ms kind id at_ due m.f0 m.f1.f0 A2 c2 m.f1.f1 m.f1.f2.f0 m.f1.f2.f1 m.f1.f2.f2 A6 c6 m.f2 A7 c7 m.f3 m.f4 n2 ms2 e2 w5 (Kd.bD HR.out Eu.out) HC.out (Kd.bD RL.out.r2 (Eu.out)) RL.out.c2 (Kd.bD RL.out.r6 (Eu.out)) RL.out.c6 (Kd.bD RL.out.r7 (Eu.out)) RL.out.c7 (HG.out.below (Eu.out)) H4.out).mono ?_
 rintro e w6 ⟨Yo,rfl,RI,JD⟩
 obtain ⟨A3,c3,rfl⟩:=Kd.iF RI
 have akl:=ah.mk (QW.start (n:=n2) JD RI)
 have EB:=ah.mk JD
 have UJ:=ah.mk RI
 obtain ⟨w7,hw7⟩:∃ w7,w7=w6.alloc (.cells #[.int .i64 n2,.slice A3 ms2.length c3] 40):=⟨_,rfl⟩
 have akm:=ah.mk (show Below w5.heap.size w5 w7 by rw [hw7];exact bW JD _)
 have ayF:=ah.mk (cj j3.out j3.out.size akm.out)
 have ZK:=ah.mk (cj mU.out mU.out.size ayF.out)
 have HW7:=Lib.hid hw7
 clear RI JD hw7 qa0 qa1 ZE ZF
 clear cc0 cc1 cc2 cc3 cc4 cc5 cc6 cc7 cc8 cc9 adn ado adp
 obtain ⟨pa0,pa1,fp0,fp1⟩:=kH HP5.out (bW EB.out (.cells #[.int .i64 n2,.slice A3 ms2.length c3] 40))
 have cc0:=(gT ym.out (cj j3.out j3.out.size (bW EB.out (.cells #[.int .i64 n2,.slice A3 ms2.length c3] 40))) 0).trans rfl
 have cc1:=(gT ym.out (cj j3.out j3.out.size (bW EB.out (.cells #[.int .i64 n2,.slice A3 ms2.length c3] 40))) 1).trans rfl
 have cc2:=(gT ym.out (cj j3.out j3.out.size (bW EB.out (.cells #[.int .i64 n2,.slice A3 ms2.length c3] 40))) 2).trans rfl
 have cc3:=(gT ym.out (cj j3.out j3.out.size (bW EB.out (.cells #[.int .i64 n2,.slice A3 ms2.length c3] 40))) 3).trans rfl
 have cc4:=(gT ym.out (cj j3.out j3.out.size (bW EB.out (.cells #[.int .i64 n2,.slice A3 ms2.length c3] 40))) 4).trans rfl
 have cc5:=(gT ym.out (cj j3.out j3.out.size (bW EB.out (.cells #[.int .i64 n2,.slice A3 ms2.length c3] 40))) 5).trans rfl
 have cc6:=(gT ym.out (cj j3.out j3.out.size (bW EB.out (.cells #[.int .i64 n2,.slice A3 ms2.length c3] 40))) 6).trans rfl
 have cc7:=(gT ym.out (cj j3.out j3.out.size (bW EB.out (.cells #[.int .i64 n2,.slice A3 ms2.length c3] 40))) 7).trans rfl
 have cc8:=(gT ym.out (cj j3.out j3.out.size (bW EB.out (.cells #[.int .i64 n2,.slice A3 ms2.length c3] 40))) 8).trans rfl
 have cc9:=(gT ym.out (cj j3.out j3.out.size (bW EB.out (.cells #[.int .i64 n2,.slice A3 ms2.length c3] 40))) 9).trans rfl
 have adn:=(gT ym.out (cj j3.out j3.out.size (bW EB.out (.cells #[.int .i64 n2,.slice A3 ms2.length c3] 40))) 10).trans rfl
 have ado:=(gT ym.out (cj j3.out j3.out.size (bW EB.out (.cells #[.int .i64 n2,.slice A3 ms2.length c3] 40))) 11).trans rfl
 have adp:=(gT ym.out (cj j3.out j3.out.size (bW EB.out (.cells #[.int .i64 n2,.slice A3 ms2.length c3] 40))) 12).trans rfl
 go_wp2_with fail
 rw [← HW7.out] at akl ⊢
 refine (cC.calls k n A1 c1 ms kind id at_ due m.f0 m.f1.f0 A2 c2 m.f1.f1 m.f1.f2.f0 m.f1.f2.f1 m.f1.f2.f2 A6 c6 m.f2 A7 c7 m.f3 m.f4 n2 ms2 e2 w7 (Kd.bD ZJ.out akm.out) HL1.out (Kd.bD RL.out.r2 (ZK.out)) RL.out.c2 (Kd.bD RL.out.r6 (ZK.out)) RL.out.c6 (Kd.bD RL.out.r7 (ZK.out)) RL.out.c7 (HG.out.below (ZK.out)) H4.out).mono ?_
 rintro e w8 ⟨v3_,rfl,hS8,hb8⟩
 obtain ⟨A4,c4,rfl⟩:=Kd.iF hS8
 have Uu:=ah.mk ((akl.out.below hb8).below (bW (Below.refl _ _) (.cells #[.int .i64 n2,.slice A4 ms2.length c4] 40)))
 have fy:=ah.mk (Kd.BZ (Kd.fq hS8).2.2 (.cells #[.int .i64 n2,.slice A4 ms2.length c4] 40))
 have HL4:=ah.mk (Kd.fq hS8).2.1
 obtain ⟨w9,hw9⟩:∃ w9,w9=w8.alloc (.cells #[.int .i64 n2,.slice A4 ms2.length c4] 40):=⟨_,rfl⟩
 have HW9:=Lib.hid hw9
 obtain ⟨RM,RN,Re,Rf⟩:=kH Uu.out.hq (Below.refl _ _)
 clear hS8 hb8 hw9 pa0 pa1 fp0 fp1
 clear cc0 cc1 cc2 cc3 cc4 cc5 cc6 cc7 cc8 cc9 adn ado adp
 go_wp2_with fail
 rw [← HW9.out] at Uu fy ⊢
 refine (fR.calls k n2 A3 c3 ms2 n2 A4 c4 ms2 true w9 (Kd.fq Uu.out.hs).2.2 (Kd.fq Uu.out.hs).2.1 fy.out HL4.out H5.out).mono ?_
 rintro e mR ⟨rfl,akn⟩
 have KV:=ah.mk (Uu.out.below akn)
 clear RM RN Re Rf akn
 obtain ⟨RM,RN,Re,Rf⟩:=kH KV.out.hq (Below.refl _ _)
 go_wp2_with fail
 refine (fH.calls k n2 A3 c3 ms2 true mR (Kd.fq KV.out.hs).2.2 (Kd.fq KV.out.hs).2.1 (HG.out.below (cj Eu.out Eu.out.size KV.out.bl)) H6.out).mono ?_
 rintro e vK ⟨rfl,ako⟩
 have Ew:=ah.mk (KV.out.below ako)
 clear RM RN Re Rf ako
 obtain ⟨RM,RN,Re,Rf⟩:=kH Ew.out.hq (Below.refl _ _)
 obtain ⟨pa0,pa1,fp0,fp1⟩:=kH HP5.out Ew.out.bl
 rcases H7.out with h7|⟨h7,h9⟩
 ·subst h7
  go_wp2_with fail
  have Qh:=Ew
  try clear pa0 pa1 fp0 fp1
  clear RM RN Re Rf
  go_loopw [76] (fun i wr=>∃ (j:Nat) (ms':List Ml),j≤ms2.length∧i= .int .i64 j∧ah (QW w5 wr w6.heap.size n2 (.slice A3 ms2.length c3) ms')∧ah (ms'.length=ms2.length)) (fun i _ =>ms2.length - (intOf i).toNat)
  case atStart=>exact ⟨0,_,Nat.zero_le _,rfl,Qh,⟨rfl⟩⟩
  case round=>
   obtain ⟨j,ms',hj,rfl,HQ,HL⟩:=hrel
   obtain ⟨wo,hwo⟩:∃ wo,wo=wr:=⟨_,rfl⟩
   subst hwo
   by_cases hlt:j < ms2.length
   ·obtain ⟨x,hx⟩:∃ x,ms'[j]? =some x:=⟨ms'[j]'(by have:=HL.out;omega),List.getElem?_eq_getElem _⟩
    obtain ⟨gm,cm,v2,v6,v7,og,hv,hne,hcells,Fg,sQ,Au,-⟩:=HQ.out.Iq j x hx
    injection hv with hv1 hv2 hv3
    subst hv1 hv3
    obtain ⟨B2,d2,rfl⟩:=Kd.dh Fg
    obtain ⟨B6,d6,rfl⟩:=Kd.dh sQ
    obtain ⟨B7,d7,rfl⟩:=Kd.dh Au
    have x0:wo.cell? ⟨gm,j * 9,none⟩=some (.int .i64 x.f0):=hcells 0 _ rfl
    have x1:=hcells 1 _ rfl
    have x2:=hcells 2 _ rfl
    have x3:=hcells 3 _ rfl
    have x4:=hcells 4 _ rfl
    have x5:=hcells 5 _ rfl
    have x6:=hcells 6 _ rfl
    have x7:=hcells 7 _ rfl
    have x8:=hcells 8 _ rfl
    have e1:decide ((j:Int) < (ms2.length:Int))=true:=decide_eq_true aA
    have HX:=ah.mk hx
    have hn6:=(Kd.ck sQ).2.2.2.1
    have hn7:=(Kd.ck Au).2.2.2.1
    have hnL:=(Kd.fq HQ.out.hs).2.2.2.1
    clear Fg sQ Au hcells hx hne
    go_wp2_with fail
    have HLW:=ah.mk (show LW w5 (wo.alloc (.cells #[.int .i64 x.f0,.bool x.f1.f0,.slice B2 x.f1.f1.length d2,.string x.f1.f2.f0,.string x.f1.f2.f1,.bool x.f1.f2.f2,.slice B6 x.f2.length d6,.slice B7 x.f3.length d7,.int .i64 x.f4] 34)) w6.heap.size wo.heap.size n2 (.slice (some ⟨gm,0,none⟩) ms2.length c3) ms2.length j x.f2.length x.f3.length (#[.int .i64 x.f0,.bool x.f1.f0,.slice B2 x.f1.f1.length d2,.string x.f1.f2.f0,.string x.f1.f2.f1,.bool x.f1.f2.f2,.slice B6 x.f2.length d6,.slice B7 x.f3.length d7,.int .i64 x.f4]) ms' from ⟨HQ.out.below (bW (Below.refl _ _) _),iE wo _,HL.out,⟨x,HX.out,rfl,rfl⟩⟩)
    have ayH:w6.heap.size≠wo.heap.size:=by have:=dQ HQ.out.hq;omega
    clear x0 x1 x2 x3 x4 x5 x6 x7 x8 e1
    go_loopw [84] (fun i wi=>∃ (k_:Nat) (mt:List Ml),k_≤x.f2.length∧i= .int .i64 k_∧ah (LW w5 wi w6.heap.size wo.heap.size n2 (.slice (some ⟨gm,0,none⟩) ms2.length c3) ms2.length j x.f2.length x.f3.length (#[.int .i64 x.f0,.bool x.f1.f0,.slice B2 x.f1.f1.length d2,.string x.f1.f2.f0,.string x.f1.f2.f1,.bool x.f1.f2.f2,.slice B6 x.f2.length d6,.slice B7 x.f3.length d7,.int .i64 x.f4]) mt)) (fun i _ =>x.f2.length - (intOf i).toNat)
    case atStart=>exact ⟨0,_,Nat.zero_le _,rfl,HLW⟩
    case round=>
     obtain ⟨k_,mt,hk,rfl,HT⟩:=hrel
     by_cases hkl:k_ < x.f2.length
     ·obtain ⟨gm',cm',gt,ct,t_,hv,Qw,RF,hf4,hst⟩:=HT.out.to k_ hkl
      injection hv with hv1 hv2 hv3
      injection hv1 with hv1
      injection hv1 with hv1
      subst hv1
      have HST:=ah.mk hst
      obtain ⟨RM,RN,Re,Rf⟩:=kH HT.out.q.hq (Below.refl _ _)
      have ZL:decide ((k_:Int) < (x.f2.length:Int))=true:=decide_eq_true aA
      clear hst
      go_wp2
      go_roundw
      case rel=>
       obtain ⟨mu,hu⟩:=HST.out _ (Below.refl _ _)
       exact ⟨k_ + 1,mu,aA,cP,⟨hu⟩⟩
      case measure=>simp [intOf];omega
     ·have hke:k_=x.f2.length:=by omega
      have HTb:=HT.out.b
      have b7:wr.cell? ⟨wo.heap.size,7,none⟩=some (.slice B7 x.f3.length d7):=(af HT.out.b 7).trans rfl
      have ZL:decide ((k_:Int) < (x.f2.length:Int))=false:=decide_eq_false aA
      clear HTb
      go_wp2
      have HT1:=HT
      clear b7 ZL HT
      go_loopw [104] (fun i wi=>∃ (k_:Nat) (mt:List Ml),k_≤x.f3.length∧i= .int .i64 k_∧ah (LW w5 wi w6.heap.size wo.heap.size n2 (.slice (some ⟨gm,0,none⟩) ms2.length c3) ms2.length j x.f2.length x.f3.length (#[.int .i64 x.f0,.bool x.f1.f0,.slice B2 x.f1.f1.length d2,.string x.f1.f2.f0,.string x.f1.f2.f1,.bool x.f1.f2.f2,.slice B6 x.f2.length d6,.slice B7 x.f3.length d7,.int .i64 x.f4]) mt)) (fun i _ =>x.f3.length - (intOf i).toNat)
      case atStart=>exact ⟨0,_,Nat.zero_le _,rfl,HT1⟩
      case round=>
       obtain ⟨p_,mt,hp,rfl,HT⟩:=hrel
       by_cases hpl:p_ < x.f3.length
       ·obtain ⟨gm',cm',gt,ct,t_,hv,Vn,RF,hf4,hst⟩:=HT.out.body p_ hpl
        injection hv with hv1 hv2 hv3
        injection hv1 with hv1
        injection hv1 with hv1
        subst hv1
        have HST:=ah.mk hst
        obtain ⟨RM,RN,Re,Rf⟩:=kH HT.out.q.hq (Below.refl _ _)
        have ZL:decide ((p_:Int) < (x.f3.length:Int))=true:=decide_eq_true aA
        clear hst
        go_wp2
        go_roundw
        case rel=>
         obtain ⟨mu,hu⟩:=HST.out _ _ (Below.refl _ _)
         exact ⟨p_ + 1,mu,aA,cP,⟨hu⟩⟩
        case measure=>simp [intOf];omega
       ·have ZL:decide ((p_:Int) < (x.f3.length:Int))=false:=decide_eq_false aA
        have HQ2:=ah.mk HT.out.q
        have HL2:=ah.mk HT.out.len
        clear HT
        go_wp2
        go_roundw
        case rel=>exact ⟨j + 1,mt,aA,cP,HQ2,HL2⟩
        case measure=>simp [intOf];omega
   ·have e1:decide ((j:Int) < (ms2.length:Int))=false:=decide_eq_false aA
    obtain ⟨qa0,qa1,ZE,ZF⟩:=kH z1.out (cj j3.out j3.out.size HQ.out.bl)
    obtain ⟨pa0,pa1,fp0,fp1⟩:=kH HP5.out HQ.out.bl
    have HBw:=ah.mk (cj Eu.out Eu.out.size HQ.out.bl)
    go_wp2_with (first
     |(go_at_call 25;refine (fR.calls k n A c ms n A1 c1 ms true wo (Kd.bD HR.out HBw.out) HC.out (Kd.bD ZJ.out HQ.out.bl) HL1.out H3.out).mono ?_;rintro e ko ⟨rfl,Uv⟩;have HBz:=ah.mk (cj HBw.out HBw.out.size Uv);clear Uv)
     |(go_at_call 22;refine (dM.calls k true _ (HG.out.below HBz.out) H8.out).mono ?_;rintro e JB ⟨rfl,Uw⟩;have HBy:=ah.mk (cj HBz.out HBz.out.size Uw);clear Uw))
    go_ret
    exact ⟨rfl,HBy.out⟩
 ·subst h7
  have H9:=ah.mk h9
  clear h9
  go_wp2_with (first|(go_at_call 25;refine (fR.calls k n2 A3 c3 ms2 n A1 c1 ms true vK (Kd.fq Ew.out.hs).2.2 (Kd.fq Ew.out.hs).2.1 (Kd.bD ZJ.out Ew.out.bl) HL1.out H9.out).mono ?_;rintro e Cx ⟨rfl,akp⟩;have Qh:=ah.mk (Ew.out.below akp);clear RM RN Re Rf pa0 pa1 fp0 fp1 akp;obtain ⟨RM,RN,Re,Rf⟩:=kH Qh.out.hq (Below.refl _ _)))
  try clear pa0 pa1 fp0 fp1
  clear RM RN Re Rf
  go_loopw [76] (fun i wr=>∃ (j:Nat) (ms':List Ml),j≤ms2.length∧i= .int .i64 j∧ah (QW w5 wr w6.heap.size n2 (.slice A3 ms2.length c3) ms')∧ah (ms'.length=ms2.length)) (fun i _ =>ms2.length - (intOf i).toNat)
  case atStart=>exact ⟨0,_,Nat.zero_le _,rfl,Qh,⟨rfl⟩⟩
  case round=>
   obtain ⟨j,ms',hj,rfl,HQ,HL⟩:=hrel
   obtain ⟨wo,hwo⟩:∃ wo,wo=wr:=⟨_,rfl⟩
   subst hwo
   by_cases hlt:j < ms2.length
   ·obtain ⟨x,hx⟩:∃ x,ms'[j]? =some x:=⟨ms'[j]'(by have:=HL.out;omega),List.getElem?_eq_getElem _⟩
    obtain ⟨gm,cm,v2,v6,v7,og,hv,hne,hcells,Fg,sQ,Au,-⟩:=HQ.out.Iq j x hx
    injection hv with hv1 hv2 hv3
    subst hv1 hv3
    obtain ⟨B2,d2,rfl⟩:=Kd.dh Fg
    obtain ⟨B6,d6,rfl⟩:=Kd.dh sQ
    obtain ⟨B7,d7,rfl⟩:=Kd.dh Au
    have x0:wo.cell? ⟨gm,j * 9,none⟩=some (.int .i64 x.f0):=hcells 0 _ rfl
    have x1:=hcells 1 _ rfl
    have x2:=hcells 2 _ rfl
    have x3:=hcells 3 _ rfl
    have x4:=hcells 4 _ rfl
    have x5:=hcells 5 _ rfl
    have x6:=hcells 6 _ rfl
    have x7:=hcells 7 _ rfl
    have x8:=hcells 8 _ rfl
    have e1:decide ((j:Int) < (ms2.length:Int))=true:=decide_eq_true aA
    have HX:=ah.mk hx
    have hn6:=(Kd.ck sQ).2.2.2.1
    have hn7:=(Kd.ck Au).2.2.2.1
    have hnL:=(Kd.fq HQ.out.hs).2.2.2.1
    clear Fg sQ Au hcells hx hne
    go_wp2_with fail
    have HLW:=ah.mk (show LW w5 (wo.alloc (.cells #[.int .i64 x.f0,.bool x.f1.f0,.slice B2 x.f1.f1.length d2,.string x.f1.f2.f0,.string x.f1.f2.f1,.bool x.f1.f2.f2,.slice B6 x.f2.length d6,.slice B7 x.f3.length d7,.int .i64 x.f4] 34)) w6.heap.size wo.heap.size n2 (.slice (some ⟨gm,0,none⟩) ms2.length c3) ms2.length j x.f2.length x.f3.length (#[.int .i64 x.f0,.bool x.f1.f0,.slice B2 x.f1.f1.length d2,.string x.f1.f2.f0,.string x.f1.f2.f1,.bool x.f1.f2.f2,.slice B6 x.f2.length d6,.slice B7 x.f3.length d7,.int .i64 x.f4]) ms' from ⟨HQ.out.below (bW (Below.refl _ _) _),iE wo _,HL.out,⟨x,HX.out,rfl,rfl⟩⟩)
    have ayH:w6.heap.size≠wo.heap.size:=by have:=dQ HQ.out.hq;omega
    clear x0 x1 x2 x3 x4 x5 x6 x7 x8 e1
    go_loopw [84] (fun i wi=>∃ (k_:Nat) (mt:List Ml),k_≤x.f2.length∧i= .int .i64 k_∧ah (LW w5 wi w6.heap.size wo.heap.size n2 (.slice (some ⟨gm,0,none⟩) ms2.length c3) ms2.length j x.f2.length x.f3.length (#[.int .i64 x.f0,.bool x.f1.f0,.slice B2 x.f1.f1.length d2,.string x.f1.f2.f0,.string x.f1.f2.f1,.bool x.f1.f2.f2,.slice B6 x.f2.length d6,.slice B7 x.f3.length d7,.int .i64 x.f4]) mt)) (fun i _ =>x.f2.length - (intOf i).toNat)
    case atStart=>exact ⟨0,_,Nat.zero_le _,rfl,HLW⟩
    case round=>
     obtain ⟨k_,mt,hk,rfl,HT⟩:=hrel
     by_cases hkl:k_ < x.f2.length
     ·obtain ⟨gm',cm',gt,ct,t_,hv,Qw,RF,hf4,hst⟩:=HT.out.to k_ hkl
      injection hv with hv1 hv2 hv3
      injection hv1 with hv1
      injection hv1 with hv1
      subst hv1
      have HST:=ah.mk hst
      obtain ⟨RM,RN,Re,Rf⟩:=kH HT.out.q.hq (Below.refl _ _)
      have ZL:decide ((k_:Int) < (x.f2.length:Int))=true:=decide_eq_true aA
      clear hst
      go_wp2
      go_roundw
      case rel=>
       obtain ⟨mu,hu⟩:=HST.out _ (Below.refl _ _)
       exact ⟨k_ + 1,mu,aA,cP,⟨hu⟩⟩
      case measure=>simp [intOf];omega
     ·have hke:k_=x.f2.length:=by omega
      have HTb:=HT.out.b
      have b7:wr.cell? ⟨wo.heap.size,7,none⟩=some (.slice B7 x.f3.length d7):=(af HT.out.b 7).trans rfl
      have ZL:decide ((k_:Int) < (x.f2.length:Int))=false:=decide_eq_false aA
      clear HTb
      go_wp2
      have HT1:=HT
      clear b7 ZL HT
      go_loopw [104] (fun i wi=>∃ (k_:Nat) (mt:List Ml),k_≤x.f3.length∧i= .int .i64 k_∧ah (LW w5 wi w6.heap.size wo.heap.size n2 (.slice (some ⟨gm,0,none⟩) ms2.length c3) ms2.length j x.f2.length x.f3.length (#[.int .i64 x.f0,.bool x.f1.f0,.slice B2 x.f1.f1.length d2,.string x.f1.f2.f0,.string x.f1.f2.f1,.bool x.f1.f2.f2,.slice B6 x.f2.length d6,.slice B7 x.f3.length d7,.int .i64 x.f4]) mt)) (fun i _ =>x.f3.length - (intOf i).toNat)
      case atStart=>exact ⟨0,_,Nat.zero_le _,rfl,HT1⟩
      case round=>
       obtain ⟨p_,mt,hp,rfl,HT⟩:=hrel
       by_cases hpl:p_ < x.f3.length
       ·obtain ⟨gm',cm',gt,ct,t_,hv,Vn,RF,hf4,hst⟩:=HT.out.body p_ hpl
        injection hv with hv1 hv2 hv3
        injection hv1 with hv1
        injection hv1 with hv1
        subst hv1
        have HST:=ah.mk hst
        obtain ⟨RM,RN,Re,Rf⟩:=kH HT.out.q.hq (Below.refl _ _)
        have ZL:decide ((p_:Int) < (x.f3.length:Int))=true:=decide_eq_true aA
        clear hst
        go_wp2
        go_roundw
        case rel=>
         obtain ⟨mu,hu⟩:=HST.out _ _ (Below.refl _ _)
         exact ⟨p_ + 1,mu,aA,cP,⟨hu⟩⟩
        case measure=>simp [intOf];omega
       ·have ZL:decide ((p_:Int) < (x.f3.length:Int))=false:=decide_eq_false aA
        have HQ2:=ah.mk HT.out.q
        have HL2:=ah.mk HT.out.len
        clear HT
        go_wp2
        go_roundw
        case rel=>exact ⟨j + 1,mt,aA,cP,HQ2,HL2⟩
        case measure=>simp [intOf];omega
   ·have e1:decide ((j:Int) < (ms2.length:Int))=false:=decide_eq_false aA
    obtain ⟨qa0,qa1,ZE,ZF⟩:=kH z1.out (cj j3.out j3.out.size HQ.out.bl)
    obtain ⟨pa0,pa1,fp0,fp1⟩:=kH HP5.out HQ.out.bl
    have HBw:=ah.mk (cj Eu.out Eu.out.size HQ.out.bl)
    go_wp2_with (first
     |(go_at_call 25;refine (fR.calls k n A c ms n A1 c1 ms true wo (Kd.bD HR.out HBw.out) HC.out (Kd.bD ZJ.out HQ.out.bl) HL1.out H3.out).mono ?_;rintro e ko ⟨rfl,Uv⟩;have HBz:=ah.mk (cj HBw.out HBw.out.size Uv);clear Uv)
     |(go_at_call 22;refine (dM.calls k true _ (HG.out.below HBz.out) H8.out).mono ?_;rintro e JB ⟨rfl,Uw⟩;have HBy:=ah.mk (cj HBz.out HBz.out.size Uw);clear Uw))
    go_ret
    exact ⟨rfl,HBy.out⟩
theorem Ux (k:Nat) (n:Int) (A:Option Addr) (c:Nat) (ms:List Ml) (kind id at_ due:Int) (m:Ml) (A2:Option Addr) (c2:Nat) (A6:Option Addr) (c6:Nat) (A7:Option Addr) (c7:Nat) (w:World)
 (hr:Kd.C DT w A ms.length ms) (hc:ms.length≤c) (hG:bp w) (h1:fH.f k n ms=some false) (h8:dM.f k=some true):
 Calls Tryz.prog 7 #[.agg #[.int .i64 n,.slice A ms.length c],.agg (fD kind id at_ due m A2 c2 A6 c6 A7 c7)] w fun e w'=>e= .returned (.bool true)∧Below w.heap.size w w':=by
 have hu1:=Tryz.underlying46
 have hu2:=Tryz.underlying40
 obtain ⟨w1,hw1⟩:∃ w1,w1=(w.alloc (.cells #[.int .i64 n,.slice A ms.length c] 40)).alloc (.cells (fD kind id at_ due m A2 c2 A6 c6 A7 c7) 46):=⟨_,rfl⟩
 have mU:=ah.mk (show Below w.heap.size w w1 by rw [hw1];exact bW (bW (Below.refl _ _) _) _)
 have HR:=ah.mk hr
 have HC:=ah.mk hc
 have HG:=ah.mk hG
 have H1:=ah.mk h1
 have H8:=ah.mk h8
 have uz:=Lib.hid hw1
 clear hr hc hG h1 h8 hw1
 go_enter Tryz.func7,Tryz.ntmps7
 go_wp2_with fail
 rw [← uz.out]
 refine (fH.calls k n A c ms false w1 (Kd.bD HR.out mU.out) HC.out (HG.out.below mU.out) H1.out).mono ?_
 rintro e w2 ⟨rfl,hb2⟩
 have GG:=ah.mk (cj mU.out mU.out.size hb2)
 clear hb2
 go_wp2_with (go_at_call 22;refine (dM.calls k true _ (HG.out.below GG.out) H8.out).mono ?_;rintro e w3 ⟨rfl,hb3⟩;have HB3:=ah.mk (cj GG.out GG.out.size hb3);clear hb3)
 go_ret
 exact ⟨rfl,HB3.out⟩
end Go.Proofs.YtbjjaaodfbjkfaaGreatDoor.mN
