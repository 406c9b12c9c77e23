import Derived.Test.YtokpnfljjjjikaaGreatDoorQPtx13
import Derived.Test.YtokpnfljjjjikaaGreatDoorQPtx27
import Derived.Test.YtokpnfljjjjikaaGreatDoorETurn
import Derived.Test.YtokpnfljjjjikaaGreatDoorEUp
namespace Go.Proofs.YtokpnfljjjjikaaGreatDoor.lO
open Go.RowKit Go.Proofs.aj.bw Go.Proofs.aj.eU Go.Proofs.aj.cj
attribute [local go_sem] gL gM iL iM fZ gf gP gQ
set_option linter.unusedVariables false
set_option linter.unusedSimpArgs false
mutual
def av.j0:Nat→List Int→ByteArray→Bool→Bool→List ByteArray→ByteArray→ByteArray→Bool→Option (Bool)
 | 0,_,_,_,_,_,_,_,_ =>none
 |k + 1,x1,x5,x26,kI,kJ,jx,kK,kL=>if x26=true then ((br.f k).bind fun GL=>(some GL)) else (if x5.toList=([]:List UInt8) then (none) else ((dO.f x5 (⟨#[64]⟩:ByteArray)).bind fun gD=>(if 1≤(x5.size:Int) then ((bK.f (x5.extract 1 x5.size) x1).bind fun qp=>(if 1 + qp.size≤9223372036854775807 then (if gD≥0 then (if 1≤gD then (if gD≤(x5.size:Int) then ((cB.f k kI kJ jx kK kL).bind fun uv=>((strings_TrimSuffix.f (x5.extract 1 (gD:Int).toNat) uv).bind fun rT=>((bK.f rT x1).bind fun fF=>(if 1 + fF.size≤9223372036854775807 then ((cB.f k kI kJ jx kK kL).bind fun gp=>(if ((⟨#[60]⟩:ByteArray) ++ fF).size + gp.size≤9223372036854775807 then (if (((⟨#[60]⟩:ByteArray) ++ fF) ++ gp).size + 1≤9223372036854775807 then (if 0≤(wrap64 (gD + 1)) then (if (wrap64 (gD + 1))≤(x5.size:Int) then ((bK.f (x5.extract ((wrap64 (gD + 1)):Int).toNat x5.size) x1).bind fun jw=>(if ((((⟨#[60]⟩:ByteArray) ++ fF) ++ gp) ++ (⟨#[64]⟩:ByteArray)).size + jw.size≤9223372036854775807 then (av.j1 k x5 (((((⟨#[60]⟩:ByteArray) ++ fF) ++ gp) ++ (⟨#[64]⟩:ByteArray)) ++ jw) kI kJ jx kK kL) else (none))) else (none)) else (none)) else (none)) else (none))) else (none))))) else (none)) else (none)) else (av.j1 k x5 ((⟨#[60]⟩:ByteArray) ++ qp) kI kJ jx kK kL)) else (none))) else (none))))
def av.j1:Nat→ByteArray→ByteArray→Bool→List ByteArray→ByteArray→ByteArray→Bool→Option (Bool)
 | 0,_,_,_,_,_,_,_ =>none
 |k + 1,x5,x8,kI,kJ,jx,kK,kL=>(bM.f k x8).bind fun wj=>(if wj.2.2.2.2.2.2=0 then (if wj.2.2.2.2.2.1=(x5.size:Int) then ((aN.f k kI kJ jx kK kL wj.1 wj.2.1 wj.2.2.1 wj.2.2.2.1 wj.2.2.2.2.1).bind fun Du=>(av.j2 k x5 (!Du) kI kJ jx kK kL)) else (av.j2 k x5 true kI kJ jx kK kL)) else (av.j2 k x5 true kI kJ jx kK kL))
def av.j2:Nat→ByteArray→Bool→Bool→List ByteArray→ByteArray→ByteArray→Bool→Option (Bool)
 | 0,_,_,_,_,_,_,_ =>none
 |k + 1,x5,x79,kI,kJ,jx,kK,kL=>if x79=true then (none) else ((eA.f jx).bind fun gJ=>((dK.f k kI kJ gJ kK kL).bind fun tH=>(if tH.2=0 then (if ((tH.1.toList == x5.toList) == (gJ.toList == jx.toList))=true then ((br.f k).bind fun xm=>(some xm)) else (some false)) else (if (false == (gJ.toList == jx.toList))=true then ((br.f k).bind fun xp=>(some xp)) else (some false)))))
end
def av.f (k:Nat) (bD:Bool) (bG:List ByteArray) (bC:ByteArray) (bI:ByteArray) (bJ:Bool) (l1:List Int):Option (Bool):=(dK.f k bD bG bC bI bJ).bind fun wk=>(if wk.2=0 then (av.j0 k l1 wk.1 bD bD bG bC bI bJ) else (av.j0 k l1 wk.1 true bD bG bC bI bJ))
def av.QB:Bool×List (List Nat×List Nat):=(true,[([],[]),([],[]),([0,1],[0,1]),([2],[2]),([],[]),([4,2],[4]),([3,5],[3,5]),([6],[6]),([],[]),([],[]),([9],[9]),([8,10],[8,10]),([],[]),([11,12,5],[11,12]),([7,13],[7,13]),([14,13,0,1,2,3,4,5,6,7,8,9,10,11,12,13,14],[14])])
def av.B10:List Nat:=[0,0,3,7,0,23,63,127,0,0,512,1792,0,7991,16383,32767]
theorem av.Jm:l9 .any (opsOf Tryz.f12 10)=av.QB:=by kernel_rfl
theorem av.Dg:nA av.QB.2 av.B10=true:=by kernel_rfl
set_option maxHeartbeats 8000000 in
set_option maxRecDepth 100000 in
theorem av.calls (k:Nat) (bD:Bool) (cI:Option Addr) (cJ:Nat) (bG:List ByteArray) (bC:ByteArray) (bI:ByteArray) (bJ:Bool) (A1:Option Addr) (c1:Nat) (l1:List Int) (r:Bool) (w:World) (nB:Kd.C Kd.string w cI bG.length bG) (nC:bG.length≤cJ) (hr1:Kd.C (Kd.int .u8) w A1 l1.length l1) (hc1:l1.length≤c1) (hG:aQ w) (h:av.f k bD bG bC bI bJ l1=some r):
 Calls Tryz.prog 12 #[.agg #[.bool bD,.slice cI bG.length cJ,.string bC,.string bI,.bool bJ],.slice A1 l1.length c1] w fun e w'=>e= .returned (.bool r)∧Below w.heap.size w w':=by
 have Dh:=Tryz.underlying32
 have jK:=af.mk nB
 have kF:=af.mk nC
 clear nB nC
 have NU:=af.mk hr1
 have Rk:=af.mk hc1
 clear hr1 hc1
 have HB:=af.mk (Below.refl w.heap.size w)
 have HG:=af.mk hG
 clear hG
 have H:((dK.f k bD bG bC bI bJ).bind fun wk=>(if wk.2=0 then (av.j0 k l1 wk.1 bD bD bG bC bI bJ) else (av.j0 k l1 wk.1 true bD bG bC bI bJ)))=some r:=h
 clear h
 replace H:=Option.bind_eq_some_iff.mp H
 obtain ⟨⟨dL,Dv⟩,Rj,H⟩:=H
 replace H:(if Dv=0 then (av.j0 k l1 dL bD bD bG bC bI bJ) else (av.j0 k l1 dL true bD bG bC bI bJ))=some r:=H
 have A3:=af.mk Rj
 clear Rj
 have HC4:=af.mk H
 clear H
 go_enter Tryz.func12,Tryz.ntmps12
 go_upto_region 2 with (first|((with_reducible refine cU (N:=2) rfl ?_);(try (refine cW (by rfl) ?_;dsimp only));refine cL ?hg (N:=2) ?hd (cs:=#[.bool bD,.slice cI bG.length cJ,.string bC,.string bI,.bool bJ]) (t:=32) ?hr ?_;(case hd=>rfl);(case hg=>rfl);(case hr=>first|(go_simp;done)|(go_simp;rfl));intro bV hg w5 dg hb;have fH:=af.mk (aH bS hb);have fI:=af.mk (dg);have jI:=af.mk ((eo:w.heap.size≤bV));have kR:=af.mk ((eo:w.heap.size≤bV));clear HB;have HB:=fH;have aZ:=fI;have adm:=jI;have Aj:=kR;clear fH fI jI kR;clear hb dg hg;have vL:w5.cell? ⟨bV,0,none⟩=some (.bool bD):=(ah aZ.out 0).trans rfl;have vM:w5.cell? ⟨bV,1,none⟩=some (.slice cI bG.length cJ):=(ah aZ.out 1).trans rfl;have zU:w5.cell? ⟨bV,2,none⟩=some (.string bC):=(ah aZ.out 2).trans rfl;have zV:w5.cell? ⟨bV,3,none⟩=some (.string bI):=(ah aZ.out 3).trans rfl;have zW:w5.cell? ⟨bV,4,none⟩=some (.bool bJ):=(ah aZ.out 4).trans rfl;have vN:=aa aZ.out 0;have vO:=aa aZ.out 1;have zX:=aa aZ.out 2;have zY:=aa aZ.out 3;have zZ:=aa aZ.out 4)|((with_reducible refine aU (f:=21) rfl ?_);refine bY (some 18) rfl rfl Tryz.func21 ay rfl #[.agg #[.bool bD,.slice cI bG.length cJ,.string bC,.string bI,.bool bJ]] rfl cr ?_;(with_reducible refine (dK.calls k bD _ _ bG bC bI bJ dL Dv _ ?aX ?bL ?eF A3.out).mono ?_);(case aX=>repeat (first|exact (Kd.fR jK.out HB.out)|(with_reducible refine Kd.gu ?_ _)|(with_reducible refine Kd.gv ?_ _)|(with_reducible refine Kd.iB ?_)));(case bL=>exact kF.out);(case eF=>exact aQ.below HG.out iA);rintro e w7 ⟨rfl,hb⟩;refine ⟨_,rfl,?_⟩;have fH:=af.mk (bq (g:=bV) (o:= .cells #[.bool bD,.slice cI bG.length cJ,.string bC,.string bI,.bool bJ] 32 (0,0)) iE hb);have fI:=af.mk (aH iA hb);clear aZ;clear HB;have aZ:=fH;have HB:=fI;clear fH fI;(try clear hb);(try clear hb2);(try clear hk);(try clear hi)))
 (try simp only [Act.put,List.setIfInBounds_toArray,List.set_cons_zero,List.set_cons_succ])
 go_cut [26] (fun v26 wc=>∃ (kq:Nat) (FU:Bool),v26= .bool FU∧af (av.j0 kq l1 dL FU bD bG bC bI bJ=some r)∧af (kq≤k)∧af (wc.heap[bV]? =some (.cells #[.bool bD,(.slice cI bG.length cJ),.string bC,.string bI,.bool bJ] 32 (0,0)))∧af (Below w.heap.size w wc))
 case first=>
  have H:=HC4.out
  clear HC4
  by_cases c8:Dv=0
  ·rw [if_pos c8] at H
   have qN:(Dv == 0)=true:=beq_iff_eq.mpr c8
   have zz:(Dv != 0)=false:=bne_eq_false_iff_eq.mpr c8
   clear c8
   (first|rw [qN]|(simp only [cm,cw];rw [qN])|skip)
   have H':=af.mk H
   clear H
   have nM:w7.cell? ⟨bV,0,none⟩=some (.bool bD):=(ah aZ.out 0).trans rfl
   have nN:w7.cell? ⟨bV,1,none⟩=some (.slice cI bG.length cJ):=(ah aZ.out 1).trans rfl
   have vT:w7.cell? ⟨bV,2,none⟩=some (.string bC):=(ah aZ.out 2).trans rfl
   have zJ:w7.cell? ⟨bV,3,none⟩=some (.string bI):=(ah aZ.out 3).trans rfl
   have zK:w7.cell? ⟨bV,4,none⟩=some (.bool bJ):=(ah aZ.out 4).trans rfl
   have nO:=aa aZ.out 0
   have nP:=aa aZ.out 1
   have vU:=aa aZ.out 2
   have zL:=aa aZ.out 3
   have zM:=aa aZ.out 4
   go_wp2
   go_meet
   case rel=>exact ⟨_,(bD),dG,H',⟨lS⟩,⟨iE⟩,⟨iA⟩⟩
  ·rw [if_neg c8] at H
   have qN:(Dv == 0)=false:=beq_eq_false_iff_ne.mpr c8
   have zz:(Dv != 0)=true:=bne_iff_ne.mpr c8
   (first|rw [qN]|(simp only [cm,cw];rw [qN])|skip)
   have H':=af.mk H
   clear H
   go_wp2
   go_meet
   case rel=>exact ⟨_,(true),dG,H',⟨lS⟩,⟨iE⟩,⟨iA⟩⟩
 case rest=>
  clear HC4
  try clear c1
  try clear c2
  try clear p2
  try clear c8
  try clear qN
  try clear zz
  try clear vL
  try clear vM
  try clear zU
  try clear zV
  try clear zW
  try clear nM
  try clear nN
  try clear vT
  try clear zJ
  try clear zK
  try clear vN
  try clear vO
  try clear zX
  try clear zY
  try clear zZ
  try clear nO
  try clear nP
  try clear vU
  try clear zL
  try clear zM
  obtain ⟨kq,FU,rfl,HA,HJ3,aZ,HB⟩:=hcut
  cases kq with
  |zero=>exact absurd HA.out (by simp [av.j0])
  |succ tI=>
   have H:=HA.out
   clear HA
   simp only [av.j0] at H
   by_cases c10:FU=true
   ·subst c10
    have H1:((br.f tI).bind fun GL=>(some GL))=some r:=by rw [if_pos rfl] at H;exact H
    clear H
    have H:=H1
    clear H1
    replace H:=Option.bind_eq_some_iff.mp H
    obtain ⟨GL,Rl,H⟩:=H
    replace H:(some GL)=some r:=H
    have Q0:=af.mk Rl
    clear Rl
    obtain rfl:=Option.some.inj H
    go_wp2_with (first|((with_reducible refine aU (f:=19) rfl ?_);refine bY (some 27) rfl rfl Tryz.func19 ay rfl #[] rfl cr ?_;(with_reducible refine (br.calls tI GL _ ?aX Q0.out).mono ?_);(case aX=>exact aQ.below HG.out iA);rintro e Hq ⟨rfl,hb⟩;refine ⟨_,rfl,?_⟩;have fH:=af.mk (bq (g:=bV) (o:= .cells #[.bool bD,.slice cI bG.length cJ,.string bC,.string bI,.bool bJ] 32 (0,0)) iE hb);have fI:=af.mk (aH iA hb);clear aZ;clear HB;have aZ:=fH;have HB:=fI;clear fH fI;(try clear hb);(try clear hb2);(try clear hk);(try clear hi)))
    go_ret
    exact ⟨cM,iA⟩
   ·replace c10:=Bool.eq_false_iff.mpr c10
    subst c10
    have H1:(if dL.toList=([]:List UInt8) then (none) else ((dO.f dL (⟨#[64]⟩:ByteArray)).bind fun gD=>(if 1≤(dL.size:Int) then ((bK.f (dL.extract 1 dL.size) l1).bind fun qp=>(if 1 + qp.size≤9223372036854775807 then (if gD≥0 then (if 1≤gD then (if gD≤(dL.size:Int) then ((cB.f tI bD bG bC bI bJ).bind fun uv=>((strings_TrimSuffix.f (dL.extract 1 (gD:Int).toNat) uv).bind fun rT=>((bK.f rT l1).bind fun fF=>(if 1 + fF.size≤9223372036854775807 then ((cB.f tI bD bG bC bI bJ).bind fun gp=>(if ((⟨#[60]⟩:ByteArray) ++ fF).size + gp.size≤9223372036854775807 then (if (((⟨#[60]⟩:ByteArray) ++ fF) ++ gp).size + 1≤9223372036854775807 then (if 0≤(wrap64 (gD + 1)) then (if (wrap64 (gD + 1))≤(dL.size:Int) then ((bK.f (dL.extract ((wrap64 (gD + 1)):Int).toNat dL.size) l1).bind fun jw=>(if ((((⟨#[60]⟩:ByteArray) ++ fF) ++ gp) ++ (⟨#[64]⟩:ByteArray)).size + jw.size≤9223372036854775807 then (av.j1 tI dL (((((⟨#[60]⟩:ByteArray) ++ fF) ++ gp) ++ (⟨#[64]⟩:ByteArray)) ++ jw) bD bG bC bI bJ) else (none))) else (none)) else (none)) else (none)) else (none))) else (none))))) else (none)) else (none)) else (av.j1 tI dL ((⟨#[60]⟩:ByteArray) ++ qp) bD bG bC bI bJ)) else (none))) else (none))))=some r:=by rw [if_neg (show ¬ (false=true) by decide)] at H;exact H
    clear H
    have H:=H1
    clear H1
    by_cases c13:dL.toList=([]:List UInt8)
    ·rw [if_pos c13] at H
     exact absurd H bB
    ·rw [if_neg c13] at H
     have tE:(dL.toList == ([]:List UInt8))=false:=beq_eq_false_iff_ne.mpr c13
     have xK:(dL.toList != ([]:List UInt8))=true:=bne_iff_ne.mpr c13
     replace H:=Option.bind_eq_some_iff.mp H
     obtain ⟨gD,Rm,H⟩:=H
     replace H:(if 1≤(dL.size:Int) then ((bK.f (dL.extract 1 dL.size) l1).bind fun qp=>(if 1 + qp.size≤9223372036854775807 then (if gD≥0 then (if 1≤gD then (if gD≤(dL.size:Int) then ((cB.f tI bD bG bC bI bJ).bind fun uv=>((strings_TrimSuffix.f (dL.extract 1 (gD:Int).toNat) uv).bind fun rT=>((bK.f rT l1).bind fun fF=>(if 1 + fF.size≤9223372036854775807 then ((cB.f tI bD bG bC bI bJ).bind fun gp=>(if ((⟨#[60]⟩:ByteArray) ++ fF).size + gp.size≤9223372036854775807 then (if (((⟨#[60]⟩:ByteArray) ++ fF) ++ gp).size + 1≤9223372036854775807 then (if 0≤(wrap64 (gD + 1)) then (if (wrap64 (gD + 1))≤(dL.size:Int) then ((bK.f (dL.extract ((wrap64 (gD + 1)):Int).toNat dL.size) l1).bind fun jw=>(if ((((⟨#[60]⟩:ByteArray) ++ fF) ++ gp) ++ (⟨#[64]⟩:ByteArray)).size + jw.size≤9223372036854775807 then (av.j1 tI dL (((((⟨#[60]⟩:ByteArray) ++ fF) ++ gp) ++ (⟨#[64]⟩:ByteArray)) ++ jw) bD bG bC bI bJ) else (none))) else (none)) else (none)) else (none)) else (none))) else (none))))) else (none)) else (none)) else (av.j1 tI dL ((⟨#[60]⟩:ByteArray) ++ qp) bD bG bC bI bJ)) else (none))) else (none))=some r:=H
     have IV:=af.mk Rm
     clear Rm
     by_cases c15: 1≤(dL.size:Int)
     ·rw [if_pos c15] at H
      have vI:=eq_true c15
      have vJ:decide (1≤(dL.size:Int))=true:=decide_eq_true c15
      clear c15
      replace H:=Option.bind_eq_some_iff.mp H
      obtain ⟨qp,Rn,H⟩:=H
      replace H:(if 1 + qp.size≤9223372036854775807 then (if gD≥0 then (if 1≤gD then (if gD≤(dL.size:Int) then ((cB.f tI bD bG bC bI bJ).bind fun uv=>((strings_TrimSuffix.f (dL.extract 1 (gD:Int).toNat) uv).bind fun rT=>((bK.f rT l1).bind fun fF=>(if 1 + fF.size≤9223372036854775807 then ((cB.f tI bD bG bC bI bJ).bind fun gp=>(if ((⟨#[60]⟩:ByteArray) ++ fF).size + gp.size≤9223372036854775807 then (if (((⟨#[60]⟩:ByteArray) ++ fF) ++ gp).size + 1≤9223372036854775807 then (if 0≤(wrap64 (gD + 1)) then (if (wrap64 (gD + 1))≤(dL.size:Int) then ((bK.f (dL.extract ((wrap64 (gD + 1)):Int).toNat dL.size) l1).bind fun jw=>(if ((((⟨#[60]⟩:ByteArray) ++ fF) ++ gp) ++ (⟨#[64]⟩:ByteArray)).size + jw.size≤9223372036854775807 then (av.j1 tI dL (((((⟨#[60]⟩:ByteArray) ++ fF) ++ gp) ++ (⟨#[64]⟩:ByteArray)) ++ jw) bD bG bC bI bJ) else (none))) else (none)) else (none)) else (none)) else (none))) else (none))))) else (none)) else (none)) else (av.j1 tI dL ((⟨#[60]⟩:ByteArray) ++ qp) bD bG bC bI bJ)) else (none))=some r:=H
      have PD:=af.mk Rn
      clear Rn
      by_cases c17: 1 + qp.size≤9223372036854775807
      ·rw [if_pos c17] at H
       have AV:=eq_true c17
       have JG:decide (1 + qp.size≤9223372036854775807)=true:=decide_eq_true c17
       try have JH:(9223372036854775807 < 1 + qp.size)=False:=eq_false (Nat.not_lt.2 c17)
       have Pb:=af.mk H
       clear H
       go_upto_if 38 with (first|((with_reducible refine aU (f:=46) rfl ?_);refine bY (some 31) rfl rfl Tryz.func46 ay rfl #[.string dL,.string (⟨#[64]⟩:ByteArray)] rfl cr ?_;(with_reducible refine (dO.calls dL (⟨#[64]⟩:ByteArray) gD _ IV.out).mono ?_);rintro e w' ⟨rfl,⟨nd,rfl⟩⟩;refine ⟨_,rfl,?_⟩)|((with_reducible refine aU (f:=47) rfl ?_);refine bY (some 35) rfl rfl Tryz.func47 ay rfl #[.string (dL.extract 1 dL.size),.slice A1 l1.length c1] rfl cr ?_;(with_reducible refine (bK.calls (dL.extract 1 dL.size) _ _ l1 qp _ ?aX ?bL PD.out).mono ?_);(case aX=>repeat (first|exact (Kd.fR NU.out iA)|(with_reducible refine Kd.gu ?_ _)|(with_reducible refine Kd.gv ?_ _)|(with_reducible refine Kd.iB ?_)));(case bL=>exact Rk.out);rintro e Qj ⟨rfl,hb⟩;refine ⟨_,rfl,?_⟩;have fH:=af.mk (bq (g:=bV) (o:= .cells #[.bool bD,.slice cI bG.length cJ,.string bC,.string bI,.bool bJ] 32 (0,0)) iE hb);have fI:=af.mk (aH iA hb);clear aZ;clear HB;have aZ:=fH;have HB:=fI;clear fH fI;(try clear hb);(try clear hb2);(try clear hk);(try clear hi)))
       (try simp only [Act.put,List.setIfInBounds_toArray,List.set_cons_zero,List.set_cons_succ])
       go_cut [8] (fun v8 wc=>∃ (kq:Nat) (BD:ByteArray),v8= .string BD∧af (av.j1 kq dL BD bD bG bC bI bJ=some r)∧af (kq≤tI)∧af (wc.heap[bV]? =some (.cells #[.bool bD,(.slice cI bG.length cJ),.string bC,.string bI,.bool bJ] 32 (0,0)))∧af (Below w.heap.size w wc))
       case first=>
        have H:=Pb.out
        clear Pb
        by_cases c20:gD≥0
        ·rw [if_pos c20] at H
         have qA:decide (0≤gD)=true:=decide_eq_true c20
         clear c20
         (first|rw [qA]|(simp only [cm,cw];rw [qA])|skip)
         by_cases c21: 1≤gD
         ·rw [if_pos c21] at H
          have FN:=eq_true c21
          have JI:decide (1≤gD)=true:=decide_eq_true c21
          clear c21
          by_cases xO:gD≤(dL.size:Int)
          ·rw [if_pos xO] at H
           have Jr:=eq_true xO
           have N2:decide (gD≤(dL.size:Int))=true:=decide_eq_true xO
           clear xO
           replace H:=Option.bind_eq_some_iff.mp H
           obtain ⟨uv,Ro,H⟩:=H
           replace H:((strings_TrimSuffix.f (dL.extract 1 (gD:Int).toNat) uv).bind fun rT=>((bK.f rT l1).bind fun fF=>(if 1 + fF.size≤9223372036854775807 then ((cB.f tI bD bG bC bI bJ).bind fun gp=>(if ((⟨#[60]⟩:ByteArray) ++ fF).size + gp.size≤9223372036854775807 then (if (((⟨#[60]⟩:ByteArray) ++ fF) ++ gp).size + 1≤9223372036854775807 then (if 0≤(wrap64 (gD + 1)) then (if (wrap64 (gD + 1))≤(dL.size:Int) then ((bK.f (dL.extract ((wrap64 (gD + 1)):Int).toNat dL.size) l1).bind fun jw=>(if ((((⟨#[60]⟩:ByteArray) ++ fF) ++ gp) ++ (⟨#[64]⟩:ByteArray)).size + jw.size≤9223372036854775807 then (av.j1 tI dL (((((⟨#[60]⟩:ByteArray) ++ fF) ++ gp) ++ (⟨#[64]⟩:ByteArray)) ++ jw) bD bG bC bI bJ) else (none))) else (none)) else (none)) else (none)) else (none))) else (none))))=some r:=H
           have VN:=af.mk Ro
           clear Ro
           replace H:=Option.bind_eq_some_iff.mp H
           obtain ⟨rT,Rp,H⟩:=H
           replace H:((bK.f rT l1).bind fun fF=>(if 1 + fF.size≤9223372036854775807 then ((cB.f tI bD bG bC bI bJ).bind fun gp=>(if ((⟨#[60]⟩:ByteArray) ++ fF).size + gp.size≤9223372036854775807 then (if (((⟨#[60]⟩:ByteArray) ++ fF) ++ gp).size + 1≤9223372036854775807 then (if 0≤(wrap64 (gD + 1)) then (if (wrap64 (gD + 1))≤(dL.size:Int) then ((bK.f (dL.extract ((wrap64 (gD + 1)):Int).toNat dL.size) l1).bind fun jw=>(if ((((⟨#[60]⟩:ByteArray) ++ fF) ++ gp) ++ (⟨#[64]⟩:ByteArray)).size + jw.size≤9223372036854775807 then (av.j1 tI dL (((((⟨#[60]⟩:ByteArray) ++ fF) ++ gp) ++ (⟨#[64]⟩:ByteArray)) ++ jw) bD bG bC bI bJ) else (none))) else (none)) else (none)) else (none)) else (none))) else (none)))=some r:=H
           have A24:=af.mk Rp
           clear Rp
           replace H:=Option.bind_eq_some_iff.mp H
           obtain ⟨fF,Rq,H⟩:=H
           replace H:(if 1 + fF.size≤9223372036854775807 then ((cB.f tI bD bG bC bI bJ).bind fun gp=>(if ((⟨#[60]⟩:ByteArray) ++ fF).size + gp.size≤9223372036854775807 then (if (((⟨#[60]⟩:ByteArray) ++ fF) ++ gp).size + 1≤9223372036854775807 then (if 0≤(wrap64 (gD + 1)) then (if (wrap64 (gD + 1))≤(dL.size:Int) then ((bK.f (dL.extract ((wrap64 (gD + 1)):Int).toNat dL.size) l1).bind fun jw=>(if ((((⟨#[60]⟩:ByteArray) ++ fF) ++ gp) ++ (⟨#[64]⟩:ByteArray)).size + jw.size≤9223372036854775807 then (av.j1 tI dL (((((⟨#[60]⟩:ByteArray) ++ fF) ++ gp) ++ (⟨#[64]⟩:ByteArray)) ++ jw) bD bG bC bI bJ) else (none))) else (none)) else (none)) else (none)) else (none))) else (none))=some r:=H
           have VO:=af.mk Rq
           clear Rq
           by_cases EN: 1 + fF.size≤9223372036854775807
           ·rw [if_pos EN] at H
            have EO:=eq_true EN
            have N3:decide (1 + fF.size≤9223372036854775807)=true:=decide_eq_true EN
            try have N4:(9223372036854775807 < 1 + fF.size)=False:=eq_false (Nat.not_lt.2 EN)
            replace H:=Option.bind_eq_some_iff.mp H
            obtain ⟨gp,Rs,H⟩:=H
            replace H:(if ((⟨#[60]⟩:ByteArray) ++ fF).size + gp.size≤9223372036854775807 then (if (((⟨#[60]⟩:ByteArray) ++ fF) ++ gp).size + 1≤9223372036854775807 then (if 0≤(wrap64 (gD + 1)) then (if (wrap64 (gD + 1))≤(dL.size:Int) then ((bK.f (dL.extract ((wrap64 (gD + 1)):Int).toNat dL.size) l1).bind fun jw=>(if ((((⟨#[60]⟩:ByteArray) ++ fF) ++ gp) ++ (⟨#[64]⟩:ByteArray)).size + jw.size≤9223372036854775807 then (av.j1 tI dL (((((⟨#[60]⟩:ByteArray) ++ fF) ++ gp) ++ (⟨#[64]⟩:ByteArray)) ++ jw) bD bG bC bI bJ) else (none))) else (none)) else (none)) else (none)) else (none))=some r:=H
            have A27:=af.mk Rs
            clear Rs
            by_cases c28:((⟨#[60]⟩:ByteArray) ++ fF).size + gp.size≤9223372036854775807
            ·rw [if_pos c28] at H
             have xM:=eq_true c28
             have FD:decide (((⟨#[60]⟩:ByteArray) ++ fF).size + gp.size≤9223372036854775807)=true:=decide_eq_true c28
             try have JM:(9223372036854775807 < ((⟨#[60]⟩:ByteArray) ++ fF).size + gp.size)=False:=eq_false (Nat.not_lt.2 c28)
             try (have N5:=JM;simp only [ByteArray.size_append] at N5)
             try have adp:(9223372036854775807 < (1 + fF.size) + gp.size)=False:=N5
             by_cases JJ:(((⟨#[60]⟩:ByteArray) ++ fF) ++ gp).size + 1≤9223372036854775807
             ·rw [if_pos JJ] at H
              have JK:=eq_true JJ
              have JL:decide ((((⟨#[60]⟩:ByteArray) ++ fF) ++ gp).size + 1≤9223372036854775807)=true:=decide_eq_true JJ
              try have FT:(9223372036854775807 < (((⟨#[60]⟩:ByteArray) ++ fF) ++ gp).size + 1)=False:=eq_false (Nat.not_lt.2 JJ)
              try (have N6:=FT;simp only [ByteArray.size_append] at N6)
              try have adq:(9223372036854775807 < (1 + fF.size + gp.size) + 1)=False:=N6
              obtain ⟨xq,tJ⟩:∃ j_:Int,(wrap64 (gD + 1))=j_ :=⟨_,rfl⟩
              replace H:(if 0≤(xq) then (if (xq)≤(dL.size:Int) then ((bK.f (dL.extract ((xq):Int).toNat dL.size) l1).bind fun jw=>(if ((((⟨#[60]⟩:ByteArray) ++ fF) ++ gp) ++ (⟨#[64]⟩:ByteArray)).size + jw.size≤9223372036854775807 then (av.j1 tI dL (((((⟨#[60]⟩:ByteArray) ++ fF) ++ gp) ++ (⟨#[64]⟩:ByteArray)) ++ jw) bD bG bC bI bJ) else (none))) else (none)) else (none))=some r:=by first|(rw [tJ] at H;exact H)|(simp only [tJ] at H ⊢;exact H)
              (try rw [tJ] at VN)
              (try rw [tJ] at A24)
              (try rw [tJ] at VO)
              (try rw [tJ] at A27)
              have abl:(IntKind.i64.wrap (gD + 1))=xq:=(cm _).trans tJ
              by_cases c31: 0≤(xq)
              ·rw [if_pos c31] at H
               have N7:=eq_true c31
               have N8:decide (0≤(xq))=true:=decide_eq_true c31
               clear c31
               by_cases Pc:(xq)≤(dL.size:Int)
               ·rw [if_pos Pc] at H
                have N9:=eq_true Pc
                have Oa:decide ((xq)≤(dL.size:Int))=true:=decide_eq_true Pc
                clear Pc
                replace H:=Option.bind_eq_some_iff.mp H
                obtain ⟨jw,Rt,H⟩:=H
                replace H:(if ((((⟨#[60]⟩:ByteArray) ++ fF) ++ gp) ++ (⟨#[64]⟩:ByteArray)).size + jw.size≤9223372036854775807 then (av.j1 tI dL (((((⟨#[60]⟩:ByteArray) ++ fF) ++ gp) ++ (⟨#[64]⟩:ByteArray)) ++ jw) bD bG bC bI bJ) else (none))=some r:=H
                have A33:=af.mk Rt
                clear Rt
                by_cases rR:((((⟨#[60]⟩:ByteArray) ++ fF) ++ gp) ++ (⟨#[64]⟩:ByteArray)).size + jw.size≤9223372036854775807
                ·rw [if_pos rR] at H
                 have Ob:=eq_true rR
                 have Oc:decide (((((⟨#[60]⟩:ByteArray) ++ fF) ++ gp) ++ (⟨#[64]⟩:ByteArray)).size + jw.size≤9223372036854775807)=true:=decide_eq_true rR
                 try have JN:(9223372036854775807 < ((((⟨#[60]⟩:ByteArray) ++ fF) ++ gp) ++ (⟨#[64]⟩:ByteArray)).size + jw.size)=False:=eq_false (Nat.not_lt.2 rR)
                 try (have Od:=JN;simp only [ByteArray.size_append] at Od)
                 try have adr:(9223372036854775807 < (1 + fF.size + gp.size + 1) + jw.size)=False:=Od
                 have H':=af.mk H
                 clear H
                 try go_wp2
                 have fH:=af.mk (aY aZ.out)
                 have fI:=af.mk (aW HB.out)
                 clear aZ
                 clear HB
                 have aZ:=fH
                 have HB:=fI
                 clear fH fI
                 refine pz (n:=7) (S:=fun w'=>w'.cell? ⟨bV,0,none⟩=some (.bool bD)∧w'.cell? ⟨bV,1,none⟩=some (.slice cI bG.length cJ)∧w'.cell? ⟨bV,2,none⟩=some (.string bC)∧w'.cell? ⟨bV,3,none⟩=some (.string bI)∧w'.cell? ⟨bV,4,none⟩=some (.bool bJ)) (ds:=[]) #[false,false,false,false,false,false,false] ay (by rfl) (by rfl) ⟨(ah aZ.out 0).trans rfl,(ah aZ.out 1).trans rfl,(ah aZ.out 2).trans rfl,(ah aZ.out 3).trans rfl,(ah aZ.out 4).trans rfl⟩ (fun hHeld=>?_)
                 generalize Qj.drew=PL at aZ HB hHeld ⊢
                 refine cA (i:=0) (N:=some 39) (v:=?_) (a':=?_) #[true,false,false,false,false,false,false] rfl rfl ay (fun _ _ _ h=>h) (Or.inl ⟨by rfl,?_⟩) ?_ ?_
                 rotate_left
                 ·intro w'
                  go_simp
                  with_reducible rfl
                 rotate_left
                 ·simp only [Act.put,List.setIfInBounds_toArray,List.set_cons_zero,List.set_cons_succ,cm,cw]
                  rfl
                 refine cA (i:=1) (N:=some 40) (v:=?_) (a':=?_) #[true,true,false,false,false,false,false] rfl rfl ay (fun _ _ _ h=>h) (Or.inl ⟨by rfl,?_⟩) ?_ ?_
                 rotate_left
                 ·intro w'
                  go_simp
                  with_reducible rfl
                 rotate_left
                 ·simp only [Act.put,List.setIfInBounds_toArray,List.set_cons_zero,List.set_cons_succ,cm,cw]
                  rfl
                 refine cA (i:=2) (N:=some 41) (v:=?_) (a':=?_) #[true,true,true,false,false,false,false] rfl rfl ay (fun _ _ _ h=>h) (Or.inl ⟨by rfl,?_⟩) ?_ ?_
                 rotate_left
                 ·intro w'
                  go_simp
                  with_reducible rfl
                 rotate_left
                 ·simp only [Act.put,List.setIfInBounds_toArray,List.set_cons_zero,List.set_cons_succ,cm,cw]
                  rfl
                 refine jh (i:=3) (N:=some 42) (v:=?_) (a':=?_) #[true,true,true,true,false,false,false] rfl rfl ay (fun _ _ _ h=>h) (Or.inl ⟨by rfl,?_⟩) hHeld ?_ ?_
                 rotate_left
                 ·rintro w' ⟨s0,s1,s2,s3,s4⟩
                  go_simp
                  with_reducible rfl
                 rotate_left
                 ·simp only [Act.put,List.setIfInBounds_toArray,List.set_cons_zero,List.set_cons_succ,cm,cw]
                  rfl
                 refine rD (i:=4) (N:=some 43) #[true,true,true,true,true,false,false] rfl rfl ay bg (fun K hK=>?_)
                 refine nV Tryz.func49 ay rfl #[.agg #[.bool bD,.slice cI bG.length cJ,.string bC,.string bI,.bool bJ]] (by rfl) rfl rfl cr ?_
                 with_reducible refine (cB.calls tI bD _ _ bG bC bI bJ uv _ ?aX ?bL ?eF VN.out).mono ?_
                 (case aX=>repeat (first|exact (Kd.fR jK.out HB.out)|(with_reducible refine Kd.gu ?_ _)|(with_reducible refine Kd.gv ?_ _)|(with_reducible refine Kd.iB ?_)))
                 (case bL=>exact kF.out)
                 (case eF=>exact aQ.below HG.out iA)
                 rintro e Ky ⟨rfl,hb⟩
                 refine ⟨_,rfl,?_⟩
                 have fH:=af.mk (bq (g:=bV) (o:= .cells #[.bool bD,.slice cI bG.length cJ,.string bC,.string bI,.bool bJ] 32 (0,0)) iE hb)
                 have fI:=af.mk (aH iA hb)
                 clear aZ
                 clear HB
                 have aZ:=fH
                 have HB:=fI
                 clear fH fI
                 (try clear hb)
                 (try clear hb2)
                 (try clear hk)
                 (try clear hi)
                 refine hK.out _ _ ⟨(ah aZ.out 0).trans rfl,(ah aZ.out 1).trans rfl,(ah aZ.out 2).trans rfl,(ah aZ.out 3).trans rfl,(ah aZ.out 4).trans rfl⟩ (fun hHeld=>?_)
                 clear hK K
                 refine nU (a':=?_) ?_ ?_
                 rotate_left
                 ·show Act.put _ (some 43) _=_
                  simp only [Act.put,List.setIfInBounds_toArray,List.set_cons_zero,List.set_cons_succ,cm,cw]
                  rfl
                 refine rD (i:=5) (N:=some 44) #[true,true,true,true,true,true,false] rfl rfl ay bg (fun K hK=>?_)
                 refine nV Tryz.func48 ay rfl #[.string (dL.extract 1 (gD:Int).toNat),.string uv] (by rfl) rfl rfl cr ?_
                 with_reducible refine (strings_TrimSuffix.calls (dL.extract 1 (gD:Int).toNat) uv rT _ A24.out).mono ?_
                 rintro e w' ⟨rfl,⟨nd,rfl⟩⟩
                 refine ⟨_,rfl,?_⟩
                 refine hK.out _ _ ⟨(ah aZ.out 0).trans rfl,(ah aZ.out 1).trans rfl,(ah aZ.out 2).trans rfl,(ah aZ.out 3).trans rfl,(ah aZ.out 4).trans rfl⟩ (fun hHeld=>?_)
                 clear hK K
                 refine nU (a':=?_) ?_ ?_
                 rotate_left
                 ·show Act.put _ (some 44) _=_
                  simp only [Act.put,List.setIfInBounds_toArray,List.set_cons_zero,List.set_cons_succ,cm,cw]
                  rfl
                 refine cA (i:=6) (N:=some 9) (v:=?_) (a':=?_) #[true,true,true,true,true,true,true] rfl rfl ay (fun _ _ _ h=>h) (Or.inl ⟨by rfl,?_⟩) ?_ ?_
                 rotate_left
                 ·intro w'
                  go_simp
                  with_reducible rfl
                 rotate_left
                 ·simp only [Act.put,List.setIfInBounds_toArray,List.set_cons_zero,List.set_cons_succ,cm,cw]
                  rfl
                 refine tA ay ?_
                 try go_wp2
                 (try (rw [qM Ky];generalize KJ:World.drewN Ky _=Ky;have fH:af (Ky.heap[bV]? =some (.cells #[.bool bD,.slice cI bG.length cJ,.string bC,.string bI,.bool bJ] 32 (0,0))):=⟨by rw [← KJ];exact iE⟩;have fI:af (Below w.heap.size w Ky):=⟨by rw [← KJ];exact iA⟩;clear aZ HB KJ;have aZ:=fH;have HB:=fI;clear fH fI))
                 have fH:=af.mk (aY aZ.out)
                 have fI:=af.mk (aW HB.out)
                 clear aZ
                 clear HB
                 have aZ:=fH
                 have HB:=fI
                 clear fH fI
                 refine pz (n:=16) (S:=fun w'=>w'.cell? ⟨bV,0,none⟩=some (.bool bD)∧w'.cell? ⟨bV,1,none⟩=some (.slice cI bG.length cJ)∧w'.cell? ⟨bV,2,none⟩=some (.string bC)∧w'.cell? ⟨bV,3,none⟩=some (.string bI)∧w'.cell? ⟨bV,4,none⟩=some (.bool bJ)) (ds:=[]) #[false,false,false,false,false,false,false,false,false,false,false,false,false,false,false,false] ay (by rfl) (by rfl) ⟨(ah aZ.out 0).trans rfl,(ah aZ.out 1).trans rfl,(ah aZ.out 2).trans rfl,(ah aZ.out 3).trans rfl,(ah aZ.out 4).trans rfl⟩ (fun hHeld=>?_);refine mD av.Jm av.Dg (fun iq AP=>?_)
                 generalize Ky.drew=PM at aZ HB hHeld ⊢
                 refine cA (i:=0) (N:=some 45) (v:=?_) (a':=?_) #[true,false,false,false,false,false,false,false,false,false,false,false,false,false,false,false] rfl rfl (cR iq.out ay) (fun _ _ _ h=>h) (Or.inl ⟨by rfl,?_⟩) ?_ ?_
                 rotate_left
                 ·intro w'
                  go_simp
                  with_reducible rfl
                 rotate_left
                 ·simp only [Act.put,List.setIfInBounds_toArray,List.set_cons_zero,List.set_cons_succ,cm,cw]
                  rfl
                 refine cA (i:=1) (N:=some 46) (v:=?_) (a':=?_) #[true,true,false,false,false,false,false,false,false,false,false,false,false,false,false,false] rfl rfl (cR iq.out ay) (fun _ _ _ h=>h) (Or.inl ⟨by rfl,?_⟩) ?_ ?_
                 rotate_left
                 ·intro w'
                  go_simp
                  with_reducible rfl
                 rotate_left
                 ·simp only [Act.put,List.setIfInBounds_toArray,List.set_cons_zero,List.set_cons_succ,cm,cw]
                  rfl
                 refine cA (i:=8) (N:=some 53) (v:=?_) (a':=?_) #[true,true,false,false,false,false,false,false,true,false,false,false,false,false,false,false] rfl rfl (cR iq.out ay) (fun _ _ _ h=>h) (Or.inl ⟨by rfl,?_⟩) ?_ ?_
                 rotate_left
                 ·intro w'
                  go_simp
                  with_reducible rfl
                 rotate_left
                 ·simp only [Act.put,List.setIfInBounds_toArray,List.set_cons_zero,List.set_cons_succ,cm,cw]
                  rfl
                 refine cA (i:=9) (N:=some 54) (v:=?_) (a':=?_) #[true,true,false,false,false,false,false,false,true,true,false,false,false,false,false,false] rfl rfl (cR iq.out ay) (fun _ _ _ h=>h) (Or.inl ⟨by rfl,?_⟩) ?_ ?_
                 rotate_left
                 ·intro w'
                  go_simp
                  with_reducible rfl
                 rotate_left
                 ·simp only [Act.put,List.setIfInBounds_toArray,List.set_cons_zero,List.set_cons_succ,cm,cw]
                  rfl
                 refine cA (i:=10) (N:=some 55) (v:=?_) (a':=?_) #[true,true,false,false,false,false,false,false,true,true,true,false,false,false,false,false] rfl rfl (cR iq.out ay) (fun _ _ _ h=>h) (Or.inl ⟨by rfl,?_⟩) ?_ ?_
                 rotate_left
                 ·intro w'
                  go_simp
                  with_reducible rfl
                 rotate_left
                 ·simp only [Act.put,List.setIfInBounds_toArray,List.set_cons_zero,List.set_cons_succ,cm,cw]
                  rfl
                 refine cA (i:=11) (N:=some 56) (v:=?_) (a':=?_) #[true,true,false,false,false,false,false,false,true,true,true,true,false,false,false,false] rfl rfl (cR iq.out ay) (fun _ _ _ h=>h) (Or.inl ⟨by rfl,?_⟩) ?_ ?_
                 rotate_left
                 ·intro w'
                  go_simp
                  with_reducible rfl
                 rotate_left
                 ·simp only [Act.put,List.setIfInBounds_toArray,List.set_cons_zero,List.set_cons_succ,cm,cw]
                  rfl
                 refine cA (i:=12) (N:=some 57) (v:=?_) (a':=?_) #[true,true,false,false,false,false,false,false,true,true,true,true,true,false,false,false] rfl rfl (cR iq.out ay) (fun _ _ _ h=>h) (Or.inl ⟨by rfl,?_⟩) ?_ ?_
                 rotate_left
                 ·intro w'
                  go_simp
                  with_reducible rfl
                 rotate_left
                 ·simp only [Act.put,List.setIfInBounds_toArray,List.set_cons_zero,List.set_cons_succ,cm,cw]
                  rfl
                 refine jh (i:=4) (N:=some 49) (v:=?_) (a':=?_) #[true,true,false,false,true,false,false,false,true,true,true,true,true,false,false,false] rfl rfl (ji iq.out AP.out ay) (fun _ _ _ h=>h) (Or.inl ⟨by rfl,?_⟩) hHeld ?_ ?_
                 rotate_left
                 ·rintro w' ⟨s0,s1,s2,s3,s4⟩
                  go_simp
                  with_reducible rfl
                 rotate_left
                 ·simp only [Act.put,List.setIfInBounds_toArray,List.set_cons_zero,List.set_cons_succ,cm,cw]
                  rfl
                 refine rD (i:=2) (N:=some 47) #[true,true,true,false,true,false,false,false,true,true,true,true,true,false,false,false] rfl rfl (mW iq.out ay) bg (fun K hK=>?_)
                 refine nV Tryz.func47 ay rfl #[.string rT,.slice A1 l1.length c1] (by rfl) rfl rfl cr ?_
                 with_reducible refine (bK.calls rT _ _ l1 fF _ ?aX ?bL VO.out).mono ?_
                 (case aX=>repeat (first|exact (Kd.fR NU.out HB.out)|(with_reducible refine Kd.gu ?_ _)|(with_reducible refine Kd.gv ?_ _)|(with_reducible refine Kd.iB ?_)))
                 (case bL=>exact Rk.out)
                 rintro e w38 ⟨rfl,hb⟩
                 refine ⟨_,rfl,?_⟩
                 have fH:=af.mk (bq (g:=bV) (o:= .cells #[.bool bD,.slice cI bG.length cJ,.string bC,.string bI,.bool bJ] 32 (0,0)) iE hb)
                 have fI:=af.mk (aH iA hb)
                 clear aZ
                 clear HB
                 have aZ:=fH
                 have HB:=fI
                 clear fH fI
                 (try clear hb)
                 (try clear hb2)
                 (try clear hk)
                 (try clear hi)
                 refine hK.out _ _ ⟨(ah aZ.out 0).trans rfl,(ah aZ.out 1).trans rfl,(ah aZ.out 2).trans rfl,(ah aZ.out 3).trans rfl,(ah aZ.out 4).trans rfl⟩ (fun hHeld=>?_)
                 clear hK K
                 refine nU (a':=?_) ?_ ?_
                 rotate_left
                 ·show Act.put _ (some 47) _=_
                  simp only [Act.put,List.setIfInBounds_toArray,List.set_cons_zero,List.set_cons_succ,cm,cw]
                  rfl
                 refine cA (i:=3) (N:=some 48) (v:=?_) (a':=?_) #[true,true,true,true,true,false,false,false,true,true,true,true,true,false,false,false] rfl rfl (cR iq.out ay) (fun _ _ _ h=>h) (Or.inl ⟨by rfl,?_⟩) ?_ ?_
                 rotate_left
                 ·intro w'
                  go_simp
                  with_reducible rfl
                 rotate_left
                 ·simp only [Act.put,List.setIfInBounds_toArray,List.set_cons_zero,List.set_cons_succ,cm,cw]
                  rfl
                 refine rD (i:=5) (N:=some 50) #[true,true,true,true,true,true,false,false,true,true,true,true,true,false,false,false] rfl rfl (mW iq.out ay) bg (fun K hK=>?_)
                 refine nV Tryz.func49 ay rfl #[.agg #[.bool bD,.slice cI bG.length cJ,.string bC,.string bI,.bool bJ]] (by rfl) rfl rfl cr ?_
                 with_reducible refine (cB.calls tI bD _ _ bG bC bI bJ gp _ ?aX ?bL ?eF A27.out).mono ?_
                 (case aX=>repeat (first|exact (Kd.fR jK.out HB.out)|(with_reducible refine Kd.gu ?_ _)|(with_reducible refine Kd.gv ?_ _)|(with_reducible refine Kd.iB ?_)))
                 (case bL=>exact kF.out)
                 (case eF=>exact aQ.below HG.out iA)
                 rintro e w39 ⟨rfl,hb⟩
                 refine ⟨_,rfl,?_⟩
                 have fH:=af.mk (bq (g:=bV) (o:= .cells #[.bool bD,.slice cI bG.length cJ,.string bC,.string bI,.bool bJ] 32 (0,0)) iE hb)
                 have fI:=af.mk (aH iA hb)
                 clear aZ
                 clear HB
                 have aZ:=fH
                 have HB:=fI
                 clear fH fI
                 (try clear hb)
                 (try clear hb2)
                 (try clear hk)
                 (try clear hi)
                 refine hK.out _ _ ⟨(ah aZ.out 0).trans rfl,(ah aZ.out 1).trans rfl,(ah aZ.out 2).trans rfl,(ah aZ.out 3).trans rfl,(ah aZ.out 4).trans rfl⟩ (fun hHeld=>?_)
                 clear hK K
                 refine nU (a':=?_) ?_ ?_
                 rotate_left
                 ·show Act.put _ (some 50) _=_
                  simp only [Act.put,List.setIfInBounds_toArray,List.set_cons_zero,List.set_cons_succ,cm,cw]
                  rfl
                 refine cA (i:=6) (N:=some 51) (v:=?_) (a':=?_) #[true,true,true,true,true,true,true,false,true,true,true,true,true,false,false,false] rfl rfl (cR iq.out ay) (fun _ _ _ h=>h) (Or.inl ⟨by rfl,?_⟩) ?_ ?_
                 rotate_left
                 ·intro w'
                  go_simp
                  with_reducible rfl
                 rotate_left
                 ·simp only [Act.put,List.setIfInBounds_toArray,List.set_cons_zero,List.set_cons_succ,cm,cw]
                  rfl
                 refine cA (i:=7) (N:=some 52) (v:=?_) (a':=?_) #[true,true,true,true,true,true,true,true,true,true,true,true,true,false,false,false] rfl rfl (cR iq.out ay) (fun _ _ _ h=>h) (Or.inl ⟨by rfl,?_⟩) ?_ ?_
                 rotate_left
                 ·intro w'
                  go_simp
                  with_reducible rfl
                 rotate_left
                 ·simp only [Act.put,List.setIfInBounds_toArray,List.set_cons_zero,List.set_cons_succ,cm,cw]
                  rfl
                 refine rD (i:=13) (N:=some 58) #[true,true,true,true,true,true,true,true,true,true,true,true,true,true,false,false] rfl rfl (mW iq.out ay) bg (fun K hK=>?_)
                 refine nV Tryz.func47 ay rfl #[.string (dL.extract ((xq):Int).toNat dL.size),.slice A1 l1.length c1] (by rfl) rfl rfl (by (try simp only [List.map_toArray,List.map_cons,List.map_nil]);first|done|(simp only [tJ];rfl)|rfl|(simp only [List.length_drop,List.length_take];rfl)) ?_
                 with_reducible refine (bK.calls (dL.extract ((xq):Int).toNat dL.size) _ _ l1 jw _ ?aX ?bL A33.out).mono ?_
                 (case aX=>repeat (first|exact (Kd.fR NU.out HB.out)|(with_reducible refine Kd.gu ?_ _)|(with_reducible refine Kd.gv ?_ _)|(with_reducible refine Kd.iB ?_)))
                 (case bL=>exact Rk.out)
                 rintro e w40 ⟨rfl,hb⟩
                 refine ⟨_,rfl,?_⟩
                 have fH:=af.mk (bq (g:=bV) (o:= .cells #[.bool bD,.slice cI bG.length cJ,.string bC,.string bI,.bool bJ] 32 (0,0)) iE hb)
                 have fI:=af.mk (aH iA hb)
                 clear aZ
                 clear HB
                 have aZ:=fH
                 have HB:=fI
                 clear fH fI
                 (try clear hb)
                 (try clear hb2)
                 (try clear hk)
                 (try clear hi)
                 refine hK.out _ _ ⟨(ah aZ.out 0).trans rfl,(ah aZ.out 1).trans rfl,(ah aZ.out 2).trans rfl,(ah aZ.out 3).trans rfl,(ah aZ.out 4).trans rfl⟩ (fun hHeld=>?_)
                 clear hK K
                 refine nU (a':=?_) ?_ ?_
                 rotate_left
                 ·show Act.put _ (some 58) _=_
                  simp only [Act.put,List.setIfInBounds_toArray,List.set_cons_zero,List.set_cons_succ,cm,cw]
                  rfl
                 refine cA (i:=14) (N:=some 59) (v:=?_) (a':=?_) #[true,true,true,true,true,true,true,true,true,true,true,true,true,true,true,false] rfl rfl (cR iq.out ay) (fun _ _ _ h=>h) (Or.inl ⟨by rfl,?_⟩) ?_ ?_
                 rotate_left
                 ·intro w'
                  go_simp
                  with_reducible rfl
                 rotate_left
                 ·simp only [Act.put,List.setIfInBounds_toArray,List.set_cons_zero,List.set_cons_succ,cm,cw]
                  rfl
                 refine cA (i:=15) (N:=some 8) (v:=?_) (a':=?_) #[true,true,true,true,true,true,true,true,true,true,true,true,true,true,true,true] rfl rfl (cR iq.out ay) (fun _ _ _ h=>h) (Or.inl ⟨by rfl,?_⟩) ?_ ?_
                 rotate_left
                 ·intro w'
                  go_simp
                  with_reducible rfl
                 rotate_left
                 ·simp only [Act.put,List.setIfInBounds_toArray,List.set_cons_zero,List.set_cons_succ,cm,cw]
                  rfl
                 refine tA (p8 iq.out ay) ?_
                 try go_wp2
                 go_meet
                 case rel=>exact ⟨_,(((((⟨#[60]⟩:ByteArray) ++ fF) ++ gp) ++ (⟨#[64]⟩:ByteArray)) ++ jw),dG,H',⟨by have:=HJ3.out;first|omega|exact Nat.le_refl _⟩,⟨iE⟩,⟨iA⟩⟩
                ·rw [if_neg rR] at H
                 exact absurd H bB
               ·rw [if_neg Pc] at H
                exact absurd H bB
              ·rw [if_neg c31] at H
               exact absurd H bB
             ·rw [if_neg JJ] at H
              exact absurd H bB
            ·rw [if_neg c28] at H
             exact absurd H bB
           ·rw [if_neg EN] at H
            exact absurd H bB
          ·rw [if_neg xO] at H
           exact absurd H bB
         ·rw [if_neg c21] at H
          exact absurd H bB
        ·rw [if_neg c20] at H
         have qA:decide (0≤gD)=false:=decide_eq_false c20
         clear c20
         (first|rw [qA]|(simp only [cm,cw];rw [qA])|skip)
         have H':=af.mk H
         clear H
         go_wp2
         go_meet
         case rel=>exact ⟨_,((⟨#[60]⟩:ByteArray) ++ qp),dG,H',⟨by have:=HJ3.out;first|omega|exact Nat.le_refl _⟩,⟨iE⟩,⟨iA⟩⟩
       case rest=>
        clear Pb
        try clear c1
        try clear c2
        try clear p2
        try clear c3
        try clear c4
        try clear p6
        try clear c8
        try clear qN
        try clear zz
        try clear c10
        try clear c12
        try clear c13
        try clear tE
        try clear xK
        try clear c15
        try clear vI
        try clear vJ
        try clear c17
        try clear AV
        try clear JG
        try clear JH
        try clear c19
        try clear c20
        try clear qA
        try clear c21
        try clear FN
        try clear JI
        try clear xO
        try clear Jr
        try clear N2
        try clear EN
        try clear EO
        try clear N3
        try clear N4
        try clear c28
        try clear xM
        try clear FD
        try clear JM
        try clear JJ
        try clear JK
        try clear JL
        try clear FT
        try clear c31
        try clear N7
        try clear N8
        try clear Pc
        try clear N9
        try clear Oa
        try clear rR
        try clear Ob
        try clear Oc
        try clear JN
        try clear vL
        try clear vM
        try clear zU
        try clear zV
        try clear zW
        try clear nM
        try clear nN
        try clear vT
        try clear zJ
        try clear zK
        try clear vN
        try clear vO
        try clear zX
        try clear zY
        try clear zZ
        try clear nO
        try clear nP
        try clear vU
        try clear zL
        try clear zM
        try clear p2
        obtain ⟨kq,BD,rfl,HA,aal,aZ,HB⟩:=hcut
        cases kq with
        |zero=>exact absurd HA.out (by simp [av.j1])
        |succ BF=>
         have H:=HA.out
         clear HA
         simp only [av.j1] at H
         replace H:=Option.bind_eq_some_iff.mp H
         obtain ⟨⟨kT,kr,lR,l5,mN,Dw,Dx⟩,Ru,H⟩:=H
         replace H:(if Dx=0 then (if Dw=(dL.size:Int) then ((aN.f BF bD bG bC bI bJ kT kr lR l5 mN).bind fun Du=>(av.j2 BF dL (!Du) bD bG bC bI bJ)) else (av.j2 BF dL true bD bG bC bI bJ)) else (av.j2 BF dL true bD bG bC bI bJ))=some r:=H
         have A41:=af.mk Ru
         clear Ru
         have Pd:=af.mk H
         clear H
         go_upto_region 12 with (first|((with_reducible refine aU (f:=17) rfl ?_);refine bY (some 62) rfl rfl Tryz.func17 ay rfl #[.string BD] rfl cr ?_;(with_reducible refine (bM.calls BF BD kT kr lR l5 mN Dw Dx _ ?aX A41.out).mono ?_);(case aX=>exact aQ.below HG.out iA);rintro e PI ⟨ae3,rfl,ho0,hb⟩;refine ⟨_,rfl,?_⟩;have fH:=af.mk (Kd.lu ho0 (fy iA));have fI:=af.mk (bq (g:=bV) (o:= .cells #[.bool bD,.slice cI bG.length cJ,.string bC,.string bI,.bool bJ] 32 (0,0)) iE hb);have jI:=af.mk (aH iA hb);clear aZ;clear HB;have ru:=fH;have aZ:=fI;have HB:=jI;clear fH fI jI;(try clear hb);(try clear hb2);(try clear hk);(try clear hi);(try clear ho0))|((with_reducible refine cU (N:=10) rfl ?_);(try (refine cW (by rfl) ?_;dsimp only));refine cL ?hg (N:=10) ?hd (cs:=#[.bool false,.slice none 0 0,.string (⟨#[]⟩:ByteArray),.string (⟨#[]⟩:ByteArray),.bool false]) (t:=32) ?hr ?_;(case hd=>rfl);(case hg=>rfl);(case hr=>first|(go_simp;done)|(go_simp;rfl));intro eJ hg Dy dg hb;have fH:=af.mk (Kd.dD Em hb);have fI:=af.mk (bq (g:=bV) (o:= .cells #[.bool bD,.slice cI bG.length cJ,.string bC,.string bI,.bool bJ] 32 (0,0)) iE hb);have jI:=af.mk (aH iA hb);have kR:=af.mk (dg);have mZ:=af.mk ((Ik:w.heap.size≤eJ));have FV:=af.mk ((Ik:w.heap.size≤eJ));have FW:=af.mk ((uS:bV≠eJ));have FX:=af.mk ((uT:eJ≠bV));clear ru;clear aZ;clear HB;have ru:=fH;have aZ:=fI;have HB:=jI;have dS:=kR;have ads:=mZ;have Ht:=FV;have iQ:=FW;have mH:=FX;clear fH fI jI kR mZ FV FW FX;clear hb dg hg;have adt:=mH.out;have adu:=iQ.out;have Mq:Dy.cell? ⟨eJ,0,none⟩=some (.bool false):=(ah dS.out 0).trans rfl;have Mr:Dy.cell? ⟨eJ,1,none⟩=some (.slice none 0 0):=(ah dS.out 1).trans rfl;have Ms:Dy.cell? ⟨eJ,2,none⟩=some (.string (⟨#[]⟩:ByteArray)):=(ah dS.out 2).trans rfl;have Mt:Dy.cell? ⟨eJ,3,none⟩=some (.string (⟨#[]⟩:ByteArray)):=(ah dS.out 3).trans rfl;have Mu:Dy.cell? ⟨eJ,4,none⟩=some (.bool false):=(ah dS.out 4).trans rfl;have Mv:=aa dS.out 0;have Mw:=aa dS.out 1;have Mx:=aa dS.out 2;have My:=aa dS.out 3;have Mz:=aa dS.out 4;obtain ⟨lZ,lQ,abm⟩:=Kd.jm ru.out;subst abm))
         (try simp only [Act.put,List.setIfInBounds_toArray,List.set_cons_zero,List.set_cons_succ])
         go_cut [79] (fun v79 wc=>∃ (kq:Nat) (z6:Bool),v79= .bool z6∧af (av.j2 kq dL z6 bD bG bC bI bJ=some r)∧af (kq≤BF)∧af (Kd.R Kd.string 9 wc w.heap.size (fun _ =>True) (.slice lZ kr.length lQ) kr)∧af (wc.heap[bV]? =some (.cells #[.bool bD,(.slice cI bG.length cJ),.string bC,.string bI,.bool bJ] 32 (0,0)))∧af (wc.heap[eJ]? =some (.cells #[.bool kT,(.slice lZ kr.length lQ),.string lR,.string l5,.bool mN] 32 (0,0)))∧af (Below w.heap.size w wc))
         case first=>
          have H:=Pd.out
          clear Pd
          by_cases Oe:Dx=0
          ·rw [if_pos Oe] at H
           have xS:(Dx == 0)=true:=beq_iff_eq.mpr Oe
           have Og:(Dx != 0)=false:=bne_eq_false_iff_eq.mpr Oe
           clear Oe
           (first|rw [xS]|(simp only [cm,cw];rw [xS])|skip)
           by_cases c49:Dw=(dL.size:Int)
           ·rw [if_pos c49] at H
            have Oh:(Dw == (dL.size:Int))=true:=beq_iff_eq.mpr c49
            have Oi:(Dw != (dL.size:Int))=false:=bne_eq_false_iff_eq.mpr c49
            clear c49
            replace H:=Option.bind_eq_some_iff.mp H
            obtain ⟨Du,Rv,H⟩:=H
            replace H:(av.j2 BF dL (!Du) bD bG bC bI bJ)=some r:=H
            have A50:=af.mk Rv
            clear Rv
            have H':=af.mk H
            clear H
            have adv:=iQ.out
            have adw:=mH.out
            have MA:Dy.cell? ⟨bV,0,none⟩=some (.bool bD):=(ah aZ.out 0).trans rfl
            have MB:Dy.cell? ⟨bV,1,none⟩=some (.slice cI bG.length cJ):=(ah aZ.out 1).trans rfl
            have MC:Dy.cell? ⟨bV,2,none⟩=some (.string bC):=(ah aZ.out 2).trans rfl
            have MD:Dy.cell? ⟨bV,3,none⟩=some (.string bI):=(ah aZ.out 3).trans rfl
            have ME:Dy.cell? ⟨bV,4,none⟩=some (.bool bJ):=(ah aZ.out 4).trans rfl
            have MF:=aa aZ.out 0
            have MG:=aa aZ.out 1
            have MH:=aa aZ.out 2
            have MI:=aa aZ.out 3
            have MJ:=aa aZ.out 4
            have MK:Dy.cell? ⟨eJ,0,none⟩=some (.bool false):=(ah dS.out 0).trans rfl
            have ML:Dy.cell? ⟨eJ,1,none⟩=some (.slice none 0 0):=(ah dS.out 1).trans rfl
            have MM:Dy.cell? ⟨eJ,2,none⟩=some (.string (⟨#[]⟩:ByteArray)):=(ah dS.out 2).trans rfl
            have MN:Dy.cell? ⟨eJ,3,none⟩=some (.string (⟨#[]⟩:ByteArray)):=(ah dS.out 3).trans rfl
            have MO:Dy.cell? ⟨eJ,4,none⟩=some (.bool false):=(ah dS.out 4).trans rfl
            have MP:=aa dS.out 0
            have MQ:=aa dS.out 1
            have MR:=aa dS.out 2
            have MS:=aa dS.out 3
            have MT:=aa dS.out 4
            go_wp2_with (first|(go_at_call 18;(with_reducible refine (aN.calls BF bD _ _ bG bC bI bJ kT _ _ kr lR l5 mN Du _ ?aX ?bL ?eF ?Bj A50.out).mono ?_);(case aX=>exact Kd.fR jK.out om);(case bL=>exact kF.out);(case eF=>refine (Kd.gy (e:=9) (base:=w.heap.size) (ok:=fun k_ =>True) (n:=kr.length) (c:=lQ) ?_).2.2;exact Ic);(case Bj=>exact (Kd.gy ru.out).2.1);rintro e w54 ⟨rfl,hb⟩;have fH:=af.mk (Kd.dD Ic hb);have fI:=af.mk (bq (g:=bV) (o:= .cells #[.bool bD,.slice cI bG.length cJ,.string bC,.string bI,.bool bJ] 32 (0,0)) Cr hb);have jI:=af.mk (bq (g:=eJ) (o:= .cells #[.bool kT,.slice lZ kr.length lQ,.string lR,.string l5,.bool mN] 32 (0,0)) Co hb);have kR:=af.mk (aH om hb);clear ru;clear aZ;clear dS;clear HB;have ru:=fH;have aZ:=fI;have dS:=jI;have HB:=kR;clear fH fI jI kR;(try clear hb);(try clear hb2);(try clear hk);(try clear hi)))
            go_meet
            case rel=>exact ⟨_,(!Du),dG,H',⟨ze⟩,⟨Em⟩,⟨iE⟩,⟨qG⟩,⟨om⟩⟩
           ·rw [if_neg c49] at H
            have Oh:(Dw == (dL.size:Int))=false:=beq_eq_false_iff_ne.mpr c49
            have Oi:(Dw != (dL.size:Int))=true:=bne_iff_ne.mpr c49
            have H':=af.mk H
            clear H
            go_wp2
            go_meet
            case rel=>exact ⟨_,(true),dG,H',⟨ze⟩,⟨H6⟩,⟨Cr⟩,⟨Co⟩,⟨om⟩⟩
          ·rw [if_neg Oe] at H
           have xS:(Dx == 0)=false:=beq_eq_false_iff_ne.mpr Oe
           have Og:(Dx != 0)=true:=bne_iff_ne.mpr Oe
           (first|rw [xS]|(simp only [cm,cw];rw [xS])|skip)
           have H':=af.mk H
           clear H
           go_wp2
           go_meet
           case rel=>exact ⟨_,(true),dG,H',⟨ze⟩,⟨H6⟩,⟨Cr⟩,⟨Co⟩,⟨om⟩⟩
         case rest=>
          clear Pd
          try clear c1
          try clear c2
          try clear p2
          try clear c3
          try clear c4
          try clear c5
          try clear p6
          try clear c8
          try clear qN
          try clear zz
          try clear c10
          try clear c12
          try clear c13
          try clear tE
          try clear xK
          try clear c15
          try clear vI
          try clear vJ
          try clear c17
          try clear AV
          try clear JG
          try clear JH
          try clear c19
          try clear c20
          try clear qA
          try clear c21
          try clear FN
          try clear JI
          try clear xO
          try clear Jr
          try clear N2
          try clear EN
          try clear EO
          try clear N3
          try clear N4
          try clear c28
          try clear xM
          try clear FD
          try clear JM
          try clear JJ
          try clear JK
          try clear JL
          try clear FT
          try clear c31
          try clear N7
          try clear N8
          try clear Pc
          try clear N9
          try clear Oa
          try clear rR
          try clear Ob
          try clear Oc
          try clear JN
          try clear c45
          try clear c46
          try clear c47
          try clear Oe
          try clear xS
          try clear Og
          try clear c49
          try clear Oh
          try clear Oi
          try clear c51
          try clear Mq
          try clear Mr
          try clear Ms
          try clear Mt
          try clear Mu
          try clear MA
          try clear MB
          try clear MC
          try clear MD
          try clear ME
          try clear MK
          try clear ML
          try clear MM
          try clear MN
          try clear MO
          try clear vL
          try clear vM
          try clear zU
          try clear zV
          try clear zW
          try clear nM
          try clear nN
          try clear vT
          try clear zJ
          try clear zK
          try clear Mv
          try clear Mw
          try clear Mx
          try clear My
          try clear Mz
          try clear MF
          try clear MG
          try clear MH
          try clear MI
          try clear MJ
          try clear MP
          try clear MQ
          try clear MR
          try clear MS
          try clear MT
          try clear vN
          try clear vO
          try clear zX
          try clear zY
          try clear zZ
          try clear nO
          try clear nP
          try clear vU
          try clear zL
          try clear zM
          try clear p2
          try clear p6
          obtain ⟨kq,z6,rfl,HA,ae5,dh,aZ,dS,HB⟩:=hcut
          cases kq with
          |zero=>exact absurd HA.out (by simp [av.j2])
          |succ rU=>
           have H:=HA.out
           clear HA
           simp only [av.j2] at H
           by_cases Xf:z6=true
           ·subst Xf
            have H1:(none)=some r:=by rw [if_pos rfl] at H;exact H
            clear H
            have H:=H1
            clear H1
            exact absurd H bB
           ·replace Xf:=Bool.eq_false_iff.mpr Xf
            subst Xf
            have H1:((eA.f bC).bind fun gJ=>((dK.f rU bD bG gJ bI bJ).bind fun tH=>(if tH.2=0 then (if ((tH.1.toList == dL.toList) == (gJ.toList == bC.toList))=true then ((br.f rU).bind fun xm=>(some xm)) else (some false)) else (if (false == (gJ.toList == bC.toList))=true then ((br.f rU).bind fun xp=>(some xp)) else (some false)))))=some r:=by rw [if_neg (show ¬ (false=true) by decide)] at H;exact H
            clear H
            have H:=H1
            clear H1
            replace H:=Option.bind_eq_some_iff.mp H
            obtain ⟨gJ,Rw,H⟩:=H
            replace H:((dK.f rU bD bG gJ bI bJ).bind fun tH=>(if tH.2=0 then (if ((tH.1.toList == dL.toList) == (gJ.toList == bC.toList))=true then ((br.f rU).bind fun xm=>(some xm)) else (some false)) else (if (false == (gJ.toList == bC.toList))=true then ((br.f rU).bind fun xp=>(some xp)) else (some false))))=some r:=H
            have Xg:=af.mk Rw
            clear Rw
            replace H:=Option.bind_eq_some_iff.mp H
            obtain ⟨⟨sN,xu⟩,Rx,H⟩:=H
            replace H:(if xu=0 then (if ((sN.toList == dL.toList) == (gJ.toList == bC.toList))=true then ((br.f rU).bind fun xm=>(some xm)) else (some false)) else (if (false == (gJ.toList == bC.toList))=true then ((br.f rU).bind fun xp=>(some xp)) else (some false)))=some r:=H
            have Xh:=af.mk Rx
            clear Rx
            by_cases Pe:xu=0
            ·rw [if_pos Pe] at H
             have Ry:(xu == 0)=true:=beq_iff_eq.mpr Pe
             have Rz:(xu != 0)=false:=bne_eq_false_iff_eq.mpr Pe
             clear Pe
             by_cases c59:((sN.toList == dL.toList) == (gJ.toList == bC.toList))=true
             ·rw [if_pos c59] at H
              have RA:((sN.toList == dL.toList) == (gJ.toList == bC.toList))=true:=c59
              (try (have RB:decide ((sN.toList == dL.toList)=(gJ.toList == bC.toList))=true:=by simpa using c59))
              (try (have RD:((sN.toList == dL.toList) == (gJ.toList == bC.toList))=true:=by simpa using c59))
              clear c59
              replace H:=Option.bind_eq_some_iff.mp H
              obtain ⟨xm,RF,H⟩:=H
              replace H:(some xm)=some r:=H
              have A60:=af.mk RF
              clear RF
              obtain rfl:=Option.some.inj H
              have adx:=iQ.out
              have ady:=mH.out
              have Xi:wc.cell? ⟨bV,0,none⟩=some (.bool bD):=(ah aZ.out 0).trans rfl
              have Xj:wc.cell? ⟨bV,1,none⟩=some (.slice cI bG.length cJ):=(ah aZ.out 1).trans rfl
              have Xk:wc.cell? ⟨bV,2,none⟩=some (.string bC):=(ah aZ.out 2).trans rfl
              have Xl:wc.cell? ⟨bV,3,none⟩=some (.string bI):=(ah aZ.out 3).trans rfl
              have Xm:wc.cell? ⟨bV,4,none⟩=some (.bool bJ):=(ah aZ.out 4).trans rfl
              have Xn:=aa aZ.out 0
              have Xo:=aa aZ.out 1
              have Xp:=aa aZ.out 2
              have Xq:=aa aZ.out 3
              have Xr:=aa aZ.out 4
              go_wp2_with (first|((with_reducible refine cU (N:=13) rfl ?_);(try (refine cW (by rfl) ?_;dsimp only));refine cL ?hg (N:=13) ?hd (cs:=#[.bool false,.slice none 0 0,.string (⟨#[]⟩:ByteArray),.string (⟨#[]⟩:ByteArray),.bool false]) (t:=32) ?hr ?_;(case hd=>rfl);(case hg=>rfl);(case hr=>first|(go_simp;done)|(go_simp;rfl));intro cu hg KA dg hb;have fH:=af.mk (Kd.dD sH hb);have fI:=af.mk (bq (g:=bV) (o:= .cells #[.bool bD,.slice cI bG.length cJ,.string bC,.string bI,.bool bJ] 32 (0,0)) iE hb);have jI:=af.mk (bq (g:=eJ) (o:= .cells #[.bool kT,.slice lZ kr.length lQ,.string lR,.string l5,.bool mN] 32 (0,0)) qG hb);have kR:=af.mk (aH om hb);have mZ:=af.mk (dg);have FV:=af.mk ((oW:w.heap.size≤cu));have FW:=af.mk ((oW:w.heap.size≤cu));have FX:=af.mk ((uS:bV≠cu));have JO:=af.mk ((uT:cu≠bV));have JP:=af.mk ((yP:eJ≠cu));have wm:=af.mk ((yQ:cu≠eJ));clear dh;clear aZ;clear dS;clear HB;have dh:=fH;have aZ:=fI;have dS:=jI;have HB:=kR;have bP:=mZ;have JQ:=FV;have Eb:=FW;have ig:=FX;have kY:=JO;have ij:=JP;have kZ:=wm;clear fH fI jI kR mZ FV FW FX JO JP wm;clear hb dg hg;have adz:=kY.out;have adA:=ig.out;have adB:=kZ.out;have adC:=ij.out;have Xt:KA.cell? ⟨cu,0,none⟩=some (.bool false):=(ah bP.out 0).trans rfl;have Xu:KA.cell? ⟨cu,1,none⟩=some (.slice none 0 0):=(ah bP.out 1).trans rfl;have Xv:KA.cell? ⟨cu,2,none⟩=some (.string (⟨#[]⟩:ByteArray)):=(ah bP.out 2).trans rfl;have Xw:KA.cell? ⟨cu,3,none⟩=some (.string (⟨#[]⟩:ByteArray)):=(ah bP.out 3).trans rfl;have Xx:KA.cell? ⟨cu,4,none⟩=some (.bool false):=(ah bP.out 4).trans rfl;have Xy:=aa bP.out 0;have Xz:=aa bP.out 1;have XA:=aa bP.out 2;have XB:=aa bP.out 3;have XC:=aa bP.out 4;have XD:KA.cell? ⟨bV,0,none⟩=some (.bool bD):=(ah aZ.out 0).trans rfl;have XE:KA.cell? ⟨bV,1,none⟩=some (.slice cI bG.length cJ):=(ah aZ.out 1).trans rfl;have XF:KA.cell? ⟨bV,2,none⟩=some (.string bC):=(ah aZ.out 2).trans rfl;have XG:KA.cell? ⟨bV,3,none⟩=some (.string bI):=(ah aZ.out 3).trans rfl;have XH:KA.cell? ⟨bV,4,none⟩=some (.bool bJ):=(ah aZ.out 4).trans rfl;have XI:=aa aZ.out 0;have XJ:=aa aZ.out 1;have XK:=aa aZ.out 2;have XL:=aa aZ.out 3;have XM:=aa aZ.out 4)|((with_reducible refine aU (f:=50) rfl ?_);refine bY (some 84) rfl rfl Tryz.func50 ay rfl #[.string bC] rfl cr ?_;(with_reducible refine (eA.calls bC gJ _ Xg.out).mono ?_);rintro e RG ⟨rfl,hb⟩;refine ⟨_,rfl,?_⟩;have fH:=af.mk (Kd.dD yN hb);have fI:=af.mk (bq (g:=bV) (o:= .cells #[.bool bD,.slice cI bG.length cJ,.string bC,.string bI,.bool bJ] 32 (0,0)) yL hb);have jI:=af.mk (bq (g:=eJ) (o:= .cells #[.bool kT,.slice lZ kr.length lQ,.string lR,.string l5,.bool mN] 32 (0,0)) yM hb);have kR:=af.mk (bq (g:=cu) (o:= .cells #[.bool bD,.slice cI bG.length cJ,.string bC,.string bI,.bool bJ] 32 (0,0)) yK hb);have mZ:=af.mk (aH jk hb);clear dh;clear aZ;clear dS;clear bP;clear HB;have dh:=fH;have aZ:=fI;have dS:=jI;have bP:=kR;have HB:=mZ;clear fH fI jI kR mZ;(try clear hb);(try clear hb2);(try clear hk);(try clear hi);have XN:RG.cell? ⟨cu,0,none⟩=some (.bool bD):=(ah bP.out 0).trans rfl;have XO:RG.cell? ⟨cu,1,none⟩=some (.slice cI bG.length cJ):=(ah bP.out 1).trans rfl;have XP:RG.cell? ⟨cu,2,none⟩=some (.string bC):=(ah bP.out 2).trans rfl;have XQ:RG.cell? ⟨cu,3,none⟩=some (.string bI):=(ah bP.out 3).trans rfl;have XR:RG.cell? ⟨cu,4,none⟩=some (.bool bJ):=(ah bP.out 4).trans rfl;have XS:=aa bP.out 0;have XT:=aa bP.out 1;have XU:=aa bP.out 2;have XV:=aa bP.out 3;have XW:=aa bP.out 4)|((with_reducible refine aU (f:=21) rfl ?_);refine bY (some 89) rfl rfl Tryz.func21 ay rfl #[.agg #[.bool bD,.slice cI bG.length cJ,.string gJ,.string bI,.bool bJ]] rfl cr ?_;(with_reducible refine (dK.calls rU bD _ _ bG gJ bI bJ sN xu _ ?aX ?bL ?eF Xh.out).mono ?_);(case aX=>exact Kd.fR jK.out jk);(case bL=>exact kF.out);(case eF=>exact aQ.below HG.out jk);rintro e KB ⟨rfl,hb⟩;refine ⟨_,rfl,?_⟩;have fH:=af.mk (Kd.dD yU hb);have fI:=af.mk (bq (g:=bV) (o:= .cells #[.bool bD,.slice cI bG.length cJ,.string bC,.string bI,.bool bJ] 32 (0,0)) yS hb);have jI:=af.mk (bq (g:=eJ) (o:= .cells #[.bool kT,.slice lZ kr.length lQ,.string lR,.string l5,.bool mN] 32 (0,0)) yT hb);have kR:=af.mk (bq (g:=cu) (o:= .cells #[.bool bD,.slice cI bG.length cJ,.string gJ,.string bI,.bool bJ] 32 (0,0)) yO hb);have mZ:=af.mk (aH jk hb);clear dh;clear aZ;clear dS;clear bP;clear HB;have dh:=fH;have aZ:=fI;have dS:=jI;have bP:=kR;have HB:=mZ;clear fH fI jI kR mZ;(try clear hb);(try clear hb2);(try clear hk);(try clear hi);have XX:KB.cell? ⟨cu,0,none⟩=some (.bool bD):=(ah bP.out 0).trans rfl;have XY:KB.cell? ⟨cu,1,none⟩=some (.slice cI bG.length cJ):=(ah bP.out 1).trans rfl;have XZ:KB.cell? ⟨cu,2,none⟩=some (.string gJ):=(ah bP.out 2).trans rfl;have X0:KB.cell? ⟨cu,3,none⟩=some (.string bI):=(ah bP.out 3).trans rfl;have X3:KB.cell? ⟨cu,4,none⟩=some (.bool bJ):=(ah bP.out 4).trans rfl;have X4:=aa bP.out 0;have X5:=aa bP.out 1;have X6:=aa bP.out 2;have X7:=aa bP.out 3;have X8:=aa bP.out 4;have X9:KB.cell? ⟨bV,0,none⟩=some (.bool bD):=(ah aZ.out 0).trans rfl;have Ya:KB.cell? ⟨bV,1,none⟩=some (.slice cI bG.length cJ):=(ah aZ.out 1).trans rfl;have Yb:KB.cell? ⟨bV,2,none⟩=some (.string bC):=(ah aZ.out 2).trans rfl;have Yc:KB.cell? ⟨bV,3,none⟩=some (.string bI):=(ah aZ.out 3).trans rfl;have Yd:KB.cell? ⟨bV,4,none⟩=some (.bool bJ):=(ah aZ.out 4).trans rfl;have Ye:=aa aZ.out 0;have Yf:=aa aZ.out 1;have Yg:=aa aZ.out 2;have Yh:=aa aZ.out 3;have Yi:=aa aZ.out 4)|(go_at_call 19;(with_reducible refine (br.calls rU xm _ ?aX A60.out).mono ?_);(case aX=>exact aQ.below HG.out jk);rintro e w73 ⟨rfl,hb⟩;have fH:=af.mk (Kd.dD sH hb);have fI:=af.mk (bq (g:=bV) (o:= .cells #[.bool bD,.slice cI bG.length cJ,.string bC,.string bI,.bool bJ] 32 (0,0)) iE hb);have jI:=af.mk (bq (g:=eJ) (o:= .cells #[.bool kT,.slice lZ kr.length lQ,.string lR,.string l5,.bool mN] 32 (0,0)) qG hb);have kR:=af.mk (bq (g:=cu) (o:= .cells #[.bool bD,.slice cI bG.length cJ,.string gJ,.string bI,.bool bJ] 32 (0,0)) Ej hb);have mZ:=af.mk (aH jk hb);clear dh;clear aZ;clear dS;clear bP;clear HB;have dh:=fH;have aZ:=fI;have dS:=jI;have bP:=kR;have HB:=mZ;clear fH fI jI kR mZ;(try clear hb);(try clear hb2);(try clear hk);(try clear hi)))
              go_ret
              exact ⟨cM,jk⟩
             ·rw [if_neg c59] at H
              have RA:((sN.toList == dL.toList) == (gJ.toList == bC.toList))=false:=by simpa using c59
              (try (have RB:decide ((sN.toList == dL.toList)=(gJ.toList == bC.toList))=false:=by simpa using c59))
              (try (have RD:((sN.toList == dL.toList) == (gJ.toList == bC.toList))=false:=by simpa using c59))
              (try (have adD: ¬ ((sN.toList == dL.toList)=(gJ.toList == bC.toList)):=by simpa using c59))
              clear c59
              obtain rfl:=Option.some.inj H
              have adE:=iQ.out
              have adF:=mH.out
              have Yj:wc.cell? ⟨bV,0,none⟩=some (.bool bD):=(ah aZ.out 0).trans rfl
              have Yk:wc.cell? ⟨bV,1,none⟩=some (.slice cI bG.length cJ):=(ah aZ.out 1).trans rfl
              have Yl:wc.cell? ⟨bV,2,none⟩=some (.string bC):=(ah aZ.out 2).trans rfl
              have Ym:wc.cell? ⟨bV,3,none⟩=some (.string bI):=(ah aZ.out 3).trans rfl
              have Yn:wc.cell? ⟨bV,4,none⟩=some (.bool bJ):=(ah aZ.out 4).trans rfl
              have Yo:=aa aZ.out 0
              have Yp:=aa aZ.out 1
              have Yq:=aa aZ.out 2
              have Yr:=aa aZ.out 3
              have Yt:=aa aZ.out 4
              go_wp2_with (first|((with_reducible refine cU (N:=13) rfl ?_);(try (refine cW (by rfl) ?_;dsimp only));refine cL ?hg (N:=13) ?hd (cs:=#[.bool false,.slice none 0 0,.string (⟨#[]⟩:ByteArray),.string (⟨#[]⟩:ByteArray),.bool false]) (t:=32) ?hr ?_;(case hd=>rfl);(case hg=>rfl);(case hr=>first|(go_simp;done)|(go_simp;rfl));intro cu hg KD dg hb;have fH:=af.mk (Kd.dD sH hb);have fI:=af.mk (bq (g:=bV) (o:= .cells #[.bool bD,.slice cI bG.length cJ,.string bC,.string bI,.bool bJ] 32 (0,0)) iE hb);have jI:=af.mk (bq (g:=eJ) (o:= .cells #[.bool kT,.slice lZ kr.length lQ,.string lR,.string l5,.bool mN] 32 (0,0)) qG hb);have kR:=af.mk (aH om hb);have mZ:=af.mk (dg);have FV:=af.mk ((oW:w.heap.size≤cu));have FW:=af.mk ((oW:w.heap.size≤cu));have FX:=af.mk ((uS:bV≠cu));have JO:=af.mk ((uT:cu≠bV));have JP:=af.mk ((yP:eJ≠cu));have wm:=af.mk ((yQ:cu≠eJ));clear dh;clear aZ;clear dS;clear HB;have dh:=fH;have aZ:=fI;have dS:=jI;have HB:=kR;have bP:=mZ;have JQ:=FV;have Eb:=FW;have ig:=FX;have kY:=JO;have ij:=JP;have kZ:=wm;clear fH fI jI kR mZ FV FW FX JO JP wm;clear hb dg hg;have adG:=kY.out;have adH:=ig.out;have adI:=kZ.out;have adJ:=ij.out;have Yu:KD.cell? ⟨cu,0,none⟩=some (.bool false):=(ah bP.out 0).trans rfl;have Yv:KD.cell? ⟨cu,1,none⟩=some (.slice none 0 0):=(ah bP.out 1).trans rfl;have Yw:KD.cell? ⟨cu,2,none⟩=some (.string (⟨#[]⟩:ByteArray)):=(ah bP.out 2).trans rfl;have Yx:KD.cell? ⟨cu,3,none⟩=some (.string (⟨#[]⟩:ByteArray)):=(ah bP.out 3).trans rfl;have Yy:KD.cell? ⟨cu,4,none⟩=some (.bool false):=(ah bP.out 4).trans rfl;have Yz:=aa bP.out 0;have YA:=aa bP.out 1;have YB:=aa bP.out 2;have YC:=aa bP.out 3;have YD:=aa bP.out 4;have YE:KD.cell? ⟨bV,0,none⟩=some (.bool bD):=(ah aZ.out 0).trans rfl;have YF:KD.cell? ⟨bV,1,none⟩=some (.slice cI bG.length cJ):=(ah aZ.out 1).trans rfl;have YG:KD.cell? ⟨bV,2,none⟩=some (.string bC):=(ah aZ.out 2).trans rfl;have YH:KD.cell? ⟨bV,3,none⟩=some (.string bI):=(ah aZ.out 3).trans rfl;have YI:KD.cell? ⟨bV,4,none⟩=some (.bool bJ):=(ah aZ.out 4).trans rfl;have YJ:=aa aZ.out 0;have YK:=aa aZ.out 1;have YL:=aa aZ.out 2;have YM:=aa aZ.out 3;have YN:=aa aZ.out 4)|((with_reducible refine aU (f:=50) rfl ?_);refine bY (some 84) rfl rfl Tryz.func50 ay rfl #[.string bC] rfl cr ?_;(with_reducible refine (eA.calls bC gJ _ Xg.out).mono ?_);rintro e RH ⟨rfl,hb⟩;refine ⟨_,rfl,?_⟩;have fH:=af.mk (Kd.dD yN hb);have fI:=af.mk (bq (g:=bV) (o:= .cells #[.bool bD,.slice cI bG.length cJ,.string bC,.string bI,.bool bJ] 32 (0,0)) yL hb);have jI:=af.mk (bq (g:=eJ) (o:= .cells #[.bool kT,.slice lZ kr.length lQ,.string lR,.string l5,.bool mN] 32 (0,0)) yM hb);have kR:=af.mk (bq (g:=cu) (o:= .cells #[.bool bD,.slice cI bG.length cJ,.string bC,.string bI,.bool bJ] 32 (0,0)) yK hb);have mZ:=af.mk (aH jk hb);clear dh;clear aZ;clear dS;clear bP;clear HB;have dh:=fH;have aZ:=fI;have dS:=jI;have bP:=kR;have HB:=mZ;clear fH fI jI kR mZ;(try clear hb);(try clear hb2);(try clear hk);(try clear hi);have YO:RH.cell? ⟨cu,0,none⟩=some (.bool bD):=(ah bP.out 0).trans rfl;have YP:RH.cell? ⟨cu,1,none⟩=some (.slice cI bG.length cJ):=(ah bP.out 1).trans rfl;have YQ:RH.cell? ⟨cu,2,none⟩=some (.string bC):=(ah bP.out 2).trans rfl;have YR:RH.cell? ⟨cu,3,none⟩=some (.string bI):=(ah bP.out 3).trans rfl;have YS:RH.cell? ⟨cu,4,none⟩=some (.bool bJ):=(ah bP.out 4).trans rfl;have YT:=aa bP.out 0;have YU:=aa bP.out 1;have YV:=aa bP.out 2;have YW:=aa bP.out 3;have YX:=aa bP.out 4)|((with_reducible refine aU (f:=21) rfl ?_);refine bY (some 89) rfl rfl Tryz.func21 ay rfl #[.agg #[.bool bD,.slice cI bG.length cJ,.string gJ,.string bI,.bool bJ]] rfl cr ?_;(with_reducible refine (dK.calls rU bD _ _ bG gJ bI bJ sN xu _ ?aX ?bL ?eF Xh.out).mono ?_);(case aX=>exact Kd.fR jK.out jk);(case bL=>exact kF.out);(case eF=>exact aQ.below HG.out jk);rintro e KE ⟨rfl,hb⟩;refine ⟨_,rfl,?_⟩;have fH:=af.mk (Kd.dD yU hb);have fI:=af.mk (bq (g:=bV) (o:= .cells #[.bool bD,.slice cI bG.length cJ,.string bC,.string bI,.bool bJ] 32 (0,0)) yS hb);have jI:=af.mk (bq (g:=eJ) (o:= .cells #[.bool kT,.slice lZ kr.length lQ,.string lR,.string l5,.bool mN] 32 (0,0)) yT hb);have kR:=af.mk (bq (g:=cu) (o:= .cells #[.bool bD,.slice cI bG.length cJ,.string gJ,.string bI,.bool bJ] 32 (0,0)) yO hb);have mZ:=af.mk (aH jk hb);clear dh;clear aZ;clear dS;clear bP;clear HB;have dh:=fH;have aZ:=fI;have dS:=jI;have bP:=kR;have HB:=mZ;clear fH fI jI kR mZ;(try clear hb);(try clear hb2);(try clear hk);(try clear hi);have YY:KE.cell? ⟨cu,0,none⟩=some (.bool bD):=(ah bP.out 0).trans rfl;have YZ:KE.cell? ⟨cu,1,none⟩=some (.slice cI bG.length cJ):=(ah bP.out 1).trans rfl;have Y0:KE.cell? ⟨cu,2,none⟩=some (.string gJ):=(ah bP.out 2).trans rfl;have Y1:KE.cell? ⟨cu,3,none⟩=some (.string bI):=(ah bP.out 3).trans rfl;have Y2:KE.cell? ⟨cu,4,none⟩=some (.bool bJ):=(ah bP.out 4).trans rfl;have Y3:=aa bP.out 0;have Y4:=aa bP.out 1;have Y5:=aa bP.out 2;have Y6:=aa bP.out 3;have Y7:=aa bP.out 4;have Y8:KE.cell? ⟨bV,0,none⟩=some (.bool bD):=(ah aZ.out 0).trans rfl;have Y9:KE.cell? ⟨bV,1,none⟩=some (.slice cI bG.length cJ):=(ah aZ.out 1).trans rfl;have Za:KE.cell? ⟨bV,2,none⟩=some (.string bC):=(ah aZ.out 2).trans rfl;have Zb:KE.cell? ⟨bV,3,none⟩=some (.string bI):=(ah aZ.out 3).trans rfl;have Zc:KE.cell? ⟨bV,4,none⟩=some (.bool bJ):=(ah aZ.out 4).trans rfl;have Zd:=aa aZ.out 0;have Ze:=aa aZ.out 1;have Zf:=aa aZ.out 2;have Zg:=aa aZ.out 3;have Zh:=aa aZ.out 4))
              go_ret
              exact ⟨cM,jk⟩
            ·rw [if_neg Pe] at H
             have Ry:(xu == 0)=false:=beq_eq_false_iff_ne.mpr Pe
             have Rz:(xu != 0)=true:=bne_iff_ne.mpr Pe
             by_cases JR:(false == (gJ.toList == bC.toList))=true
             ·rw [if_pos JR] at H
              have RI:(false == (gJ.toList == bC.toList))=true:=JR
              (try (have RJ:decide (false=(gJ.toList == bC.toList))=true:=by simpa using JR))
              (try (have RL:(false == (gJ.toList == bC.toList))=true:=by simpa using JR))
              clear JR
              replace H:=Option.bind_eq_some_iff.mp H
              obtain ⟨xp,RM,H⟩:=H
              replace H:(some xp)=some r:=H
              have A87:=af.mk RM
              clear RM
              obtain rfl:=Option.some.inj H
              have adK:=iQ.out
              have adL:=mH.out
              have Zi:wc.cell? ⟨bV,0,none⟩=some (.bool bD):=(ah aZ.out 0).trans rfl
              have Zj:wc.cell? ⟨bV,1,none⟩=some (.slice cI bG.length cJ):=(ah aZ.out 1).trans rfl
              have Zk:wc.cell? ⟨bV,2,none⟩=some (.string bC):=(ah aZ.out 2).trans rfl
              have Zl:wc.cell? ⟨bV,3,none⟩=some (.string bI):=(ah aZ.out 3).trans rfl
              have Zm:wc.cell? ⟨bV,4,none⟩=some (.bool bJ):=(ah aZ.out 4).trans rfl
              have Zn:=aa aZ.out 0
              have Zo:=aa aZ.out 1
              have Zp:=aa aZ.out 2
              have Zq:=aa aZ.out 3
              have Zr:=aa aZ.out 4
              go_wp2_with (first|((with_reducible refine cU (N:=13) rfl ?_);(try (refine cW (by rfl) ?_;dsimp only));refine cL ?hg (N:=13) ?hd (cs:=#[.bool false,.slice none 0 0,.string (⟨#[]⟩:ByteArray),.string (⟨#[]⟩:ByteArray),.bool false]) (t:=32) ?hr ?_;(case hd=>rfl);(case hg=>rfl);(case hr=>first|(go_simp;done)|(go_simp;rfl));intro cu hg KF dg hb;have fH:=af.mk (Kd.dD sH hb);have fI:=af.mk (bq (g:=bV) (o:= .cells #[.bool bD,.slice cI bG.length cJ,.string bC,.string bI,.bool bJ] 32 (0,0)) iE hb);have jI:=af.mk (bq (g:=eJ) (o:= .cells #[.bool kT,.slice lZ kr.length lQ,.string lR,.string l5,.bool mN] 32 (0,0)) qG hb);have kR:=af.mk (aH om hb);have mZ:=af.mk (dg);have FV:=af.mk ((oW:w.heap.size≤cu));have FW:=af.mk ((oW:w.heap.size≤cu));have FX:=af.mk ((uS:bV≠cu));have JO:=af.mk ((uT:cu≠bV));have JP:=af.mk ((yP:eJ≠cu));have wm:=af.mk ((yQ:cu≠eJ));clear dh;clear aZ;clear dS;clear HB;have dh:=fH;have aZ:=fI;have dS:=jI;have HB:=kR;have bP:=mZ;have JQ:=FV;have Eb:=FW;have ig:=FX;have kY:=JO;have ij:=JP;have kZ:=wm;clear fH fI jI kR mZ FV FW FX JO JP wm;clear hb dg hg;have adM:=kY.out;have adN:=ig.out;have adO:=kZ.out;have adP:=ij.out;have Zt:KF.cell? ⟨cu,0,none⟩=some (.bool false):=(ah bP.out 0).trans rfl;have Zu:KF.cell? ⟨cu,1,none⟩=some (.slice none 0 0):=(ah bP.out 1).trans rfl;have Zv:KF.cell? ⟨cu,2,none⟩=some (.string (⟨#[]⟩:ByteArray)):=(ah bP.out 2).trans rfl;have Zw:KF.cell? ⟨cu,3,none⟩=some (.string (⟨#[]⟩:ByteArray)):=(ah bP.out 3).trans rfl;have Zx:KF.cell? ⟨cu,4,none⟩=some (.bool false):=(ah bP.out 4).trans rfl;have Zy:=aa bP.out 0;have Zz:=aa bP.out 1;have ZA:=aa bP.out 2;have ZB:=aa bP.out 3;have ZC:=aa bP.out 4;have ZE:KF.cell? ⟨bV,0,none⟩=some (.bool bD):=(ah aZ.out 0).trans rfl;have ZF:KF.cell? ⟨bV,1,none⟩=some (.slice cI bG.length cJ):=(ah aZ.out 1).trans rfl;have ZG:KF.cell? ⟨bV,2,none⟩=some (.string bC):=(ah aZ.out 2).trans rfl;have ZH:KF.cell? ⟨bV,3,none⟩=some (.string bI):=(ah aZ.out 3).trans rfl;have ZI:KF.cell? ⟨bV,4,none⟩=some (.bool bJ):=(ah aZ.out 4).trans rfl;have ZJ:=aa aZ.out 0;have ZK:=aa aZ.out 1;have ZL:=aa aZ.out 2;have ZM:=aa aZ.out 3;have ZN:=aa aZ.out 4)|((with_reducible refine aU (f:=50) rfl ?_);refine bY (some 84) rfl rfl Tryz.func50 ay rfl #[.string bC] rfl cr ?_;(with_reducible refine (eA.calls bC gJ _ Xg.out).mono ?_);rintro e RN ⟨rfl,hb⟩;refine ⟨_,rfl,?_⟩;have fH:=af.mk (Kd.dD yN hb);have fI:=af.mk (bq (g:=bV) (o:= .cells #[.bool bD,.slice cI bG.length cJ,.string bC,.string bI,.bool bJ] 32 (0,0)) yL hb);have jI:=af.mk (bq (g:=eJ) (o:= .cells #[.bool kT,.slice lZ kr.length lQ,.string lR,.string l5,.bool mN] 32 (0,0)) yM hb);have kR:=af.mk (bq (g:=cu) (o:= .cells #[.bool bD,.slice cI bG.length cJ,.string bC,.string bI,.bool bJ] 32 (0,0)) yK hb);have mZ:=af.mk (aH jk hb);clear dh;clear aZ;clear dS;clear bP;clear HB;have dh:=fH;have aZ:=fI;have dS:=jI;have bP:=kR;have HB:=mZ;clear fH fI jI kR mZ;(try clear hb);(try clear hb2);(try clear hk);(try clear hi);have ZO:RN.cell? ⟨cu,0,none⟩=some (.bool bD):=(ah bP.out 0).trans rfl;have ZP:RN.cell? ⟨cu,1,none⟩=some (.slice cI bG.length cJ):=(ah bP.out 1).trans rfl;have ZQ:RN.cell? ⟨cu,2,none⟩=some (.string bC):=(ah bP.out 2).trans rfl;have ZR:RN.cell? ⟨cu,3,none⟩=some (.string bI):=(ah bP.out 3).trans rfl;have ZT:RN.cell? ⟨cu,4,none⟩=some (.bool bJ):=(ah bP.out 4).trans rfl;have ZU:=aa bP.out 0;have ZV:=aa bP.out 1;have ZW:=aa bP.out 2;have ZX:=aa bP.out 3;have ZY:=aa bP.out 4)|((with_reducible refine aU (f:=21) rfl ?_);refine bY (some 89) rfl rfl Tryz.func21 ay rfl #[.agg #[.bool bD,.slice cI bG.length cJ,.string gJ,.string bI,.bool bJ]] rfl cr ?_;(with_reducible refine (dK.calls rU bD _ _ bG gJ bI bJ sN xu _ ?aX ?bL ?eF Xh.out).mono ?_);(case aX=>exact Kd.fR jK.out jk);(case bL=>exact kF.out);(case eF=>exact aQ.below HG.out jk);rintro e KG ⟨rfl,hb⟩;refine ⟨_,rfl,?_⟩;have fH:=af.mk (Kd.dD yU hb);have fI:=af.mk (bq (g:=bV) (o:= .cells #[.bool bD,.slice cI bG.length cJ,.string bC,.string bI,.bool bJ] 32 (0,0)) yS hb);have jI:=af.mk (bq (g:=eJ) (o:= .cells #[.bool kT,.slice lZ kr.length lQ,.string lR,.string l5,.bool mN] 32 (0,0)) yT hb);have kR:=af.mk (bq (g:=cu) (o:= .cells #[.bool bD,.slice cI bG.length cJ,.string gJ,.string bI,.bool bJ] 32 (0,0)) yO hb);have mZ:=af.mk (aH jk hb);clear dh;clear aZ;clear dS;clear bP;clear HB;have dh:=fH;have aZ:=fI;have dS:=jI;have bP:=kR;have HB:=mZ;clear fH fI jI kR mZ;(try clear hb);(try clear hb2);(try clear hk);(try clear hi);have ZZ:KG.cell? ⟨cu,0,none⟩=some (.bool bD):=(ah bP.out 0).trans rfl;have Z0:KG.cell? ⟨cu,1,none⟩=some (.slice cI bG.length cJ):=(ah bP.out 1).trans rfl;have Z1:KG.cell? ⟨cu,2,none⟩=some (.string gJ):=(ah bP.out 2).trans rfl;have Z2:KG.cell? ⟨cu,3,none⟩=some (.string bI):=(ah bP.out 3).trans rfl;have Z3:KG.cell? ⟨cu,4,none⟩=some (.bool bJ):=(ah bP.out 4).trans rfl;have Z4:=aa bP.out 0;have Z5:=aa bP.out 1;have Z6:=aa bP.out 2;have Z7:=aa bP.out 3;have Z8:=aa bP.out 4;have Z9:KG.cell? ⟨bV,0,none⟩=some (.bool bD):=(ah aZ.out 0).trans rfl;have aaa:KG.cell? ⟨bV,1,none⟩=some (.slice cI bG.length cJ):=(ah aZ.out 1).trans rfl;have aab:KG.cell? ⟨bV,2,none⟩=some (.string bC):=(ah aZ.out 2).trans rfl;have aac:KG.cell? ⟨bV,3,none⟩=some (.string bI):=(ah aZ.out 3).trans rfl;have aad:KG.cell? ⟨bV,4,none⟩=some (.bool bJ):=(ah aZ.out 4).trans rfl;have aae:=aa aZ.out 0;have aaf:=aa aZ.out 1;have aag:=aa aZ.out 2;have aah:=aa aZ.out 3;have aai:=aa aZ.out 4)|(go_at_call 19;(with_reducible refine (br.calls rU xp _ ?aX A87.out).mono ?_);(case aX=>exact aQ.below HG.out jk);rintro e ae8 ⟨rfl,hb⟩;have fH:=af.mk (Kd.dD sH hb);have fI:=af.mk (bq (g:=bV) (o:= .cells #[.bool bD,.slice cI bG.length cJ,.string bC,.string bI,.bool bJ] 32 (0,0)) iE hb);have jI:=af.mk (bq (g:=eJ) (o:= .cells #[.bool kT,.slice lZ kr.length lQ,.string lR,.string l5,.bool mN] 32 (0,0)) qG hb);have kR:=af.mk (bq (g:=cu) (o:= .cells #[.bool bD,.slice cI bG.length cJ,.string gJ,.string bI,.bool bJ] 32 (0,0)) Ej hb);have mZ:=af.mk (aH jk hb);clear dh;clear aZ;clear dS;clear bP;clear HB;have dh:=fH;have aZ:=fI;have dS:=jI;have bP:=kR;have HB:=mZ;clear fH fI jI kR mZ;(try clear hb);(try clear hb2);(try clear hk);(try clear hi)))
              go_ret
              exact ⟨cM,jk⟩
             ·rw [if_neg JR] at H
              have RI:(false == (gJ.toList == bC.toList))=false:=by simpa using JR
              (try (have RJ:decide (false=(gJ.toList == bC.toList))=false:=by simpa using JR))
              (try (have RL:(false == (gJ.toList == bC.toList))=false:=by simpa using JR))
              (try (have adQ: ¬ (false=(gJ.toList == bC.toList)):=by simpa using JR))
              clear JR
              obtain rfl:=Option.some.inj H
              have abn:=iQ.out
              have abo:=mH.out
              have RO:wc.cell? ⟨bV,0,none⟩=some (.bool bD):=(ah aZ.out 0).trans rfl
              have RP:wc.cell? ⟨bV,1,none⟩=some (.slice cI bG.length cJ):=(ah aZ.out 1).trans rfl
              have RQ:wc.cell? ⟨bV,2,none⟩=some (.string bC):=(ah aZ.out 2).trans rfl
              have RR:wc.cell? ⟨bV,3,none⟩=some (.string bI):=(ah aZ.out 3).trans rfl
              have RS:wc.cell? ⟨bV,4,none⟩=some (.bool bJ):=(ah aZ.out 4).trans rfl
              have RT:=aa aZ.out 0
              have RU:=aa aZ.out 1
              have RV:=aa aZ.out 2
              have RX:=aa aZ.out 3
              have RY:=aa aZ.out 4
              go_wp2_with (first|((with_reducible refine cU (N:=13) rfl ?_);(try (refine cW (by rfl) ?_;dsimp only));refine cL ?hg (N:=13) ?hd (cs:=#[.bool false,.slice none 0 0,.string (⟨#[]⟩:ByteArray),.string (⟨#[]⟩:ByteArray),.bool false]) (t:=32) ?hr ?_;(case hd=>rfl);(case hg=>rfl);(case hr=>first|(go_simp;done)|(go_simp;rfl));intro cu hg xw dg hb;have fH:=af.mk (Kd.dD sH hb);have fI:=af.mk (bq (g:=bV) (o:= .cells #[.bool bD,.slice cI bG.length cJ,.string bC,.string bI,.bool bJ] 32 (0,0)) iE hb);have jI:=af.mk (bq (g:=eJ) (o:= .cells #[.bool kT,.slice lZ kr.length lQ,.string lR,.string l5,.bool mN] 32 (0,0)) qG hb);have kR:=af.mk (aH om hb);have mZ:=af.mk (dg);have FV:=af.mk ((oW:w.heap.size≤cu));have FW:=af.mk ((oW:w.heap.size≤cu));have FX:=af.mk ((uS:bV≠cu));have JO:=af.mk ((uT:cu≠bV));have JP:=af.mk ((yP:eJ≠cu));have wm:=af.mk ((yQ:cu≠eJ));clear dh;clear aZ;clear dS;clear HB;have dh:=fH;have aZ:=fI;have dS:=jI;have HB:=kR;have bP:=mZ;have JQ:=FV;have Eb:=FW;have ig:=FX;have kY:=JO;have ij:=JP;have kZ:=wm;clear fH fI jI kR mZ FV FW FX JO JP wm;clear hb dg hg;have abp:=kY.out;have abq:=ig.out;have abr:=kZ.out;have abt:=ij.out;have RZ:xw.cell? ⟨cu,0,none⟩=some (.bool false):=(ah bP.out 0).trans rfl;have R3:xw.cell? ⟨cu,1,none⟩=some (.slice none 0 0):=(ah bP.out 1).trans rfl;have R4:xw.cell? ⟨cu,2,none⟩=some (.string (⟨#[]⟩:ByteArray)):=(ah bP.out 2).trans rfl;have R5:xw.cell? ⟨cu,3,none⟩=some (.string (⟨#[]⟩:ByteArray)):=(ah bP.out 3).trans rfl;have R6:xw.cell? ⟨cu,4,none⟩=some (.bool false):=(ah bP.out 4).trans rfl;have R7:=aa bP.out 0;have R8:=aa bP.out 1;have R9:=aa bP.out 2;have Sa:=aa bP.out 3;have Sb:=aa bP.out 4;have Sc:xw.cell? ⟨bV,0,none⟩=some (.bool bD):=(ah aZ.out 0).trans rfl;have Sd:xw.cell? ⟨bV,1,none⟩=some (.slice cI bG.length cJ):=(ah aZ.out 1).trans rfl;have Sg:xw.cell? ⟨bV,2,none⟩=some (.string bC):=(ah aZ.out 2).trans rfl;have Sh:xw.cell? ⟨bV,3,none⟩=some (.string bI):=(ah aZ.out 3).trans rfl;have Si:xw.cell? ⟨bV,4,none⟩=some (.bool bJ):=(ah aZ.out 4).trans rfl;have Sj:=aa aZ.out 0;have Sk:=aa aZ.out 1;have Sl:=aa aZ.out 2;have Sm:=aa aZ.out 3;have Sn:=aa aZ.out 4)|((with_reducible refine aU (f:=50) rfl ?_);refine bY (some 84) rfl rfl Tryz.func50 ay rfl #[.string bC] rfl cr ?_;(with_reducible refine (eA.calls bC gJ _ Xg.out).mono ?_);rintro e JS ⟨rfl,hb⟩;refine ⟨_,rfl,?_⟩;have fH:=af.mk (Kd.dD yN hb);have fI:=af.mk (bq (g:=bV) (o:= .cells #[.bool bD,.slice cI bG.length cJ,.string bC,.string bI,.bool bJ] 32 (0,0)) yL hb);have jI:=af.mk (bq (g:=eJ) (o:= .cells #[.bool kT,.slice lZ kr.length lQ,.string lR,.string l5,.bool mN] 32 (0,0)) yM hb);have kR:=af.mk (bq (g:=cu) (o:= .cells #[.bool bD,.slice cI bG.length cJ,.string bC,.string bI,.bool bJ] 32 (0,0)) yK hb);have mZ:=af.mk (aH jk hb);clear dh;clear aZ;clear dS;clear bP;clear HB;have dh:=fH;have aZ:=fI;have dS:=jI;have bP:=kR;have HB:=mZ;clear fH fI jI kR mZ;(try clear hb);(try clear hb2);(try clear hk);(try clear hi);have Sp:JS.cell? ⟨cu,0,none⟩=some (.bool bD):=(ah bP.out 0).trans rfl;have Sq:JS.cell? ⟨cu,1,none⟩=some (.slice cI bG.length cJ):=(ah bP.out 1).trans rfl;have Sr:JS.cell? ⟨cu,2,none⟩=some (.string bC):=(ah bP.out 2).trans rfl;have Ss:JS.cell? ⟨cu,3,none⟩=some (.string bI):=(ah bP.out 3).trans rfl;have Su:JS.cell? ⟨cu,4,none⟩=some (.bool bJ):=(ah bP.out 4).trans rfl;have Sv:=aa bP.out 0;have Sw:=aa bP.out 1;have Sy:=aa bP.out 2;have Sz:=aa bP.out 3;have SA:=aa bP.out 4)|((with_reducible refine aU (f:=21) rfl ?_);refine bY (some 89) rfl rfl Tryz.func21 ay rfl #[.agg #[.bool bD,.slice cI bG.length cJ,.string gJ,.string bI,.bool bJ]] rfl cr ?_;(with_reducible refine (dK.calls rU bD _ _ bG gJ bI bJ sN xu _ ?aX ?bL ?eF Xh.out).mono ?_);(case aX=>exact Kd.fR jK.out jk);(case bL=>exact kF.out);(case eF=>exact aQ.below HG.out jk);rintro e xx ⟨rfl,hb⟩;refine ⟨_,rfl,?_⟩;have fH:=af.mk (Kd.dD yU hb);have fI:=af.mk (bq (g:=bV) (o:= .cells #[.bool bD,.slice cI bG.length cJ,.string bC,.string bI,.bool bJ] 32 (0,0)) yS hb);have jI:=af.mk (bq (g:=eJ) (o:= .cells #[.bool kT,.slice lZ kr.length lQ,.string lR,.string l5,.bool mN] 32 (0,0)) yT hb);have kR:=af.mk (bq (g:=cu) (o:= .cells #[.bool bD,.slice cI bG.length cJ,.string gJ,.string bI,.bool bJ] 32 (0,0)) yO hb);have mZ:=af.mk (aH jk hb);clear dh;clear aZ;clear dS;clear bP;clear HB;have dh:=fH;have aZ:=fI;have dS:=jI;have bP:=kR;have HB:=mZ;clear fH fI jI kR mZ;(try clear hb);(try clear hb2);(try clear hk);(try clear hi);have SB:xx.cell? ⟨cu,0,none⟩=some (.bool bD):=(ah bP.out 0).trans rfl;have SC:xx.cell? ⟨cu,1,none⟩=some (.slice cI bG.length cJ):=(ah bP.out 1).trans rfl;have SD:xx.cell? ⟨cu,2,none⟩=some (.string gJ):=(ah bP.out 2).trans rfl;have SE:xx.cell? ⟨cu,3,none⟩=some (.string bI):=(ah bP.out 3).trans rfl;have SF:xx.cell? ⟨cu,4,none⟩=some (.bool bJ):=(ah bP.out 4).trans rfl;have SG:=aa bP.out 0;have SH:=aa bP.out 1;have SI:=aa bP.out 2;have SJ:=aa bP.out 3;have SK:=aa bP.out 4;have SL:xx.cell? ⟨bV,0,none⟩=some (.bool bD):=(ah aZ.out 0).trans rfl;have SM:xx.cell? ⟨bV,1,none⟩=some (.slice cI bG.length cJ):=(ah aZ.out 1).trans rfl;have SN:xx.cell? ⟨bV,2,none⟩=some (.string bC):=(ah aZ.out 2).trans rfl;have SP:xx.cell? ⟨bV,3,none⟩=some (.string bI):=(ah aZ.out 3).trans rfl;have SQ:xx.cell? ⟨bV,4,none⟩=some (.bool bJ):=(ah aZ.out 4).trans rfl;have SR:=aa aZ.out 0;have SS:=aa aZ.out 1;have SU:=aa aZ.out 2;have SV:=aa aZ.out 3;have SX:=aa aZ.out 4))
              go_ret
              exact ⟨cM,jk⟩
      ·rw [if_neg c17] at H
       exact absurd H bB
     ·rw [if_neg c15] at H
      exact absurd H bB
end Go.Proofs.YtokpnfljjjjikaaGreatDoor.lO
