import Derived.Test.YtokpnfljjjjikaaGreatDoorQPtx9
import Derived.Test.YtokpnfljjjjikaaGreatDoorWRepsOne
set_option maxHeartbeats 8000000
set_option maxRecDepth 100000
namespace Go.Proofs.YtokpnfljjjjikaaGreatDoor.lO
open Go.RowKit Go.Proofs.YtokpnfljjjjikaaGreatDoor.sL Go.Proofs.aj.bw Go.Proofs.aj.eU Go.Proofs.aj.cj
attribute [local go_sem] gL gM iL iM fZ gf gP gQ
set_option linter.unusedVariables false
set_option linter.unusedSimpArgs false
def br.l0:Nat→List ByteArray→Int→Int→Option (Bool)
 | 0,_,_,_ =>none
 |k + 1,x6,x7,x8=>if x8 < x7 then (if 0≤x8 then (if x8 < (x6.length:Int) then ((bM.f k (jv ByteArray.empty x6 x8)).bind fun vV=>(if vV.2.2.2.2.2.2=150 then (if vV.2.2.2.2.2.1=0 then ((aN.f k vV.1 vV.2.1 vV.2.2.1 vV.2.2.2.1 vV.2.2.2.2.1 false ([]:List ByteArray) (⟨#[]⟩:ByteArray) (⟨#[]⟩:ByteArray) false).bind fun t252=>(if t252=true then (br.l0 k x6 x7 (wrap64 (x8 + 1))) else (none))) else (none)) else (none))) else (none)) else (none)) else ((bU.f k (⟨#[60,65,46,98,64,88,45,49,46,79,114,103,62]⟩:ByteArray) false ([]:List ByteArray) (⟨#[65,46,98]⟩:ByteArray) (⟨#[120,45,49,46,111,114,103]⟩:ByteArray) false).bind fun t253=>(if t253=true then ((bU.f k (⟨#[60,34,97,92,34,98,32,99,34,64,91,49,50,55,46,48,46,48,46,49,93,62]⟩:ByteArray) false ([]:List ByteArray) (⟨#[97,34,98,32,99]⟩:ByteArray) (⟨#[49,50,55,46,48,46,48,46,49]⟩:ByteArray) true).bind fun t254=>(if t254=true then ((bU.f k (⟨#[60,64,97,46,98,44,64,67,58,100,64,101,62]⟩:ByteArray) false (([(⟨#[97,46,98]⟩:ByteArray),(⟨#[99]⟩:ByteArray)]:List ByteArray)) (⟨#[100]⟩:ByteArray) (⟨#[101]⟩:ByteArray) false).bind fun t258=>(if t258=true then ((bU.f k (⟨#[60,62]⟩:ByteArray) true ([]:List ByteArray) (⟨#[]⟩:ByteArray) (⟨#[]⟩:ByteArray) false).bind fun t259=>(if t259=true then ((bU.f k (⟨#[60,80,111,115,116,109,97,115,116,101,114,62]⟩:ByteArray) false ([]:List ByteArray) (⟨#[112,111,115,116,109,97,115,116,101,114]⟩:ByteArray) (⟨#[]⟩:ByteArray) false).bind fun t260=>(some t260)) else (none))) else (none))) else (none))) else (none)))
def br.f (k:Nat):Option (Bool):=(some (([(⟨#[60,97,64,98]⟩:ByteArray),(⟨#[60,97,46,46,98,64,99,62]⟩:ByteArray),(⟨#[60,97,64,45,98,62]⟩:ByteArray),(⟨#[60,97,64,98,95,62]⟩:ByteArray),(⟨#[60,97,64,91,49,46,50,46,51,93,62]⟩:ByteArray),(⟨#[60,32,97,64,98,62]⟩:ByteArray),(⟨#[]⟩:ByteArray)]:List ByteArray):List ByteArray)).bind fun pN=>(br.l0 k pN (pN.length:Int) 0)
theorem br.eD:∀ k,(∀ y0 y1 y2,bZ (br.l0 k y0 y1 y2) (br.l0 (k + 1) y0 y1 y2))
 | 0=>fun _ _ _ r h=>by simp [br.l0] at h
 |k + 1=>by
  have iJ:=br.eD k
  ·intro y0 y1 y2
   unfold br.l0
   repeat' first
   |(with_reducible first|exact iJ _ _ _|exact aN.mono _ _ _ _ _ _ _ _ _ _ _|exact bU.mono _ _ _ _ _ _ _|exact bM.mono _ _|exact bZ.refl _|exact bZ.none _|refine bZ.ite ?_ ?_|refine bZ.bind ?_ (fun _ =>?_))
   |exact iJ _ _ _
   |exact aN.mono _ _ _ _ _ _ _ _ _ _ _
   |exact bU.mono _ _ _ _ _ _ _
   |exact bM.mono _ _
   |exact bZ.none _
   |refine bZ.ite ?_ ?_
   |refine bZ.bind ?_ (fun _ =>?_)
theorem br.mono:∀ k,bZ (br.f k) (br.f (k + 1)):=by
 intro k
 have iJ:=br.eD k
 unfold br.f
 repeat' first
  |(with_reducible first|exact iJ _ _ _|exact aN.mono _ _ _ _ _ _ _ _ _ _ _|exact bU.mono _ _ _ _ _ _ _|exact bM.mono _ _|exact bZ.refl _|exact bZ.none _|refine bZ.ite ?_ ?_|refine bZ.bind ?_ (fun _ =>?_))
  |exact iJ _ _ _
  |exact aN.mono _ _ _ _ _ _ _ _ _ _ _
  |exact bU.mono _ _ _ _ _ _ _
  |exact bM.mono _ _
  |exact bZ.none _
  |refine bZ.ite ?_ ?_
  |refine bZ.bind ?_ (fun _ =>?_)
theorem br.calls (k:Nat) (r:Bool) (w:World) (hG:aQ w) (h:br.f k=some r):
 Calls Tryz.prog 19 #[] w fun e w'=>e= .returned (.bool r)∧Below w.heap.size w w':=by
 have Dh:=Tryz.underlying32
 have Bf:=Tryz.underlying30
 have HB:=af.mk (Below.refl w.heap.size w)
 have HG:=af.mk hG
 clear hG
 have H:((some (([(⟨#[60,97,64,98]⟩:ByteArray),(⟨#[60,97,46,46,98,64,99,62]⟩:ByteArray),(⟨#[60,97,64,45,98,62]⟩:ByteArray),(⟨#[60,97,64,98,95,62]⟩:ByteArray),(⟨#[60,97,64,91,49,46,50,46,51,93,62]⟩:ByteArray),(⟨#[60,32,97,64,98,62]⟩:ByteArray),(⟨#[]⟩:ByteArray)]:List ByteArray):List ByteArray)).bind fun pN=>(br.l0 k pN (pN.length:Int) 0))=some r:=h
 clear h
 obtain ⟨pN,Bk⟩:∃ y_:List ByteArray,y_=(([(⟨#[60,97,64,98]⟩:ByteArray),(⟨#[60,97,46,46,98,64,99,62]⟩:ByteArray),(⟨#[60,97,64,45,98,62]⟩:ByteArray),(⟨#[60,97,64,98,95,62]⟩:ByteArray),(⟨#[60,97,64,91,49,46,50,46,51,93,62]⟩:ByteArray),(⟨#[60,32,97,64,98,62]⟩:ByteArray),(⟨#[]⟩:ByteArray)]:List ByteArray)):=⟨_,rfl⟩
 replace H:(br.l0 k pN (pN.length:Int) 0)=some r:=by first|(rw [Bk];with_reducible exact H)|(have C9:=(Option.bind_some _ _).symm.trans H;rw [Bk];with_reducible exact C9)|(have C9:=(Option.bind_some _ _).symm.trans H;with_reducible exact C9)|with_reducible exact H|(rw [Bk];exact H)|exact H
 have NM:=af.mk Bk
 clear Bk
 have H':=af.mk H
 clear H
 go_enter Tryz.func19,Tryz.ntmps19
 go_wp2_with (first|((with_reducible refine cU (N:=6) rfl ?_);(try (refine cW (by rfl) ?_;dsimp only));refine Kd.Nj Kd.string _ 9 ?hg (N:=6) ?hd (xs:=([(⟨#[60,97,64,98]⟩:ByteArray),(⟨#[60,97,46,46,98,64,99,62]⟩:ByteArray),(⟨#[60,97,64,45,98,62]⟩:ByteArray),(⟨#[60,97,64,98,95,62]⟩:ByteArray),(⟨#[60,97,64,91,49,46,50,46,51,93,62]⟩:ByteArray),(⟨#[60,32,97,64,98,62]⟩:ByteArray),(⟨#[]⟩:ByteArray)]:List ByteArray)) (inner:=[.string (⟨#[60,97,64,98]⟩:ByteArray),.string (⟨#[60,97,46,46,98,64,99,62]⟩:ByteArray),.string (⟨#[60,97,64,45,98,62]⟩:ByteArray),.string (⟨#[60,97,64,98,95,62]⟩:ByteArray),.string (⟨#[60,97,64,91,49,46,50,46,51,93,62]⟩:ByteArray),.string (⟨#[60,32,97,64,98,62]⟩:ByteArray),.string (⟨#[]⟩:ByteArray)]) (ok:=fun _ =>True) (CL:=fun _ =>True) ?hr ?hp (fun _ hk=>hk) trivial (Below.refl _ _) (Nat.le_refl _) bB ?_;(case hd=>rfl);(case hg=>rfl);(case hr=>first|(go_simp;done)|(go_simp;rfl));(case hp=>exact (eX.one (show Kd.M Kd.string _ _ _ (⟨#[60,97,64,98]⟩:ByteArray) [.string (⟨#[60,97,64,98]⟩:ByteArray)] from rfl) (eX.one (show Kd.M Kd.string _ _ _ (⟨#[60,97,46,46,98,64,99,62]⟩:ByteArray) [.string (⟨#[60,97,46,46,98,64,99,62]⟩:ByteArray)] from rfl) (eX.one (show Kd.M Kd.string _ _ _ (⟨#[60,97,64,45,98,62]⟩:ByteArray) [.string (⟨#[60,97,64,45,98,62]⟩:ByteArray)] from rfl) (eX.one (show Kd.M Kd.string _ _ _ (⟨#[60,97,64,98,95,62]⟩:ByteArray) [.string (⟨#[60,97,64,98,95,62]⟩:ByteArray)] from rfl) (eX.one (show Kd.M Kd.string _ _ _ (⟨#[60,97,64,91,49,46,50,46,51,93,62]⟩:ByteArray) [.string (⟨#[60,97,64,91,49,46,50,46,51,93,62]⟩:ByteArray)] from rfl) (eX.one (show Kd.M Kd.string _ _ _ (⟨#[60,32,97,64,98,62]⟩:ByteArray) [.string (⟨#[60,32,97,64,98,62]⟩:ByteArray)] from rfl) (eX.one (show Kd.M Kd.string _ _ _ (⟨#[]⟩:ByteArray) [.string (⟨#[]⟩:ByteArray)] from rfl) (eX.none _ _)))))))));intro aeC w1 QS hb hg_ Js;clear hg_ Js;(first|rw [← NM.out] at QS|(simp only [Int.reduceToNat] at QS;rw [← NM.out] at QS));have NN:=af.mk (Kd.lu QS (fy bS));replace HB:=af.mk (aH bS hb);clear hb QS;obtain ⟨Ao3,co3,eo3⟩:=Kd.jm NN.out;subst eo3))
 go_loopg [8] k (fun kq v8 w'=>∃ (fE:Int),v8= .int .i64 fE∧af (br.l0 kq pN (pN.length:Int) fE=some r)∧af (kq≤k)∧af (Kd.R Kd.string 9 w' w.heap.size (fun _ =>True) (.slice Ao3 pN.length co3) pN)∧af (Below w.heap.size w w'))
 case atStart=>exact ⟨(0),dG,H',⟨Nat.le_refl _⟩,⟨by (with_reducible repeat (first|apply Kd.fB|apply Kd.fC|apply Kd.gz));exact NN.out⟩,⟨bS⟩⟩
 case round=>
  clear H'
  obtain ⟨fE,rfl,HA,sI,ju,HB⟩:=hrel
  cases gk with
  |zero=>exact absurd HA.out (by simp [br.l0])
  |succ k1=>
   have H:=HA.out
   clear HA
   simp only [br.l0] at H
   by_cases c4:fE < (pN.length:Int)
   ·rw [if_pos c4] at H
    have nj:=decide_eq_true c4
    clear c4
    obtain ⟨c5,H⟩:=jA H
    have pG:=decide_eq_true c5
    clear c5
    obtain ⟨c6,H⟩:=jA H
    have qo:=decide_eq_true c6
    clear c6
    obtain ⟨⟨t242,t243,t246,t247,t248,t249,t250⟩,A7,H⟩:=bd_ H
    (try dsimp only at H)
    obtain ⟨c8,H⟩:=jA H
    have qN:=beq_iff_eq.mpr c8
    have zz:=bne_eq_false_iff_eq.mpr c8
    clear c8
    obtain ⟨c9,H⟩:=jA H
    have K6:=beq_iff_eq.mpr c9
    have OD:=bne_eq_false_iff_eq.mpr c9
    clear c9
    obtain ⟨t252,A10,H⟩:=bd_ H
    by_cases c11:t252=true
    ·subst c11
     rw [if_pos rfl] at H
     have H':=af.mk H
     clear H
     have OX: 0≤(fE:Int):=of_decide_eq_true cE
     have OY:fE < (pN.length:Int):=of_decide_eq_true cE
     obtain ⟨QT,aaT,VL⟩:=Kd.gB (Kd.gy ju.out).2.2 fE OX OY
     cases aaT
     replace OX:=eq_true OX
     replace OY:=eq_true OY
     go_wp2_with (first|((with_reducible refine aU (f:=17) rfl ?_);refine bY (some 14) rfl rfl Tryz.func17 ay rfl #[.string (jv ByteArray.empty pN fE)] rfl cr ?_;(with_reducible refine (bM.calls k1 (jv ByteArray.empty pN fE) t242 t243 t246 t247 t248 t249 t250 _ ?aX A7.out).mono ?_);(case aX=>exact aQ.below HG.out bS);rintro e Hq ⟨aeF,rfl,ho0,hb⟩;refine ⟨_,rfl,?_⟩;have xE:=af.mk (Kd.lu (Kd.Iz ho0 (Kd.PY nL)) (fy bS));replace ju:=af.mk (Kd.Ap nL (Kd.Ix ho0) hb);replace HB:=af.mk (aH bS hb);(try clear hb);(try clear ho0))|((with_reducible refine cU (N:=3) rfl ?_);(try (refine cW (by rfl) ?_;dsimp only));refine cL ?hg (N:=3) ?hd (cs:=#[.bool false,.slice none 0 0,.string (⟨#[]⟩:ByteArray),.string (⟨#[]⟩:ByteArray),.bool false]) (t:=32) ?hr ?_;(case hd=>rfl);(case hg=>rfl);(case hr=>first|(go_simp;done)|(go_simp;rfl));intro kP hg CX dg hb;replace ju:=af.mk (Kd.dD nL hb);replace xE:=af.mk (Kd.dD (by (with_reducible repeat (first|apply Kd.fB|apply Kd.fC|apply Kd.gz));exact xE.out) hb);have nk:=af.mk (dg);have acQ:=af.mk ((eo:w.heap.size≤kP));have PX:=af.mk ((eo:w.heap.size≤kP));replace HB:=af.mk (aH bS hb);clear hb dg hg;have EF:CX.cell? ⟨kP,0,none⟩=some (.bool false):=(ah nk.out 0).trans rfl;have EG:CX.cell? ⟨kP,1,none⟩=some (.slice none 0 0):=(ah nk.out 1).trans rfl;have L6:CX.cell? ⟨kP,2,none⟩=some (.string (⟨#[]⟩:ByteArray)):=(ah nk.out 2).trans rfl;have L8:CX.cell? ⟨kP,3,none⟩=some (.string (⟨#[]⟩:ByteArray)):=(ah nk.out 3).trans rfl;have L9:CX.cell? ⟨kP,4,none⟩=some (.bool false):=(ah nk.out 4).trans rfl;have EH:=aa nk.out 0;have EI:=aa nk.out 1;have Ma:=aa nk.out 2;have Mb:=aa nk.out 3;have Mc:=aa nk.out 4;obtain ⟨Gm,Cu,aaU⟩:=Kd.jm xE.out;subst aaU)|(go_at_call 18;(refine (aN.calls k1 t242 _ _ t243 t246 t247 t248 false _ _ ([]:List ByteArray) (⟨#[]⟩:ByteArray) (⟨#[]⟩:ByteArray) false true _ ?aX ?bL ?eF ?Bj A10.out).mono ?_);(case aX=>refine (Kd.gy (e:=9) (base:=w.heap.size) (ok:=fun k_ =>(True∧some k_≠(.slice (some QT) pN.length co3:Value).ownBlock)) (n:=t243.length) (c:=Cu) ?_).2.2;exact Ib);(case bL=>exact (Kd.gy xE.out).2.1);(case eF=>exact Kd.xG _ _);(case Bj=>exact Nat.le_refl _);rintro e w16 ⟨rfl,hb⟩;replace ju:=af.mk (Kd.dD (by (with_reducible repeat (first|apply Kd.fB|apply Kd.fC|apply Kd.gz));exact (Kd.fA (Kd.dY (p:=⟨kP,4,none⟩) (Kd.dY (p:=⟨kP,3,none⟩) (Kd.dY (p:=⟨kP,2,none⟩) (Kd.dY (p:=⟨kP,1,none⟩) (Kd.dY (p:=⟨kP,0,none⟩) (Kd.kA ju.out nk.out bg) (fun _ hk=>hk.2) (.bool t242)) (fun _ hk=>hk.2) (.slice Gm t243.length Cu)) (fun _ hk=>hk.2) (.string t246)) (fun _ hk=>hk.2) (.string t247)) (fun _ hk=>hk.2) (.bool t248)) (fun _ h_ =>h_.1))) hb);replace xE:=af.mk (Kd.dD Ib hb);replace nk:=af.mk (bq (g:=kP) (o:= .cells #[.bool t242,.slice Gm t243.length Cu,.string t246,.string t247,.bool t248] 32 (0,0)) (by (with_reducible repeat (first|refine aR ?_ _|refine aY ?_|refine aM ?_ _));refine cF (cs:=#[.bool t242,.slice Gm t243.length Cu,.string t246,.string t247,.bool false]) ?_ 4 _ rfl;(with_reducible repeat (first|refine aR ?_ _|refine aY ?_|refine aM ?_ _));refine cF (cs:=#[.bool t242,.slice Gm t243.length Cu,.string t246,.string (⟨#[]⟩:ByteArray),.bool false]) ?_ 3 _ rfl;(with_reducible repeat (first|refine aR ?_ _|refine aY ?_|refine aM ?_ _));refine cF (cs:=#[.bool t242,.slice Gm t243.length Cu,.string (⟨#[]⟩:ByteArray),.string (⟨#[]⟩:ByteArray),.bool false]) ?_ 2 _ rfl;(with_reducible repeat (first|refine aR ?_ _|refine aY ?_|refine aM ?_ _));refine cF (cs:=#[.bool t242,.slice none 0 0,.string (⟨#[]⟩:ByteArray),.string (⟨#[]⟩:ByteArray),.bool false]) ?_ 1 _ rfl;(with_reducible repeat (first|refine aR ?_ _|refine aY ?_|refine aM ?_ _));refine cF (cs:=#[.bool false,.slice none 0 0,.string (⟨#[]⟩:ByteArray),.string (⟨#[]⟩:ByteArray),.bool false]) ?_ 0 _ rfl;(with_reducible repeat (first|refine aR ?_ _|refine aY ?_|refine aM ?_ _));exact nk.out) hb);replace HB:=af.mk (aH Ed hb);(try clear hb);(try clear hk)))
     go_roundg k1
     case measure=>have:=sI.out;omega
     case rel=>exact ⟨(wrap64 (fE + 1)),dG,H',⟨kV⟩,⟨by (with_reducible repeat (first|apply Kd.fB|apply Kd.fC|apply Kd.gz));exact Kd.fA ju.out (fun _ hk=>trivial)⟩,⟨Ed⟩⟩
    ·replace c11:=Bool.eq_false_iff.mpr c11
     subst c11
     rw [if_neg (show ¬ (false=true) by decide)] at H
     exact absurd H bB
   ·rw [if_neg c4] at H
    have nj:=decide_eq_false c4
    clear c4
    obtain ⟨t253,VM,H⟩:=bd_ H
    by_cases c18:t253=true
    ·subst c18
     rw [if_pos rfl] at H
     obtain ⟨t254,A19,H⟩:=bd_ H
     by_cases c20:t254=true
     ·subst c20
      rw [if_pos rfl] at H
      obtain ⟨QU,Bl⟩:∃ y_:List ByteArray,y_=(([(⟨#[97,46,98]⟩:ByteArray),(⟨#[99]⟩:ByteArray)]:List ByteArray)):=⟨_,rfl⟩
      replace H:((bU.f k1 (⟨#[60,64,97,46,98,44,64,67,58,100,64,101,62]⟩:ByteArray) false QU (⟨#[100]⟩:ByteArray) (⟨#[101]⟩:ByteArray) false).bind fun t258=>(if t258=true then ((bU.f k1 (⟨#[60,62]⟩:ByteArray) true ([]:List ByteArray) (⟨#[]⟩:ByteArray) (⟨#[]⟩:ByteArray) false).bind fun t259=>(if t259=true then ((bU.f k1 (⟨#[60,80,111,115,116,109,97,115,116,101,114,62]⟩:ByteArray) false ([]:List ByteArray) (⟨#[112,111,115,116,109,97,115,116,101,114]⟩:ByteArray) (⟨#[]⟩:ByteArray) false).bind fun t260=>(some t260)) else (none))) else (none)))=some r:=by first|(rw [Bl];with_reducible exact H)|(have C9:=(Option.bind_some _ _).symm.trans H;rw [Bl];with_reducible exact C9)|(have C9:=(Option.bind_some _ _).symm.trans H;with_reducible exact C9)|with_reducible exact H|(rw [Bl];exact H)|exact H
      have NP:=af.mk Bl
      clear Bl
      obtain ⟨t258,A21,H⟩:=bd_ H
      by_cases xO:t258=true
      ·subst xO
       rw [if_pos rfl] at H
       obtain ⟨t259,VN,H⟩:=bd_ H
       by_cases c24:t259=true
       ·subst c24
        rw [if_pos rfl] at H
        obtain ⟨t260,VO,H⟩:=bd_ H
        obtain rfl:=Option.some.inj H
        go_wp2_with (first|((with_reducible refine aU (f:=62) rfl ?_);refine bY (some 33) rfl rfl Tryz.func62 ay rfl #[.string (⟨#[60,65,46,98,64,88,45,49,46,79,114,103,62]⟩:ByteArray),.agg #[.bool false,.slice none 0 0,.string (⟨#[65,46,98]⟩:ByteArray),.string (⟨#[120,45,49,46,111,114,103]⟩:ByteArray),.bool false]] rfl cr ?_;(refine (bU.calls k1 (⟨#[60,65,46,98,64,88,45,49,46,79,114,103,62]⟩:ByteArray) false _ _ ([]:List ByteArray) (⟨#[65,46,98]⟩:ByteArray) (⟨#[120,45,49,46,111,114,103]⟩:ByteArray) false true _ ?aX ?bL ?eF VM.out).mono ?_);(case aX=>exact Kd.xG _ _);(case bL=>exact Nat.le_refl _);(case eF=>exact aQ.below HG.out bS);rintro e Lr ⟨rfl,hb⟩;refine ⟨_,rfl,?_⟩;replace ju:=af.mk (Kd.dD nL hb);replace HB:=af.mk (aH bS hb);(try clear hb))|(go_at_call 62;guard_target=Calls _ _ #[.string (⟨#[60,34,97,92,34,98,32,99,34,64,91,49,50,55,46,48,46,48,46,49,93,62]⟩:ByteArray),_] _ _;(refine (bU.calls k1 (⟨#[60,34,97,92,34,98,32,99,34,64,91,49,50,55,46,48,46,48,46,49,93,62]⟩:ByteArray) false _ _ ([]:List ByteArray) (⟨#[97,34,98,32,99]⟩:ByteArray) (⟨#[49,50,55,46,48,46,48,46,49]⟩:ByteArray) true true _ ?aX ?bL ?eF A19.out).mono ?_);(case aX=>exact Kd.xG _ _);(case bL=>exact Nat.le_refl _);(case eF=>exact aQ.below HG.out bS);rintro e w27 ⟨rfl,hb⟩;replace ju:=af.mk (Kd.dD nL hb);replace HB:=af.mk (aH bS hb);(try clear hb))|((with_reducible refine cU (N:=40) rfl ?_);(try (refine cW (by rfl) ?_;dsimp only));refine Kd.Nj Kd.string _ 9 ?hg (N:=40) ?hd (xs:=([(⟨#[97,46,98]⟩:ByteArray),(⟨#[99]⟩:ByteArray)]:List ByteArray)) (inner:=[.string (⟨#[97,46,98]⟩:ByteArray),.string (⟨#[99]⟩:ByteArray)]) (ok:=fun _ =>True) (CL:=fun _ =>True) ?hr ?hp (fun _ hk=>hk) trivial (Below.refl _ _) (Nat.le_refl _) bB ?_;(case hd=>rfl);(case hg=>rfl);(case hr=>first|(go_simp;done)|(go_simp;rfl));(case hp=>exact (eX.one (show Kd.M Kd.string _ _ _ (⟨#[97,46,98]⟩:ByteArray) [.string (⟨#[97,46,98]⟩:ByteArray)] from rfl) (eX.one (show Kd.M Kd.string _ _ _ (⟨#[99]⟩:ByteArray) [.string (⟨#[99]⟩:ByteArray)] from rfl) (eX.none _ _))));intro aeH w28 GD hb hg_ Js;clear hg_ Js;(first|rw [← NP.out] at GD|(simp only [Int.reduceToNat] at GD;rw [← NP.out] at GD));have uX:=af.mk (Kd.lu (Kd.Iz GD (Kd.PY nL)) (fy bS));replace ju:=af.mk (Kd.Ap nL (Kd.Ix GD) hb);replace HB:=af.mk (aH bS hb);clear hb GD;obtain ⟨aeI,aeJ,aaW⟩:=Kd.jm uX.out;subst aaW)|(go_at_call 62;(with_reducible refine (bU.calls k1 (⟨#[60,64,97,46,98,44,64,67,58,100,64,101,62]⟩:ByteArray) false _ _ QU (⟨#[100]⟩:ByteArray) (⟨#[101]⟩:ByteArray) false true _ ?aX ?bL ?eF A21.out).mono ?_);(case aX=>repeat (first|exact (Kd.gy uX.out).2.2|(with_reducible refine Kd.gu ?_ _)|(with_reducible refine Kd.gv ?_ _)|(with_reducible refine Kd.iB ?_)));(case bL=>exact (Kd.gy uX.out).2.1);(case eF=>exact aQ.below HG.out bS);rintro e OZ ⟨rfl,hb⟩;replace ju:=af.mk (Kd.dD nL hb);replace uX:=af.mk (Kd.dD CD hb);replace HB:=af.mk (aH bS hb);(try clear hb))|(go_at_call 62;guard_target=Calls _ _ #[.string (⟨#[60,62]⟩:ByteArray),_] _ _;(refine (bU.calls k1 (⟨#[60,62]⟩:ByteArray) true _ _ ([]:List ByteArray) (⟨#[]⟩:ByteArray) (⟨#[]⟩:ByteArray) false true _ ?aX ?bL ?eF VN.out).mono ?_);(case aX=>exact Kd.xG _ _);(case bL=>exact Nat.le_refl _);(case eF=>exact aQ.below HG.out bS);rintro e Gz ⟨rfl,hb⟩;replace ju:=af.mk (Kd.dD nL hb);replace uX:=af.mk (Kd.dD CD hb);replace HB:=af.mk (aH bS hb);(try clear hb))|(go_at_call 62;guard_target=Calls _ _ #[.string (⟨#[60,80,111,115,116,109,97,115,116,101,114,62]⟩:ByteArray),_] _ _;(refine (bU.calls k1 (⟨#[60,80,111,115,116,109,97,115,116,101,114,62]⟩:ByteArray) false _ _ ([]:List ByteArray) (⟨#[112,111,115,116,109,97,115,116,101,114]⟩:ByteArray) (⟨#[]⟩:ByteArray) false t260 _ ?aX ?bL ?eF VO.out).mono ?_);(case aX=>exact Kd.xG _ _);(case bL=>exact Nat.le_refl _);(case eF=>exact aQ.below HG.out bS);rintro e OH ⟨rfl,hb⟩;replace ju:=af.mk (Kd.dD nL hb);replace uX:=af.mk (Kd.dD CD hb);replace HB:=af.mk (aH bS hb);(try clear hb)))
        go_ret
        exact ⟨cM,bS⟩
       ·replace c24:=Bool.eq_false_iff.mpr c24
        subst c24
        rw [if_neg (show ¬ (false=true) by decide)] at H
        exact absurd H bB
      ·replace xO:=Bool.eq_false_iff.mpr xO
       subst xO
       rw [if_neg (show ¬ (false=true) by decide)] at H
       exact absurd H bB
     ·replace c20:=Bool.eq_false_iff.mpr c20
      subst c20
      rw [if_neg (show ¬ (false=true) by decide)] at H
      exact absurd H bB
    ·replace c18:=Bool.eq_false_iff.mpr c18
     subst c18
     rw [if_neg (show ¬ (false=true) by decide)] at H
     exact absurd H bB
def gZ.f (k:Nat) (a0:ByteArray):Option (Bool):=(bH.f k a0 0).bind fun Bn=>(if Bn.2.1=true then (if Bn.2.2.2=(a0.size:Int) then ((dJ.f k a0).bind fun t266=>(some t266)) else (some false)) else (some false))
theorem gZ.calls (k:Nat) (a0:ByteArray) (r:Bool) (w:World) (hG:aQ w) (h:gZ.f k a0=some r):
 Calls Tryz.prog 25 #[.string a0] w fun e w'=>e= .returned (.bool r)∧Below w.heap.size w w':=by
 have aaK:=Tryz.underlying82
 have HB:=af.mk (Below.refl w.heap.size w)
 have HG:=af.mk hG
 clear hG
 have H:((bH.f k a0 0).bind fun Bn=>(if Bn.2.1=true then (if Bn.2.2.2=(a0.size:Int) then ((dJ.f k a0).bind fun t266=>(some t266)) else (some false)) else (some false)))=some r:=h
 clear h
 obtain ⟨⟨t262,t263,t264,t265⟩,A2,H⟩:=bd_ H
 (try dsimp only at H)
 by_cases c3:t263=true
 ·subst c3
  rw [if_pos rfl] at H
  by_cases c4:t265=(a0.size:Int)
  ·rw [if_pos c4] at H
   have nj:=beq_iff_eq.mpr c4
   have IK:=bne_eq_false_iff_eq.mpr c4
   clear c4
   obtain ⟨t266,A5,H⟩:=bd_ H
   obtain rfl:=Option.some.inj H
   go_enter Tryz.func25,Tryz.ntmps25
   go_wp2_with (first|((with_reducible refine cU (N:=8) rfl ?_);(try (refine cW (by rfl) ?_;dsimp only));refine cL ?hg (N:=8) ?hd (cs:=#[.string a0,.int .i64 0]) (t:=82) ?hr ?_;(case hd=>rfl);(case hg=>rfl);(case hr=>first|(go_simp;done)|(go_simp;rfl));intro lK hg w6 dg hb;have jZ:=af.mk ((⟨dg,eo⟩:aq w w6 lK a0 0));have NQ:=af.mk ((eo:w.heap.size≤lK));have NR:=af.mk ((eo:w.heap.size≤lK));replace HB:=af.mk (aH bS hb);clear hb dg hg)|((with_reducible refine aU (f:=80) rfl ?_);refine bY (some 11) rfl rfl Tryz.func80 ay rfl #[.pointer (some ⟨lK,0,none⟩)] rfl cr ?_;(with_reducible refine (bH.calls k lK a0 0 t262 true t264 t265 w _ ?aX ?bL A2.out).mono ?_);(case aX=>repeat (first|(with_reducible first|exact jZ.out|apply aq.alloc|apply aq.drewN|apply aq.drew|apply aq.dR|apply aq.dQ)|exact jZ.out));(case bL=>repeat (first|(with_reducible first|exact HB.out|apply aJ|apply aK|apply aW|refine bn ?_ (aq.ge jZ.out))|exact HB.out));rintro e w7 ⟨rfl,hi,hb,hk⟩;refine ⟨_,rfl,?_⟩;replace HB:=af.mk (hb);replace jZ:=af.mk (hi);(try clear hb);(try clear hk);(try clear hi);obtain ⟨vB,OB⟩:=jZ.out;have vC:=cH vB;have vD:=cG vB;have vE:=aa vB 0;have vF:=aa vB 1;clear vB OB)|(go_at_call 61;(with_reducible refine (dJ.calls k a0 t266 _ ?aX A5.out).mono ?_);(case aX=>exact aQ.below HG.out uU);rintro e w9 ⟨rfl,hb⟩;replace HB:=af.mk (aH uU hb);replace jZ:=af.mk (aq.below (by repeat (first|(with_reducible first|exact jZ.out|apply aq.alloc|apply aq.drewN|apply aq.drew|apply aq.dR|apply aq.dQ)|exact jZ.out)) hb);(try clear hb)))
   go_ret
   exact ⟨cM,uU⟩
  ·rw [if_neg c4] at H
   have nj:=beq_eq_false_iff_ne.mpr c4
   have IK:=bne_iff_ne.mpr c4
   obtain rfl:=Option.some.inj H
   go_enter Tryz.func25,Tryz.ntmps25
   go_wp2_with (first|((with_reducible refine cU (N:=8) rfl ?_);(try (refine cW (by rfl) ?_;dsimp only));refine cL ?hg (N:=8) ?hd (cs:=#[.string a0,.int .i64 0]) (t:=82) ?hr ?_;(case hd=>rfl);(case hg=>rfl);(case hr=>first|(go_simp;done)|(go_simp;rfl));intro lK hg sB dg hb;have jZ:=af.mk ((⟨dg,eo⟩:aq w sB lK a0 0));have NQ:=af.mk ((eo:w.heap.size≤lK));have NR:=af.mk ((eo:w.heap.size≤lK));replace HB:=af.mk (aH bS hb);clear hb dg hg)|((with_reducible refine aU (f:=80) rfl ?_);refine bY (some 11) rfl rfl Tryz.func80 ay rfl #[.pointer (some ⟨lK,0,none⟩)] rfl cr ?_;(with_reducible refine (bH.calls k lK a0 0 t262 true t264 t265 w _ ?aX ?bL A2.out).mono ?_);(case aX=>repeat (first|(with_reducible first|exact jZ.out|apply aq.alloc|apply aq.drewN|apply aq.drew|apply aq.dR|apply aq.dQ)|exact jZ.out));(case bL=>repeat (first|(with_reducible first|exact HB.out|apply aJ|apply aK|apply aW|refine bn ?_ (aq.ge jZ.out))|exact HB.out));rintro e Qd ⟨rfl,hi,hb,hk⟩;refine ⟨_,rfl,?_⟩;replace HB:=af.mk (hb);replace jZ:=af.mk (hi);(try clear hb);(try clear hk);(try clear hi);obtain ⟨Bo,QV⟩:=jZ.out;have zN:=cH Bo;have zO:=cG Bo;have zP:=aa Bo 0;have zQ:=aa Bo 1;clear Bo QV))
   go_ret
   exact ⟨cM,uU⟩
 ·replace c3:=Bool.eq_false_iff.mpr c3
  subst c3
  rw [if_neg (show ¬ (false=true) by decide)] at H
  obtain rfl:=Option.some.inj H
  go_enter Tryz.func25,Tryz.ntmps25
  go_wp2_with (first|((with_reducible refine cU (N:=8) rfl ?_);(try (refine cW (by rfl) ?_;dsimp only));refine cL ?hg (N:=8) ?hd (cs:=#[.string a0,.int .i64 0]) (t:=82) ?hr ?_;(case hd=>rfl);(case hg=>rfl);(case hr=>first|(go_simp;done)|(go_simp;rfl));intro lK hg CX dg hb;have jZ:=af.mk ((⟨dg,eo⟩:aq w CX lK a0 0));have NQ:=af.mk ((eo:w.heap.size≤lK));have NR:=af.mk ((eo:w.heap.size≤lK));replace HB:=af.mk (aH bS hb);clear hb dg hg)|((with_reducible refine aU (f:=80) rfl ?_);refine bY (some 11) rfl rfl Tryz.func80 ay rfl #[.pointer (some ⟨lK,0,none⟩)] rfl cr ?_;(with_reducible refine (bH.calls k lK a0 0 t262 false t264 t265 w _ ?aX ?bL A2.out).mono ?_);(case aX=>repeat (first|(with_reducible first|exact jZ.out|apply aq.alloc|apply aq.drewN|apply aq.drew|apply aq.dR|apply aq.dQ)|exact jZ.out));(case bL=>repeat (first|(with_reducible first|exact HB.out|apply aJ|apply aK|apply aW|refine bn ?_ (aq.ge jZ.out))|exact HB.out));rintro e w14 ⟨rfl,hi,hb,hk⟩;refine ⟨_,rfl,?_⟩;replace HB:=af.mk (hb);replace jZ:=af.mk (hi);(try clear hb);(try clear hk);(try clear hi)))
  go_ret
  exact ⟨cM,uU⟩
def iT.f (k:Nat) (a0:ByteArray):Option (Bool):=(gZ.f k a0).bind fun t267=>(if t267=true then ((b7.f a0).bind fun t268=>(some (t268.toList == a0.toList))) else (some false))
theorem iT.calls (k:Nat) (a0:ByteArray) (r:Bool) (w:World) (hG:aQ w) (h:iT.f k a0=some r):
 Calls Tryz.prog 65 #[.string a0] w fun e w'=>e= .returned (.bool r)∧Below w.heap.size w w':=by
 have HB:=af.mk (Below.refl w.heap.size w)
 have HG:=af.mk hG
 clear hG
 have H:((gZ.f k a0).bind fun t267=>(if t267=true then ((b7.f a0).bind fun t268=>(some (t268.toList == a0.toList))) else (some false)))=some r:=h
 clear h
 obtain ⟨t267,A2,H⟩:=bd_ H
 by_cases c3:t267=true
 ·subst c3
  rw [if_pos rfl] at H
  obtain ⟨t268,A4,H⟩:=bd_ H
  obtain rfl:=Option.some.inj H
  go_enter Tryz.func65,Tryz.ntmps65
  go_wp2_with (first|((with_reducible refine aU (f:=25) rfl ?_);refine bY (some 4) rfl rfl Tryz.func25 ay rfl #[.string a0] rfl cr ?_;(with_reducible refine (gZ.calls k a0 true _ ?aX A2.out).mono ?_);(case aX=>exact aQ.below HG.out bS);rintro e w5 ⟨rfl,hb⟩;refine ⟨_,rfl,?_⟩;replace HB:=af.mk (aH bS hb);(try clear hb))|(go_at_call 81;(with_reducible refine (b7.calls a0 t268 _ A4.out).mono ?_);rintro e w6 ⟨rfl,hb⟩;replace HB:=af.mk (aH bS hb);(try clear hb)))
  go_ret
  exact ⟨cM,bS⟩
 ·replace c3:=Bool.eq_false_iff.mpr c3
  subst c3
  rw [if_neg (show ¬ (false=true) by decide)] at H
  obtain rfl:=Option.some.inj H
  go_enter Tryz.func65,Tryz.ntmps65
  go_wp2_with (first|((with_reducible refine aU (f:=25) rfl ?_);refine bY (some 4) rfl rfl Tryz.func25 ay rfl #[.string a0] rfl cr ?_;(with_reducible refine (gZ.calls k a0 false _ ?aX A2.out).mono ?_);(case aX=>exact aQ.below HG.out bS);rintro e w7 ⟨rfl,hb⟩;refine ⟨_,rfl,?_⟩;replace HB:=af.mk (aH bS hb);(try clear hb)))
  go_ret
  exact ⟨cM,bS⟩
end Go.Proofs.YtokpnfljjjjikaaGreatDoor.lO
