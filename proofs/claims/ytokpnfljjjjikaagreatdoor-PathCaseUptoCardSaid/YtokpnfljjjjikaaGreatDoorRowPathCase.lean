/- PathCase: the row, where what is read is of bulk at most 1048576, and its card. -/
import Derived.Test.YtokpnfljjjjikaaGreatDoorCards
import Derived.Test.YtokpnfljjjjikaaGreatDoorTie
import Derived.Test.YtokpnfljjjjikaaGreatDoorPLaws
import Derived.ProofKit
import Derived.ShutString
import Derived.SizedLaws
import Derived.Deep.DeepWitnessRowRef
import Derived.Stop.LaidErr
import Derived.Lib.LaidCaseMet
import Derived.Test.YtokpnfljjjjikaaGreatDoorPInts
set_option maxRecDepth 1000000
namespace Go.Proofs.YtokpnfljjjjikaaGreatDoor.pathCase
open Go.ChangeShapes Go.WideShapes Go.ChangeAt Go.RowKit
open Go.ChangeMaps (open_string shut_string)
open Go.Proofs.aj.bw (dz)
set_option linter.unusedVariables false
set_option linter.unusedSimpArgs false
theorem own:ownKnob Tryz.prog.godebug=none:=by kernel_rfl
theorem star: "*" ++ "errors.errorString" = "*errors.errorString":=by decide
theorem Ku (u:TypeId) (h:Tryz.prog.typeName? 3 u=some "*errors.errorString"):u=212:=
 typeName_ptr_named (nm:= "errors.errorString") (by rw [star];kernel_rfl) ay bg u (by rw [star];exact h)
theorem Ea {W:World} (hL:laidMetH Tryz.prog Rows.pathCaseUptoRow.laid W) (hS:W.ShapedOpen Tryz.prog):aQ W:=by
 have hL':laidMet Tryz.prog Rows.pathCaseUptoRow.laid W:=hL
 obtain ⟨a0,s0,hv0,_⟩:=laid_sentinel (g:=6) hL'.tail.tail.tail.tail ay ay Tryz.underlying75 Ku Tryz.underlying212 Tryz.underlying214 rfl rfl Tryz.underlying9 ay ay
 obtain ⟨a1,s1,hv1,_⟩:=laid_sentinel (g:=5) hL'.tail.tail.tail.tail.tail ay ay Tryz.underlying75 Ku Tryz.underlying212 Tryz.underlying214 rfl rfl Tryz.underlying9 ay ay
 refine ⟨cell_of_shapedOpen_int (zero:=#[.int .i64 0]) hS (of_decide_eq_true ay) ay ay ay ay Tryz.underlying3,⟨_,by simpa using World.var?_cell (show Tryz.prog.globalNamed "strconv.ErrSyntax" =some 5 by kernel_rfl) hv1 0,.inr ⟨_,_,rfl⟩⟩,⟨_,by simpa using World.var?_cell (show Tryz.prog.globalNamed "strconv.ErrRange" =some 6 by kernel_rfl) hv0 0,.inr ⟨_,_,rfl⟩⟩⟩
noncomputable def oc (os:Os):World:=
 let N:=(World.settled Tryz.prog os).heap.size
 let w0:=World.holding Tryz.prog os ⟨#[.cells #[.string ⟨#[118,97,108,117,101,32,111,117,116,32,111,102,32,114,97,110,103,101]⟩] 214,.cells #[.string ⟨#[105,110,118,97,108,105,100,32,115,121,110,116,97,120]⟩] 214,.cells Lib.caseCells5 (Tryz.lB.t 208)],#[],[]⟩
 let put (h:Array Obj) (g:Nat) (cs:Array Value):Array Obj:=h.modify g fun
  | .cells _ t frozen=> .cells cs t frozen
  |o=>o
 {w0 with heap:=(put (put (put (put (put (put (put (put w0.heap 8 #[Value.int .u8 0,Value.int .u8 1,Value.int .u8 28,Value.int .u8 2,Value.int .u8 29,Value.int .u8 14,Value.int .u8 24,Value.int .u8 3,Value.int .u8 30,Value.int .u8 22,Value.int .u8 20,Value.int .u8 15,Value.int .u8 25,Value.int .u8 17,Value.int .u8 4,Value.int .u8 8,Value.int .u8 31,Value.int .u8 27,Value.int .u8 13,Value.int .u8 23,Value.int .u8 21,Value.int .u8 19,Value.int .u8 16,Value.int .u8 7,Value.int .u8 26,Value.int .u8 12,Value.int .u8 18,Value.int .u8 6,Value.int .u8 11,Value.int .u8 5,Value.int .u8 10,Value.int .u8 9]) 9 #[Value.int .u8 0,Value.int .u8 1,Value.int .u8 56,Value.int .u8 2,Value.int .u8 57,Value.int .u8 49,Value.int .u8 28,Value.int .u8 3,Value.int .u8 61,Value.int .u8 58,Value.int .u8 42,Value.int .u8 50,Value.int .u8 38,Value.int .u8 29,Value.int .u8 17,Value.int .u8 4,Value.int .u8 62,Value.int .u8 47,Value.int .u8 59,Value.int .u8 36,Value.int .u8 45,Value.int .u8 43,Value.int .u8 51,Value.int .u8 22,Value.int .u8 53,Value.int .u8 39,Value.int .u8 33,Value.int .u8 30,Value.int .u8 24,Value.int .u8 18,Value.int .u8 12,Value.int .u8 5,Value.int .u8 63,Value.int .u8 55,Value.int .u8 48,Value.int .u8 27,Value.int .u8 60,Value.int .u8 41,Value.int .u8 37,Value.int .u8 16,Value.int .u8 46,Value.int .u8 35,Value.int .u8 44,Value.int .u8 21,Value.int .u8 52,Value.int .u8 32,Value.int .u8 23,Value.int .u8 11,Value.int .u8 54,Value.int .u8 26,Value.int .u8 40,Value.int .u8 15,Value.int .u8 34,Value.int .u8 20,Value.int .u8 31,Value.int .u8 10,Value.int .u8 25,Value.int .u8 14,Value.int .u8 19,Value.int .u8 9,Value.int .u8 13,Value.int .u8 8,Value.int .u8 7,Value.int .u8 6]) 7 #[Value.int .u64 1,Value.int .u64 10,Value.int .u64 100,Value.int .u64 1000,Value.int .u64 10000,Value.int .u64 100000,Value.int .u64 1000000,Value.int .u64 10000000,Value.int .u64 100000000,Value.int .u64 1000000000,Value.int .u64 10000000000,Value.int .u64 100000000000,Value.int .u64 1000000000000,Value.int .u64 10000000000000,Value.int .u64 100000000000000,Value.int .u64 1000000000000000,Value.int .u64 10000000000000000,Value.int .u64 100000000000000000,Value.int .u64 1000000000000000000,Value.int .u64 10000000000000000000]) 3 #[Value.int .u8 128,Value.int .u8 191,Value.int .u8 160,Value.int .u8 191,Value.int .u8 128,Value.int .u8 159,Value.int .u8 144,Value.int .u8 191,Value.int .u8 128,Value.int .u8 143,Value.int .u8 0,Value.int .u8 0,Value.int .u8 0,Value.int .u8 0,Value.int .u8 0,Value.int .u8 0,Value.int .u8 0,Value.int .u8 0,Value.int .u8 0,Value.int .u8 0,Value.int .u8 0,Value.int .u8 0,Value.int .u8 0,Value.int .u8 0,Value.int .u8 0,Value.int .u8 0,Value.int .u8 0,Value.int .u8 0,Value.int .u8 0,Value.int .u8 0,Value.int .u8 0,Value.int .u8 0]) 6 #[.iface 212 (.pointer (some ⟨N + 0,0,none⟩))]) 5 #[.iface 212 (.pointer (some ⟨N + 1,0,none⟩))]) 4 #[.slice (some ⟨N + 2,0,none⟩) 336 336]) 2 (Go.Pinned.utf8FirstZ.map fun (z:Nat)=>Value.int .u8 (z:Int)).toArray)}
theorem qE {P:Program} {w:World} {x y:String×DataW Unit}:∀ {a:List (String×DataW Unit)} {ps:List MemPlace},DataW.LaidVars P w (a ++ [x,y]) ps→∃ ps',DataW.LaidVars P w (a ++ [y,x]) ps'∧ps'.Perm ps
 | [],ps,h=>by
   obtain ⟨nx,dx⟩:=x
   obtain ⟨ny,dy⟩:=y
   obtain ⟨g,t,cs,fuel,p,q,h1,h2,h3,h4,h5,rfl⟩:=h
   obtain ⟨g',t',cs',fuel',p',q',k1,k2,k3,k4,k5,rfl⟩:=h5
   have k5:q'= []:=k5
   subst k5
   refine ⟨_,⟨g',t',cs',fuel',p',_,k1,k2,k3,k4,⟨g,t,cs,fuel,p,[],h1,h2,h3,h4,rfl,rfl⟩,rfl⟩,?_⟩
   rw [List.append_nil,List.append_nil]
   exact List.perm_append_comm
 |(n,d) :: a,ps,h=>by
  obtain ⟨g,t,cs,fuel,p,q,h1,h2,h3,h4,h5,rfl⟩:=h
  obtain ⟨q2,m,hp⟩:=qE h5
  exact ⟨_,⟨g,t,cs,fuel,p,q2,h1,h2,h3,h4,m,rfl⟩,List.Perm.append_left _ hp⟩
theorem Ai {P:Program} {w:World} {x y:String×DataW Unit} {a:List (String×DataW Unit)} (h:laidMet P (a ++ [x,y]) w):laidMet P (a ++ [y,x]) w:=by
 obtain ⟨ps,h1,h2,h3⟩:=h
 obtain ⟨ps',k1,k2⟩:=qE h1
 exact ⟨ps',k1,k2.nodup_iff.mpr h2,fun b off hb=>h3 b off (k2.mem_iff.mp hb)⟩
theorem Hl:Rows.laid_unicode_CaseRanges=Lib.caseData:=by kernel_rfl
theorem Kv (os:Os):laidMet Tryz.prog Rows.pathCaseUptoRow.laid ((oc os).forCall (fun _ _ =>0) ⟨#[],#[.agg #[.bool false,.slice none 0 0,.string ByteArray.empty,.string ByteArray.empty,.bool false],.slice none 0 0],[]⟩).memory:=by
 have h:=laidMet_with_case (ρ:=Tryz.lB) {Tryz.zu with} Tryz.zu.t206 ⟨ay,ay,ay,ay,ay,ay⟩ (w:=((oc os).forCall (fun _ _ =>0) ⟨#[],#[.agg #[.bool false,.slice none 0 0,.string ByteArray.empty,.string ByteArray.empty,.bool false],.slice none 0 0],[]⟩).memory)
  (l:=[("math/bits.deBruijn32tab",Rows.laid_math_bits_deBruijn32tab),("math/bits.deBruijn64tab",Rows.laid_math_bits_deBruijn64tab),("internal/strconv.uint64pow10",Rows.laid_internal_strconv_uint64pow10),("unicode/utf8.acceptRanges",Rows.laid_unicode_utf8_acceptRanges),("strconv.ErrRange",Rows.laid_strconv_ErrRange),("strconv.ErrSyntax",Rows.laid_strconv_ErrSyntax),("unicode/utf8.first",Rows.laid_unicode_utf8_first)])
  10 ay ay ay ((World.settled Tryz.prog default).heap.size + 2) (Tryz.lB.t 208) (of_decide_eq_true ay) ay ay ay
 have h2:=Ai (a:=[("math/bits.deBruijn32tab",Rows.laid_math_bits_deBruijn32tab),("math/bits.deBruijn64tab",Rows.laid_math_bits_deBruijn64tab),("internal/strconv.uint64pow10",Rows.laid_internal_strconv_uint64pow10),("unicode/utf8.acceptRanges",Rows.laid_unicode_utf8_acceptRanges),("strconv.ErrRange",Rows.laid_strconv_ErrRange),("strconv.ErrSyntax",Rows.laid_strconv_ErrSyntax)]) h
 rw [← Hl] at h2
 exact h2
theorem Cl (os:Os) {H:Type} (enc:TypeId×Value→H):
 (Rows.OpenSpec.upto Rows.pathCaseSpec).preRow enc Tryz.prog Tryz.f12 Rows.pathCaseUptoRow.domain false Rows.pathCaseUptoRow.laid ((oc os).forCall (fun _ _ =>0) ⟨#[],#[.agg #[.bool false,.slice none 0 0,.string ByteArray.empty,.string ByteArray.empty,.bool false],.slice none 0 0],[]⟩).memory #[.agg #[.bool false,.slice none 0 0,.string ByteArray.empty,.string ByteArray.empty,.bool false],.slice none 0 0]:=by
 have hw:(DataW.whole enc Tryz.prog ((oc os).forCall (fun _ _ =>0) ⟨#[],#[.agg #[.bool false,.slice none 0 0,.string ByteArray.empty,.string ByteArray.empty,.bool false],.slice none 0 0],[]⟩).memory Tryz.f12.params.toList Rows.pathCaseSpec.vars false #[.agg #[.bool false,.slice none 0 0,.string ByteArray.empty,.string ByteArray.empty,.bool false],.slice none 0 0].toList 8).map (fun x=>(x.1,x.2.1))=
  some ([.agg [.lit (.bool false),.nil,.agg [.lit (.string []),.lit (.string []),.lit (.bool false)]],.nil],[]):=by kernel_rfl
 obtain ⟨⟨x1,x2,x3⟩,hx,hx1⟩:=Option.map_eq_some_iff.1 hw
 simp only [Prod.mk.injEq] at hx1
 obtain ⟨rfl,rfl⟩:=hx1
 exact OpenSpec.preRow_of_cond 8 hx ay (fun k hk=>by cases hk;kernel_rfl) ay (Kv os)
set_option maxHeartbeats 2000000 in
theorem lifted (os:Os) (started:os.Started) (H:Type) (enc:TypeId×Value→H) (F:Stop.Interp):
 ReturnsInHanded {} Tryz.checked os 12 .any ((Rows.OpenSpec.upto Rows.pathCaseSpec).preRow enc Tryz.prog Tryz.f12 Rows.pathCaseUptoRow.domain false Rows.pathCaseUptoRow.laid) (((Rows.OpenSpec.upto Rows.pathCaseSpec).at F).post enc Tryz.prog Tryz.f12 false true false false):=by
 refine returnsInHanded_of_row (C:=Tryz.checked) (s:=Rows.OpenSpec.upto Rows.pathCaseSpec) own started ay Tryz.func12
  (witness_row_atRef (enc:=enc) (C:=Tryz.checked) false (oc os) #[.agg #[.bool false,.slice none 0 0,.string ByteArray.empty,.string ByteArray.empty,.bool false],.slice none 0 0] rfl ay ay ay (Cl os enc)) ?_
 intro W base args ds gs before Om hW hcnd hcond S4 hL hS _
 have hk:=hcond _ rfl
 have hG:=Ea hL hS
 clear hcnd hcond hL hS
 have hsz:(DataW.weightsEach Tryz.prog (Tryz.f12.params.toList ++ Rows.pathCaseSpec.plain.varTypes Tryz.prog) (ds ++ gs)).all (·≤reachBytes)=true:=S4
 have hval:∀ (j:Nat) t v,Tryz.f12.params[j]? =some t→args[j]? =some v→Value.okWide Tryz.prog W .any base t v:=Om
 have hW':=hW
 obtain ⟨p,q,hA0,hV,rfl,hfz,hnd⟩:=hW
 have hA:DataW.TrodAll enc Tryz.prog W 0 (fun _ =>true) true Tryz.f12.params.toList args.toList ds p:=hA0
 rw [Tryz.params12] at hA hval hsz
 obtain ⟨v0,vs0,d0,ds0,p0,q0,hargs,rfl,rfl,h0,r0⟩:=trodAll_cons hA
 obtain ⟨v1,vs1,d1,ds1,p1,q1,rfl,rfl,rfl,h1,r1⟩:=trodAll_cons r0
 obtain ⟨rfl,rfl,rfl⟩:=trodAll_nil r1
 obtain rfl:args= #[v0,v1]:=by cases args;simp_all
 obtain ⟨rfl,rfl⟩:=trodVars_none hV
 have k0:=h0
 have lt0:∀ x∈p0,x.block < W.heap.size:=by obtain ⟨m,hm⟩:=k0;exact DataW.trod_lt m _ _ _ hm
 have k1:=h1
 have lt1:∀ x∈p1,x.block < W.heap.size:=by obtain ⟨m,hm⟩:=k1;exact DataW.trod_lt m _ _ _ hm
 obtain ⟨a0,A0,c0,R0,lo0,Px,S5,rd0,rfl,hC0,hc0,rfl,abA⟩:=qm.Hh (hval 0 32 v0 rfl rfl) h0
 obtain ⟨A1,c1,l1,rfl,hC1,hc1,hb1⟩:=Kt.D9 (hval 1 23 v1 rfl rfl) h1
 clear hA0 Om S4 hsz
 have hb:=of_decide_eq_true hk
 simp only [List.append_nil,List.cons_append,List.nil_append,Rows.uptoBulkAll,Rows.uptoBulk] at hb
 clear hk
 obtain ⟨kk,hf⟩:=ia.xA a0 R0 lo0 Px S5 l1 (fun y hy=>by have:=(qm.Hj abA).2 y hy;omega) (by have:=dz lo0;omega) (by have:=dz Px;omega) ak
 refine (lO.av.calls kk a0 A0 c0 R0 lo0 Px S5 A1 c1 l1 true W hC0 hc0 hC1 hc1 hG hf).mono fun e W' ⟨he,og⟩=>?_
 subst he
 exact ⟨_,rfl,_,_,_,[],_,[],hW',trodAll_mk1 (shut_bool Tryz.underlying4 _),(trodAll_cons_mk (Below.trod qm.laidOut ay (of_decide_eq_true ay) k0 og lt0) (trodAll_cons_mk (Below.trod qm.laidOut ay (of_decide_eq_true ay) k1 og lt1) trodAll_mk0)),rfl,og.frame _,fun h=>by cases h⟩
theorem said:Rows.PathCaseUptoSaid:=
 OpenClaim.holds_of_cond 12 Tryz.f12 rfl rfl rfl rfl rfl rfl rfl ⟨rfl,rfl,rfl,rfl,rfl⟩ rfl rfl rfl rfl rfl ay Tryz.func12 ay
  (of_decide_eq_true ay) (by unfold Func.isWrapper;first|(rw [if_pos ey];kernel_rfl)|(rw [if_neg ey];exact ⟨rfl,rfl⟩))
  (fun os started H enc _ F=>by rw [OpenClaim.pre_eq_preRow];exact lifted os started H enc F)
theorem plain (f:FuncId) (fn:Func) (hf:Tryz.pinned.checked.prog.funcNamed "franking/frankinglaw15.PathCase" =some f) (hfn:Tryz.pinned.checked.prog.funcs[f]? =some fn):
 true=Tryz.pinned.checked.prog.looks []∧∀ (j:Nat) t,fn.params[j]? =some t→Tryz.pinned.checked.prog.wantsStandIn t=false:=by
 obtain rfl:f=12:=Option.some.inj ((show Tryz.prog.funcNamed "franking/frankinglaw15.PathCase" =some 12 by kernel_rfl).symm.trans hf)|>.symm
 obtain rfl:fn=Tryz.f12:=(Option.some.inj (Tryz.func12.symm.trans hfn)).symm
 refine ⟨ay,fun j t ht=>?_⟩
 rw [Tryz.params12] at ht
 have hall:∀ u,u∈(#[32,23]:Array TypeId)→Tryz.prog.wantsStandIn u=false:=by
  intro u hu
  simp at hu
  rcases hu with rfl|rfl<;>kernel_rfl
 exact hall t (Array.mem_of_getElem? ht)
theorem card:Rows.PathCaseUptoCardSaid:=
 Claim7.holds_tied_plain_at .later [] _ _ _ _ said (fun _ h=>by cases h) ay (fun _ h=>by cases h) pathCaseUpto_row_tie rfl ⟨rfl,rfl⟩ ay rfl plain ay
end Go.Proofs.YtokpnfljjjjikaaGreatDoor.pathCase
namespace Go.Proofs.YtokpnfljjjjikaaGreatDoor
theorem pathCase_upto_card:Rows.PathCaseUptoCardSaid:=pathCase.card
end Go.Proofs.YtokpnfljjjjikaaGreatDoor
