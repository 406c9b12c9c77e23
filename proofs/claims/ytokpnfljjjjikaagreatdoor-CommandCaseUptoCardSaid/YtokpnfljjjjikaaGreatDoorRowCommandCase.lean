/- CommandCase: the row, where what is read is of bulk at most 1048576, and its card. -/
import Derived.Test.YtokpnfljjjjikaaGreatDoorCards
import Derived.Test.YtokpnfljjjjikaaGreatDoorTie
import Derived.Test.YtokpnfljjjjikaaGreatDoorPLaws
import Derived.ProofKit
import Derived.ShutString
import Derived.SizedLaws
import Derived.Deep.DeepWitnessRowRef
import Derived.Test.YtokpnfljjjjikaaGreatDoorPArgs
set_option maxRecDepth 1000000
namespace Go.Proofs.YtokpnfljjjjikaaGreatDoor.commandCase
open Go.ChangeShapes Go.WideShapes Go.ChangeAt Go.RowKit
open Go.ChangeMaps (open_string shut_string)
open Go.Proofs.aj.bQ (dB)
set_option linter.unusedVariables false
set_option linter.unusedSimpArgs false
theorem own:ownKnob Tryz.prog.godebug=none:=by kernel_rfl
theorem star: "*" ++ "errors.errorString" = "*errors.errorString":=by decide
theorem Y6 (u:TypeId) (h:Tryz.prog.typeName? 3 u=some "*errors.errorString"):u=212:=
 typeName_ptr_named (nm:= "errors.errorString") (by rw [star];kernel_rfl) av bL u (by rw [star];exact h)
theorem Ri {W:World} (hL:laidMetH Tryz.prog Rows.commandCaseUptoRow.laid W) (hS:W.ShapedOpen Tryz.prog):aW W:=by
 have hL':laidMet Tryz.prog Rows.commandCaseUptoRow.laid W:=hL
 obtain ⟨a0,s0,hv0,_⟩:=laid_sentinel (g:=6) hL'.tail.tail.tail.tail av av Tryz.underlying75 Y6 Tryz.underlying212 Tryz.underlying214 rfl rfl Tryz.underlying9 av av
 obtain ⟨a1,s1,hv1,_⟩:=laid_sentinel (g:=5) hL'.tail.tail.tail.tail.tail av av Tryz.underlying75 Y6 Tryz.underlying212 Tryz.underlying214 rfl rfl Tryz.underlying9 av av
 refine ⟨Y5 hL'.tail.tail.tail.tail.tail.tail,cell_of_shapedOpen_int (zero:=#[.int .i64 0]) hS (of_decide_eq_true av) av av av av Tryz.underlying3,⟨_,by simpa using World.var?_cell (show Tryz.prog.globalNamed "strconv.ErrSyntax" =some 5 by kernel_rfl) hv1 0,.inr ⟨_,_,rfl⟩⟩,⟨_,by simpa using World.var?_cell (show Tryz.prog.globalNamed "strconv.ErrRange" =some 6 by kernel_rfl) hv0 0,.inr ⟨_,_,rfl⟩⟩⟩
noncomputable def AG (os:Os):World:=
 let N:=(World.settled Tryz.prog os).heap.size
 let w0:=World.holding Tryz.prog os ⟨#[.cells #[.string ⟨#[118,97,108,117,101,32,111,117,116,32,111,102,32,114,97,110,103,101]⟩] 214,.cells #[.string ⟨#[105,110,118,97,108,105,100,32,115,121,110,116,97,120]⟩] 214,.cells #[.string ⟨#[]⟩,.string ⟨#[72,69,76,79]⟩,.string ⟨#[69,72,76,79]⟩,.string ⟨#[77,65,73,76]⟩,.string ⟨#[82,67,80,84]⟩,.string ⟨#[68,65,84,65]⟩,.string ⟨#[82,83,69,84]⟩,.string ⟨#[86,82,70,89]⟩,.string ⟨#[69,88,80,78]⟩,.string ⟨#[78,79,79,80]⟩,.string ⟨#[72,69,76,80]⟩,.string ⟨#[81,85,73,84]⟩] 9],#[],[]⟩
 let put (h:Array Obj) (g:Nat) (cs:Array Value):Array Obj:=h.modify g fun
  | .cells _ t frozen=> .cells cs t frozen
  |o=>o
 {w0 with heap:=(put (put (put (put (put (put (put (put w0.heap 8 #[Value.int .u8 0,Value.int .u8 1,Value.int .u8 28,Value.int .u8 2,Value.int .u8 29,Value.int .u8 14,Value.int .u8 24,Value.int .u8 3,Value.int .u8 30,Value.int .u8 22,Value.int .u8 20,Value.int .u8 15,Value.int .u8 25,Value.int .u8 17,Value.int .u8 4,Value.int .u8 8,Value.int .u8 31,Value.int .u8 27,Value.int .u8 13,Value.int .u8 23,Value.int .u8 21,Value.int .u8 19,Value.int .u8 16,Value.int .u8 7,Value.int .u8 26,Value.int .u8 12,Value.int .u8 18,Value.int .u8 6,Value.int .u8 11,Value.int .u8 5,Value.int .u8 10,Value.int .u8 9]) 9 #[Value.int .u8 0,Value.int .u8 1,Value.int .u8 56,Value.int .u8 2,Value.int .u8 57,Value.int .u8 49,Value.int .u8 28,Value.int .u8 3,Value.int .u8 61,Value.int .u8 58,Value.int .u8 42,Value.int .u8 50,Value.int .u8 38,Value.int .u8 29,Value.int .u8 17,Value.int .u8 4,Value.int .u8 62,Value.int .u8 47,Value.int .u8 59,Value.int .u8 36,Value.int .u8 45,Value.int .u8 43,Value.int .u8 51,Value.int .u8 22,Value.int .u8 53,Value.int .u8 39,Value.int .u8 33,Value.int .u8 30,Value.int .u8 24,Value.int .u8 18,Value.int .u8 12,Value.int .u8 5,Value.int .u8 63,Value.int .u8 55,Value.int .u8 48,Value.int .u8 27,Value.int .u8 60,Value.int .u8 41,Value.int .u8 37,Value.int .u8 16,Value.int .u8 46,Value.int .u8 35,Value.int .u8 44,Value.int .u8 21,Value.int .u8 52,Value.int .u8 32,Value.int .u8 23,Value.int .u8 11,Value.int .u8 54,Value.int .u8 26,Value.int .u8 40,Value.int .u8 15,Value.int .u8 34,Value.int .u8 20,Value.int .u8 31,Value.int .u8 10,Value.int .u8 25,Value.int .u8 14,Value.int .u8 19,Value.int .u8 9,Value.int .u8 13,Value.int .u8 8,Value.int .u8 7,Value.int .u8 6]) 7 #[Value.int .u64 1,Value.int .u64 10,Value.int .u64 100,Value.int .u64 1000,Value.int .u64 10000,Value.int .u64 100000,Value.int .u64 1000000,Value.int .u64 10000000,Value.int .u64 100000000,Value.int .u64 1000000000,Value.int .u64 10000000000,Value.int .u64 100000000000,Value.int .u64 1000000000000,Value.int .u64 10000000000000,Value.int .u64 100000000000000,Value.int .u64 1000000000000000,Value.int .u64 10000000000000000,Value.int .u64 100000000000000000,Value.int .u64 1000000000000000000,Value.int .u64 10000000000000000000]) 3 #[Value.int .u8 128,Value.int .u8 191,Value.int .u8 160,Value.int .u8 191,Value.int .u8 128,Value.int .u8 159,Value.int .u8 144,Value.int .u8 191,Value.int .u8 128,Value.int .u8 143,Value.int .u8 0,Value.int .u8 0,Value.int .u8 0,Value.int .u8 0,Value.int .u8 0,Value.int .u8 0,Value.int .u8 0,Value.int .u8 0,Value.int .u8 0,Value.int .u8 0,Value.int .u8 0,Value.int .u8 0,Value.int .u8 0,Value.int .u8 0,Value.int .u8 0,Value.int .u8 0,Value.int .u8 0,Value.int .u8 0,Value.int .u8 0,Value.int .u8 0,Value.int .u8 0,Value.int .u8 0]) 6 #[.iface 212 (.pointer (some ⟨N + 0,0,none⟩))]) 5 #[.iface 212 (.pointer (some ⟨N + 1,0,none⟩))]) 0 #[.slice (some ⟨N + 2,0,none⟩) 12 12]) 2 (Go.Pinned.utf8FirstZ.map fun (z:Nat)=>Value.int .u8 (z:Int)).toArray)}
theorem Y7 (os:Os):laidMet Tryz.prog Rows.commandCaseUptoRow.laid ((AG os).forCall (fun _ _ =>0) ⟨#[],#[.agg #[.int .u8 0,.string ByteArray.empty,.bool false,.slice none 0 0,.string ByteArray.empty,.string ByteArray.empty,.bool false,.slice none 0 0],.slice none 0 0],[]⟩).memory:=
 laidMet_of_run' 8 av av
theorem Pf (os:Os) {H:Type} (enc:TypeId×Value→H):
 (Rows.OpenSpec.upto Rows.commandCaseSpec).preRow enc Tryz.prog Tryz.f9 Rows.commandCaseUptoRow.domain false Rows.commandCaseUptoRow.laid ((AG os).forCall (fun _ _ =>0) ⟨#[],#[.agg #[.int .u8 0,.string ByteArray.empty,.bool false,.slice none 0 0,.string ByteArray.empty,.string ByteArray.empty,.bool false,.slice none 0 0],.slice none 0 0],[]⟩).memory #[.agg #[.int .u8 0,.string ByteArray.empty,.bool false,.slice none 0 0,.string ByteArray.empty,.string ByteArray.empty,.bool false,.slice none 0 0],.slice none 0 0]:=by
 have hw:(DataW.whole enc Tryz.prog ((AG os).forCall (fun _ _ =>0) ⟨#[],#[.agg #[.int .u8 0,.string ByteArray.empty,.bool false,.slice none 0 0,.string ByteArray.empty,.string ByteArray.empty,.bool false,.slice none 0 0],.slice none 0 0],[]⟩).memory Tryz.f9.params.toList Rows.commandCaseSpec.vars false #[.agg #[.int .u8 0,.string ByteArray.empty,.bool false,.slice none 0 0,.string ByteArray.empty,.string ByteArray.empty,.bool false,.slice none 0 0],.slice none 0 0].toList 8).map (fun x=>(x.1,x.2.1))=
  some ([.agg [.lit (.int .u8 0),.lit (.string []),.agg [.lit (.bool false),.nil,.agg [.lit (.string []),.lit (.string []),.lit (.bool false)]],.nil],.nil],[]):=by kernel_rfl
 obtain ⟨⟨x1,x2,x3⟩,hx,hx1⟩:=Option.map_eq_some_iff.1 hw
 simp only [Prod.mk.injEq] at hx1
 obtain ⟨rfl,rfl⟩:=hx1
 exact OpenSpec.preRow_of_cond 8 hx av (fun k hk=>by cases hk;kernel_rfl) av (Y7 os)
set_option maxHeartbeats 2000000 in
theorem lifted (os:Os) (started:os.Started) (H:Type) (enc:TypeId×Value→H) (F:Stop.Interp):
 ReturnsInHanded {} Tryz.checked os 9 .any ((Rows.OpenSpec.upto Rows.commandCaseSpec).preRow enc Tryz.prog Tryz.f9 Rows.commandCaseUptoRow.domain false Rows.commandCaseUptoRow.laid) (((Rows.OpenSpec.upto Rows.commandCaseSpec).at F).post enc Tryz.prog Tryz.f9 false true false false):=by
 refine returnsInHanded_of_row (C:=Tryz.checked) (s:=Rows.OpenSpec.upto Rows.commandCaseSpec) own started av Tryz.func9
  (witness_row_atRef (enc:=enc) (C:=Tryz.checked) false (AG os) #[.agg #[.int .u8 0,.string ByteArray.empty,.bool false,.slice none 0 0,.string ByteArray.empty,.string ByteArray.empty,.bool false,.slice none 0 0],.slice none 0 0] rfl av av av (Pf os enc)) ?_
 intro W base args ds gs before acO hW hcnd hcond aje hL hS _
 have hk:=hcond _ rfl
 have hG:=Ri hL hS
 clear hcnd hcond hL hS
 have hsz:(DataW.weightsEach Tryz.prog (Tryz.f9.params.toList ++ Rows.commandCaseSpec.plain.varTypes Tryz.prog) (ds ++ gs)).all (·≤reachBytes)=true:=aje
 have hval:∀ (j:Nat) t v,Tryz.f9.params[j]? =some t→args[j]? =some v→Value.okWide Tryz.prog W .any base t v:=acO
 have hW':=hW
 obtain ⟨p,q,hA0,hV,rfl,hfz,hnd⟩:=hW
 have hA:DataW.TrodAll enc Tryz.prog W 0 (fun _ =>true) true Tryz.f9.params.toList args.toList ds p:=hA0
 rw [Tryz.params9] at hA hval hsz
 obtain ⟨v0,vs0,d0,ds0,p0,q0,hargs,rfl,rfl,h0,r0⟩:=trodAll_cons hA
 obtain ⟨v1,vs1,d1,ds1,p1,q1,rfl,rfl,rfl,h1,r1⟩:=trodAll_cons r0
 obtain ⟨rfl,rfl,rfl⟩:=trodAll_nil r1
 obtain rfl:args= #[v0,v1]:=by cases args;simp_all
 obtain ⟨rfl,rfl⟩:=trodVars_none hV
 have k0:=h0
 have lt0:∀ x∈p0,x.block < W.heap.size:=by obtain ⟨m,hm⟩:=k0;exact DataW.trod_lt m _ _ _ hm
 have k1:=h1
 have lt1:∀ x∈p1,x.block < W.heap.size:=by obtain ⟨m,hm⟩:=k1;exact DataW.trod_lt m _ _ _ hm
 obtain ⟨A1,c1,l1,rfl,hC1,hc1,hb1⟩:=BB.Rh (hval 1 23 v1 rfl rfl) h1
 obtain ⟨vb,ar,a0,A0,c0,R0,lo0,aeJ,ajf,rd0,A2,c2,P0,pd0,rfl,hC0,hc0,hD0,hd0,rfl,ajg,ajh,hwf⟩:=BB.Y4 (hval 0 35 v0 rfl rfl) h0
 clear hA0 acO aje hsz
 have hb:=of_decide_eq_true hk
 simp only [List.append_nil,List.cons_append,List.nil_append,Rows.uptoBulkAll,Rows.uptoBulk] at hb
 clear hk
 obtain ⟨kk,hf⟩:=jk.DX vb (by have:=hwf;simp [Lit.wf,IntKind.min,IntKind.max,IntKind.bits,IntKind.signed] at this;omega) ar a0 R0 lo0 aeJ ajf P0 l1 (by have:=dB ar;omega) (by have:=(yt.JN ajg).1;omega) (fun y hy=>by have:=(yt.JN ajg).2 y hy;omega) (by have:=dB lo0;omega) (by have:=dB aeJ;omega) (by have:=(BB.EJ ajh).1;omega) (fun p hp=>by have:=(BB.EJ ajh).2 p hp;omega) aq
 refine (n9.aC.calls kk vb ar a0 A0 c0 R0 lo0 aeJ ajf A2 c2 P0 A1 c1 l1 true W hC0 hc0 hD0 hd0 hC1 hc1 hG hf).mono fun e W' ⟨he,wN⟩=>?_
 subst he
 exact ⟨_,rfl,_,_,_,[],_,[],hW',trodAll_mk1 (shut_bool Tryz.underlying4 _),(trodAll_cons_mk (Below.trod yt.laidOut av (of_decide_eq_true av) k0 wN lt0) (trodAll_cons_mk (Below.trod yt.laidOut av (of_decide_eq_true av) k1 wN lt1) trodAll_mk0)),rfl,wN.frame _,fun h=>by cases h⟩
theorem said:Rows.CommandCaseUptoSaid:=
 OpenClaim.holds_of_cond 9 Tryz.f9 rfl rfl rfl rfl rfl rfl rfl ⟨rfl,rfl,rfl,rfl,rfl⟩ rfl rfl rfl rfl rfl av Tryz.func9 av
  (of_decide_eq_true av) (by unfold Func.isWrapper;first|(rw [if_pos gL];kernel_rfl)|(rw [if_neg gL];exact ⟨rfl,rfl⟩))
  (fun os started H enc _ F=>by rw [OpenClaim.pre_eq_preRow];exact lifted os started H enc F)
theorem plain (f:FuncId) (fn:Func) (hf:Tryz.pinned.checked.prog.funcNamed "franking/frankinglaw16.CommandCase" =some f) (hfn:Tryz.pinned.checked.prog.funcs[f]? =some fn):
 true=Tryz.pinned.checked.prog.looks []∧∀ (j:Nat) t,fn.params[j]? =some t→Tryz.pinned.checked.prog.wantsStandIn t=false:=by
 obtain rfl:f=9:=Option.some.inj ((show Tryz.prog.funcNamed "franking/frankinglaw16.CommandCase" =some 9 by kernel_rfl).symm.trans hf)|>.symm
 obtain rfl:fn=Tryz.f9:=(Option.some.inj (Tryz.func9.symm.trans hfn)).symm
 refine ⟨av,fun j t ht=>?_⟩
 rw [Tryz.params9] at ht
 have hall:∀ u,u∈(#[35,23]:Array TypeId)→Tryz.prog.wantsStandIn u=false:=by
  intro u hu
  simp at hu
  rcases hu with rfl|rfl<;>kernel_rfl
 exact hall t (Array.mem_of_getElem? ht)
theorem card:Rows.CommandCaseUptoCardSaid:=
 Claim7.holds_tied_plain_at .later [] _ _ _ _ said (fun _ h=>by cases h) av (fun _ h=>by cases h) commandCaseUpto_row_tie rfl ⟨rfl,rfl⟩ av rfl plain av
end Go.Proofs.YtokpnfljjjjikaaGreatDoor.commandCase
namespace Go.Proofs.YtokpnfljjjjikaaGreatDoor
theorem commandCase_upto_card:Rows.CommandCaseUptoCardSaid:=commandCase.card
end Go.Proofs.YtokpnfljjjjikaaGreatDoor
