/- QueueOnce: the row, where what is read is of bulk at most 1048576, and its card. -/
import Derived.Test.YtbjjaaodfbjkfaaGreatDoorCards
import Derived.Test.YtbjjaaodfbjkfaaGreatDoorTie
import Derived.Test.YtbjjaaodfbjkfaaGreatDoorEOnceQ
import Derived.ProofKit
import Derived.ShutString
import Derived.SizedLaws
import Derived.Deep.DeepWitnessRowRef
import Derived.Stop.LaidErr
set_option maxRecDepth 1000000
namespace Go.Proofs.YtbjjaaodfbjkfaaGreatDoor.queueOnce
open Go.ChangeShapes Go.WideShapes Go.ChangeAt Go.RowKit
open Go.ChangeMaps (open_string shut_string)
open Go.Proofs.ak.bR (jc)
set_option linter.unusedVariables false
set_option linter.unusedSimpArgs false
theorem own:ownKnob Tryz.prog.godebug=none:=by kernel_rfl
theorem star: "*" ++ "errors.errorString" = "*errors.errorString":=by decide
theorem Vo (u:TypeId) (h:Tryz.prog.typeName? 3 u=some "*errors.errorString"):u=298:=
 typeName_ptr_named (nm:= "errors.errorString") (by rw [star];kernel_rfl) aq bC u (by rw [star];exact h)
theorem NC {W:World} (hL:laidMetH Tryz.prog Rows.queueOnceUptoRow.laid W) (hS:W.ShapedOpen Tryz.prog):bq W:=by
 have hL':laidMet Tryz.prog Rows.queueOnceUptoRow.laid W:=hL
 obtain ⟨a0,s0,hv0,_⟩:=laid_sentinel (g:=4) hL'.tail.tail.tail.tail aq aq Tryz.underlying180 Vo Tryz.underlying298 Tryz.underlying300 rfl rfl Tryz.underlying9 aq aq
 obtain ⟨a1,s1,hv1,_⟩:=laid_sentinel (g:=3) hL'.tail.tail.tail.tail.tail aq aq Tryz.underlying180 Vo Tryz.underlying298 Tryz.underlying300 rfl rfl Tryz.underlying9 aq aq
 refine ⟨cell_of_shapedOpen_int (zero:=#[.int .i64 0]) hS (of_decide_eq_true aq) aq aq aq aq Tryz.underlying3,⟨_,by simpa using World.var?_cell (show Tryz.prog.globalNamed "strconv.ErrSyntax" =some 3 by kernel_rfl) hv1 0,.inr ⟨_,_,rfl⟩⟩,⟨_,by simpa using World.var?_cell (show Tryz.prog.globalNamed "strconv.ErrRange" =some 4 by kernel_rfl) hv0 0,.inr ⟨_,_,rfl⟩⟩⟩
noncomputable def xS (os:Os):World:=
 let N:=(World.settled Tryz.prog os).heap.size
 let w0:=World.holding Tryz.prog os ⟨#[.cells #[.string ⟨#[118,97,108,117,101,32,111,117,116,32,111,102,32,114,97,110,103,101]⟩] 300,.cells #[.string ⟨#[105,110,118,97,108,105,100,32,115,121,110,116,97,120]⟩] 300],#[],[]⟩
 let put (h:Array Obj) (g:Nat) (cs:Array Value):Array Obj:=h.modify g fun
  | .cells _ t frozen=> .cells cs t frozen
  |o=>o
 {w0 with heap:=(put (put (put (put (put (put (put w0.heap 6 #[Value.int .u8 0,Value.int .u8 1,Value.int .u8 28,Value.int .u8 2,Value.int .u8 29,Value.int .u8 14,Value.int .u8 24,Value.int .u8 3,Value.int .u8 30,Value.int .u8 22,Value.int .u8 20,Value.int .u8 15,Value.int .u8 25,Value.int .u8 17,Value.int .u8 4,Value.int .u8 8,Value.int .u8 31,Value.int .u8 27,Value.int .u8 13,Value.int .u8 23,Value.int .u8 21,Value.int .u8 19,Value.int .u8 16,Value.int .u8 7,Value.int .u8 26,Value.int .u8 12,Value.int .u8 18,Value.int .u8 6,Value.int .u8 11,Value.int .u8 5,Value.int .u8 10,Value.int .u8 9]) 7 #[Value.int .u8 0,Value.int .u8 1,Value.int .u8 56,Value.int .u8 2,Value.int .u8 57,Value.int .u8 49,Value.int .u8 28,Value.int .u8 3,Value.int .u8 61,Value.int .u8 58,Value.int .u8 42,Value.int .u8 50,Value.int .u8 38,Value.int .u8 29,Value.int .u8 17,Value.int .u8 4,Value.int .u8 62,Value.int .u8 47,Value.int .u8 59,Value.int .u8 36,Value.int .u8 45,Value.int .u8 43,Value.int .u8 51,Value.int .u8 22,Value.int .u8 53,Value.int .u8 39,Value.int .u8 33,Value.int .u8 30,Value.int .u8 24,Value.int .u8 18,Value.int .u8 12,Value.int .u8 5,Value.int .u8 63,Value.int .u8 55,Value.int .u8 48,Value.int .u8 27,Value.int .u8 60,Value.int .u8 41,Value.int .u8 37,Value.int .u8 16,Value.int .u8 46,Value.int .u8 35,Value.int .u8 44,Value.int .u8 21,Value.int .u8 52,Value.int .u8 32,Value.int .u8 23,Value.int .u8 11,Value.int .u8 54,Value.int .u8 26,Value.int .u8 40,Value.int .u8 15,Value.int .u8 34,Value.int .u8 20,Value.int .u8 31,Value.int .u8 10,Value.int .u8 25,Value.int .u8 14,Value.int .u8 19,Value.int .u8 9,Value.int .u8 13,Value.int .u8 8,Value.int .u8 7,Value.int .u8 6]) 5 #[Value.int .u64 1,Value.int .u64 10,Value.int .u64 100,Value.int .u64 1000,Value.int .u64 10000,Value.int .u64 100000,Value.int .u64 1000000,Value.int .u64 10000000,Value.int .u64 100000000,Value.int .u64 1000000000,Value.int .u64 10000000000,Value.int .u64 100000000000,Value.int .u64 1000000000000,Value.int .u64 10000000000000,Value.int .u64 100000000000000,Value.int .u64 1000000000000000,Value.int .u64 10000000000000000,Value.int .u64 100000000000000000,Value.int .u64 1000000000000000000,Value.int .u64 10000000000000000000]) 2 #[Value.int .u8 128,Value.int .u8 191,Value.int .u8 160,Value.int .u8 191,Value.int .u8 128,Value.int .u8 159,Value.int .u8 144,Value.int .u8 191,Value.int .u8 128,Value.int .u8 143,Value.int .u8 0,Value.int .u8 0,Value.int .u8 0,Value.int .u8 0,Value.int .u8 0,Value.int .u8 0,Value.int .u8 0,Value.int .u8 0,Value.int .u8 0,Value.int .u8 0,Value.int .u8 0,Value.int .u8 0,Value.int .u8 0,Value.int .u8 0,Value.int .u8 0,Value.int .u8 0,Value.int .u8 0,Value.int .u8 0,Value.int .u8 0,Value.int .u8 0,Value.int .u8 0,Value.int .u8 0]) 4 #[.iface 298 (.pointer (some ⟨N + 0,0,none⟩))]) 3 #[.iface 298 (.pointer (some ⟨N + 1,0,none⟩))]) 1 (Go.Pinned.utf8FirstZ.map fun (z:Nat)=>Value.int .u8 (z:Int)).toArray)}
theorem Vp (os:Os):laidMet Tryz.prog Rows.queueOnceUptoRow.laid ((xS os).forCall (fun _ _ =>0) ⟨#[],#[.slice none 0 0],[]⟩).memory:=
 laidMet_of_run' 8 aq aq
theorem LQ (os:Os) {H:Type} (enc:TypeId×Value→H):
 (Rows.OpenSpec.upto Rows.queueOnceSpec).preRow enc Tryz.prog Tryz.f5 Rows.queueOnceUptoRow.domain false Rows.queueOnceUptoRow.laid ((xS os).forCall (fun _ _ =>0) ⟨#[],#[.slice none 0 0],[]⟩).memory #[.slice none 0 0]:=by
 have hw:(DataW.whole enc Tryz.prog ((xS os).forCall (fun _ _ =>0) ⟨#[],#[.slice none 0 0],[]⟩).memory Tryz.f5.params.toList Rows.queueOnceSpec.vars false #[.slice none 0 0].toList 8).map (fun x=>(x.1,x.2.1))=
  some ([.nil],[]):=by kernel_rfl
 obtain ⟨⟨x1,x2,x3⟩,hx,hx1⟩:=Option.map_eq_some_iff.1 hw
 simp only [Prod.mk.injEq] at hx1
 obtain ⟨rfl,rfl⟩:=hx1
 exact OpenSpec.preRow_of_cond 8 hx aq (fun k hk=>by cases hk;kernel_rfl) aq (Vp os)
set_option maxHeartbeats 2000000 in
theorem lifted (os:Os) (started:os.Started) (H:Type) (enc:TypeId×Value→H) (F:Stop.Interp):
 ReturnsInHanded {} Tryz.checked os 5 .any ((Rows.OpenSpec.upto Rows.queueOnceSpec).preRow enc Tryz.prog Tryz.f5 Rows.queueOnceUptoRow.domain false Rows.queueOnceUptoRow.laid) (((Rows.OpenSpec.upto Rows.queueOnceSpec).at F).post enc Tryz.prog Tryz.f5 false true false false):=by
 refine returnsInHanded_of_row (C:=Tryz.checked) (s:=Rows.OpenSpec.upto Rows.queueOnceSpec) own started aq Tryz.func5
  (witness_row_atRef (enc:=enc) (C:=Tryz.checked) false (xS os) #[.slice none 0 0] rfl aq aq aq (LQ os enc)) ?_
 intro W base args ds gs before acd hW hcnd hcond alM hL hS _
 have hk:=hcond _ rfl
 have hG:=NC hL hS
 clear hcnd hcond hL hS
 have hsz:(DataW.weightsEach Tryz.prog (Tryz.f5.params.toList ++ Rows.queueOnceSpec.plain.varTypes Tryz.prog) (ds ++ gs)).all (·≤reachBytes)=true:=alM
 have hval:∀ (j:Nat) t v,Tryz.f5.params[j]? =some t→args[j]? =some v→Value.okWide Tryz.prog W .any base t v:=acd
 have hW':=hW
 obtain ⟨p,q,hA0,hV,rfl,hfz,hnd⟩:=hW
 have hA:DataW.TrodAll enc Tryz.prog W 0 (fun _ =>true) true Tryz.f5.params.toList args.toList ds p:=hA0
 rw [Tryz.params5] at hA hval hsz
 obtain ⟨v0,vs0,d0,ds0,p0,q0,hargs,rfl,rfl,h0,r0⟩:=trodAll_cons hA
 obtain ⟨rfl,rfl,rfl⟩:=trodAll_nil r0
 obtain rfl:args= #[v0]:=by cases args;simp_all
 obtain ⟨rfl,rfl⟩:=trodVars_none hV
 have k0:=h0
 have lt0:∀ x∈p0,x.block < W.heap.size:=by obtain ⟨m,hm⟩:=k0;exact DataW.trod_lt m _ _ _ hm
 obtain ⟨A0,c0,l0,rfl,hC0,hc0,hs0⟩:=aeL.Kl (hval 0 58 v0 rfl rfl) h0
 clear hA0 acd alM hsz
 have hb:=of_decide_eq_true hk
 simp only [List.append_nil,List.cons_append,List.nil_append,Rows.uptoBulkAll,Rows.uptoBulk] at hb
 clear hk
 refine (mU.Sy 3200000 (Nat.le_refl _) A0 c0 l0 W hC0 hc0 hG (hs0 (by show _≤1048576;omega))).mono fun e W' ⟨he,bel⟩=>?_
 subst he
 exact ⟨_,rfl,_,_,_,[],_,[],hW',trodAll_mk1 (shut_bool Tryz.underlying4 _),(trodAll_cons_mk (Below.trod aeL.laidOut aq (of_decide_eq_true aq) k0 bel lt0) trodAll_mk0),rfl,bel.frame _,fun h=>by cases h⟩
theorem aeR:laidOutB Tryz.pinned.checked.prog=true:=by kernel_rfl
theorem aa0:mapsRowed Tryz.pinned.checked.prog=true:=by kernel_rfl
theorem aa1:(Rows.queueOnceUptoRow.inPlace == Tryz.pinned.checked.prog.inPlace 5)=true:=by kernel_rfl
theorem alN:(Rows.queueOnceUptoRow.unfollowed == Tryz.pinned.checked.prog.unfollowed 5)=true:=by kernel_rfl
theorem alO:(Rows.queueOnceUptoRow.recurses == Tryz.pinned.checked.prog.recurses 5)=true:=by kernel_rfl
theorem aa2:(Rows.queueOnceUptoRow.named == Tryz.pinned.checked.prog.varsNamed 5)=true:=by kernel_rfl
theorem closed:joinedFacts Tryz.pinned.checked.prog 5 Tryz.f5 (Rows.OpenSpec.upto Rows.queueOnceSpec).bare Rows.queueOnceUptoRow=true:=by
 unfold joinedFacts
 rw [aeR,aa0,aa1,alN,alO,aa2]
 kernel_rfl
theorem said:Rows.QueueOnceUptoSaid:=
 OpenClaim.holds_of_cond 5 Tryz.f5 rfl rfl rfl rfl rfl rfl rfl ⟨rfl,rfl,rfl,rfl,rfl⟩ rfl rfl rfl rfl rfl aq Tryz.func5 closed
  (of_decide_eq_true aq) (by unfold Func.isWrapper;first|(rw [if_pos (by decide +kernel)];kernel_rfl)|(rw [if_neg (by decide +kernel)];exact ⟨rfl,rfl⟩))
  (fun os started H enc _ F=>by rw [OpenClaim.pre_eq_preRow];exact lifted os started H enc F)
theorem plain (f:FuncId) (fn:Func) (hf:Tryz.pinned.checked.prog.funcNamed "franking/frankinglaw22.QueueOnce" =some f) (hfn:Tryz.pinned.checked.prog.funcs[f]? =some fn):
 true=Tryz.pinned.checked.prog.looks []∧∀ (j:Nat) t,fn.params[j]? =some t→Tryz.pinned.checked.prog.wantsStandIn t=false:=by
 obtain rfl:f=5:=Option.some.inj ((show Tryz.prog.funcNamed "franking/frankinglaw22.QueueOnce" =some 5 by kernel_rfl).symm.trans hf)|>.symm
 obtain rfl:fn=Tryz.f5:=(Option.some.inj (Tryz.func5.symm.trans hfn)).symm
 refine ⟨aq,fun j t ht=>?_⟩
 rw [Tryz.params5] at ht
 have hall:∀ u,u∈(#[58]:Array TypeId)→Tryz.prog.wantsStandIn u=false:=by
  intro u hu
  simp at hu
  rcases hu with rfl<;>kernel_rfl
 exact hall t (Array.mem_of_getElem? ht)
theorem card:Rows.QueueOnceUptoCardSaid:=
 Claim7.holds_tied_plain_at .later [] _ _ _ _ said (fun _ h=>by cases h) aq (fun _ h=>by cases h) queueOnceUpto_row_tie rfl ⟨rfl,rfl⟩ aq rfl plain aq
end Go.Proofs.YtbjjaaodfbjkfaaGreatDoor.queueOnce
namespace Go.Proofs.YtbjjaaodfbjkfaaGreatDoor
theorem queueOnce_upto_card:Rows.QueueOnceUptoCardSaid:=queueOnce.card
end Go.Proofs.YtbjjaaodfbjkfaaGreatDoor
