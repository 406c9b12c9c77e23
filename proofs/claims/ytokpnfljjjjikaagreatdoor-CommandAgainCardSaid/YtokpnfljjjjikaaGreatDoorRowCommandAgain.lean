/- CommandAgain: the row and its card. -/
import Derived.Test.YtokpnfljjjjikaaGreatDoorZo
import Derived.Test.YtokpnfljjjjikaaGreatDoorCards
import Derived.Test.YtokpnfljjjjikaaGreatDoorTie
import Derived.Test.YtokpnfljjjjikaaGreatDoorQCbx19
import Derived.Test.YtokpnfljjjjikaaGreatDoorPLaws
import Derived.WalkKit
import Derived.ProofKit
import Derived.OpenShut
import Derived.ShutString
import Derived.ChangeOld
import Derived.Below
import Derived.SizedLaws
import Derived.Deep.DeepHandedRow
import Derived.Deep.DeepWitnessRowRef
import Derived.Stop.LaidErr
import Derived.Shelf.Vars
namespace Go.Proofs.YtokpnfljjjjikaaGreatDoor.commandAgain
open Go.ChangeShapes Go.WideShapes Go.ChangeAt Go.RowKit
open Go.ChangeMaps (open_string shut_string)
open Go.Proofs.aj.bV (fN)
set_option linter.unusedVariables false
set_option linter.unusedSimpArgs false
theorem own:ownKnob Tryz.prog.godebug=none:=by kernel_rfl
theorem star: "*" ++ "errors.errorString" = "*errors.errorString":=by decide
theorem Xp (u:TypeId) (h:Tryz.prog.typeName? 3 u=some "*errors.errorString"):u=212:=
 typeName_ptr_named (nm:= "errors.errorString") (by rw [star];kernel_rfl) av bU u (by rw [star];exact h)
theorem PE {W:World} (hL:laidMetH Tryz.prog Rows.commandAgainRow.laid W) (hS:W.ShapedOpen Tryz.prog):aU W:=by
 have hL':laidMet Tryz.prog Rows.commandAgainRow.laid W:=hL
 obtain ⟨a0,s0,hv0,_⟩:=laid_sentinel (g:=6) hL'.tail.tail.tail.tail av av Tryz.underlying75 Xp Tryz.underlying212 Tryz.underlying214 rfl rfl Tryz.underlying9 av av
 obtain ⟨a1,s1,hv1,_⟩:=laid_sentinel (g:=5) hL'.tail.tail.tail.tail.tail av av Tryz.underlying75 Xp Tryz.underlying212 Tryz.underlying214 rfl rfl Tryz.underlying9 av av
 refine ⟨Xo hL'.tail.tail.tail.tail.tail.tail,cell_of_shapedOpen_int (zero:=#[.int .i64 0]) hS (of_decide_eq_true av) av av av av Tryz.underlying3,⟨_,by simpa using World.var?_cell (show Tryz.prog.globalNamed "strconv.ErrSyntax" =some 5 by kernel_rfl) hv1 0,.inr ⟨_,_,rfl⟩⟩,⟨_,by simpa using World.var?_cell (show Tryz.prog.globalNamed "strconv.ErrRange" =some 6 by kernel_rfl) hv0 0,.inr ⟨_,_,rfl⟩⟩⟩
noncomputable def yZ (os:Os):World:=
 let N:=(World.settled Tryz.prog os).heap.size
 let w0:=World.holding Tryz.prog os ⟨#[.cells #[.string ⟨#[118,97,108,117,101,32,111,117,116,32,111,102,32,114,97,110,103,101]⟩] 214,.cells #[.string ⟨#[105,110,118,97,108,105,100,32,115,121,110,116,97,120]⟩] 214,.cells #[.string ⟨#[]⟩,.string ⟨#[72,69,76,79]⟩,.string ⟨#[69,72,76,79]⟩,.string ⟨#[77,65,73,76]⟩,.string ⟨#[82,67,80,84]⟩,.string ⟨#[68,65,84,65]⟩,.string ⟨#[82,83,69,84]⟩,.string ⟨#[86,82,70,89]⟩,.string ⟨#[69,88,80,78]⟩,.string ⟨#[78,79,79,80]⟩,.string ⟨#[72,69,76,80]⟩,.string ⟨#[81,85,73,84]⟩] 9],#[],[]⟩
 let put (h:Array Obj) (g:Nat) (cs:Array Value):Array Obj:=h.modify g fun
  | .cells _ t frozen=> .cells cs t frozen
  |o=>o
 {w0 with heap:=(put (put (put (put (put (put (put (put w0.heap 8 #[Value.int .u8 0,Value.int .u8 1,Value.int .u8 28,Value.int .u8 2,Value.int .u8 29,Value.int .u8 14,Value.int .u8 24,Value.int .u8 3,Value.int .u8 30,Value.int .u8 22,Value.int .u8 20,Value.int .u8 15,Value.int .u8 25,Value.int .u8 17,Value.int .u8 4,Value.int .u8 8,Value.int .u8 31,Value.int .u8 27,Value.int .u8 13,Value.int .u8 23,Value.int .u8 21,Value.int .u8 19,Value.int .u8 16,Value.int .u8 7,Value.int .u8 26,Value.int .u8 12,Value.int .u8 18,Value.int .u8 6,Value.int .u8 11,Value.int .u8 5,Value.int .u8 10,Value.int .u8 9]) 9 #[Value.int .u8 0,Value.int .u8 1,Value.int .u8 56,Value.int .u8 2,Value.int .u8 57,Value.int .u8 49,Value.int .u8 28,Value.int .u8 3,Value.int .u8 61,Value.int .u8 58,Value.int .u8 42,Value.int .u8 50,Value.int .u8 38,Value.int .u8 29,Value.int .u8 17,Value.int .u8 4,Value.int .u8 62,Value.int .u8 47,Value.int .u8 59,Value.int .u8 36,Value.int .u8 45,Value.int .u8 43,Value.int .u8 51,Value.int .u8 22,Value.int .u8 53,Value.int .u8 39,Value.int .u8 33,Value.int .u8 30,Value.int .u8 24,Value.int .u8 18,Value.int .u8 12,Value.int .u8 5,Value.int .u8 63,Value.int .u8 55,Value.int .u8 48,Value.int .u8 27,Value.int .u8 60,Value.int .u8 41,Value.int .u8 37,Value.int .u8 16,Value.int .u8 46,Value.int .u8 35,Value.int .u8 44,Value.int .u8 21,Value.int .u8 52,Value.int .u8 32,Value.int .u8 23,Value.int .u8 11,Value.int .u8 54,Value.int .u8 26,Value.int .u8 40,Value.int .u8 15,Value.int .u8 34,Value.int .u8 20,Value.int .u8 31,Value.int .u8 10,Value.int .u8 25,Value.int .u8 14,Value.int .u8 19,Value.int .u8 9,Value.int .u8 13,Value.int .u8 8,Value.int .u8 7,Value.int .u8 6]) 7 #[Value.int .u64 1,Value.int .u64 10,Value.int .u64 100,Value.int .u64 1000,Value.int .u64 10000,Value.int .u64 100000,Value.int .u64 1000000,Value.int .u64 10000000,Value.int .u64 100000000,Value.int .u64 1000000000,Value.int .u64 10000000000,Value.int .u64 100000000000,Value.int .u64 1000000000000,Value.int .u64 10000000000000,Value.int .u64 100000000000000,Value.int .u64 1000000000000000,Value.int .u64 10000000000000000,Value.int .u64 100000000000000000,Value.int .u64 1000000000000000000,Value.int .u64 10000000000000000000]) 3 #[Value.int .u8 128,Value.int .u8 191,Value.int .u8 160,Value.int .u8 191,Value.int .u8 128,Value.int .u8 159,Value.int .u8 144,Value.int .u8 191,Value.int .u8 128,Value.int .u8 143,Value.int .u8 0,Value.int .u8 0,Value.int .u8 0,Value.int .u8 0,Value.int .u8 0,Value.int .u8 0,Value.int .u8 0,Value.int .u8 0,Value.int .u8 0,Value.int .u8 0,Value.int .u8 0,Value.int .u8 0,Value.int .u8 0,Value.int .u8 0,Value.int .u8 0,Value.int .u8 0,Value.int .u8 0,Value.int .u8 0,Value.int .u8 0,Value.int .u8 0,Value.int .u8 0,Value.int .u8 0]) 6 #[.iface 212 (.pointer (some ⟨N + 0,0,none⟩))]) 5 #[.iface 212 (.pointer (some ⟨N + 1,0,none⟩))]) 0 #[.slice (some ⟨N + 2,0,none⟩) 12 12]) 2 (Go.Pinned.utf8FirstZ.map fun (z:Nat)=>Value.int .u8 (z:Int)).toArray)}
set_option maxRecDepth 1000000 in
theorem Xq (os:Os):laidMet Tryz.prog Rows.commandAgainRow.laid ((yZ os).forCall (fun _ _ =>0) ⟨#[],#[.string ByteArray.empty],[]⟩).memory:=
 laidMet_of_run' 8 av av
set_option maxRecDepth 1000000 in
theorem NM (os:Os) {H:Type} (enc:TypeId×Value→H):
 (OpenSpec.ofChange Rows.commandAgainSpec).preRow enc Tryz.prog Tryz.f8 Rows.commandAgainRow.domain false Rows.commandAgainRow.laid ((yZ os).forCall (fun _ _ =>0) ⟨#[],#[.string ByteArray.empty],[]⟩).memory #[.string ByteArray.empty]:=by
 have hw:(DataW.whole enc Tryz.prog ((yZ os).forCall (fun _ _ =>0) ⟨#[],#[.string ByteArray.empty],[]⟩).memory Tryz.f8.params.toList Rows.commandAgainSpec.vars false #[.string ByteArray.empty].toList 8).map (fun x=>(x.1,x.2.1))=
  some ([.lit (.string [])],[]):=by kernel_rfl
 obtain ⟨⟨x1,x2,x3⟩,hx,hx1⟩:=Option.map_eq_some_iff.1 hw
 simp only [Prod.mk.injEq] at hx1
 obtain ⟨rfl,rfl⟩:=hx1
 exact OpenSpec.preRow_of_cond 8 hx av (fun k hk=>by cases hk<;>kernel_rfl) av (Xq os)
set_option maxRecDepth 100000 in
set_option maxHeartbeats 2000000 in
theorem lifted (os:Os) (started:os.Started) (H:Type) (enc:TypeId×Value→H) (F:Stop.Interp):
 ReturnsInHanded {} Tryz.checked os 8 .any ((OpenSpec.ofChange Rows.commandAgainSpec).preRow enc Tryz.prog Tryz.f8 Rows.commandAgainRow.domain false Rows.commandAgainRow.laid) (((OpenSpec.ofChange Rows.commandAgainSpec).at F).post enc Tryz.prog Tryz.f8 false true false false):=by
 refine returnsInHanded_of_row (C:=Tryz.checked) (s:=OpenSpec.ofChange Rows.commandAgainSpec) own started av Tryz.func8
  (witness_row_atRef (enc:=enc) (C:=Tryz.checked) false (yZ os) #[.string ByteArray.empty] rfl av av av (NM os enc)) ?_
 intro W base args ds gs before aa8 hW hcnd hcond ahm hL hS _
 have hG:=PE hL hS
 clear hcnd hcond hL hS
 have hsz:(DataW.weightsEach Tryz.prog (Tryz.f8.params.toList ++ Rows.commandAgainSpec.plain.varTypes Tryz.prog) (ds ++ gs)).all (·≤reachBytes)=true:=ahm
 have hval:∀ (j:Nat) t v,Tryz.f8.params[j]? =some t→args[j]? =some v→Value.okWide Tryz.prog W .any base t v:=aa8
 have hW':=hW
 obtain ⟨p,q,hA0,hV,rfl,hfz,hnd⟩:=hW
 have hA:DataW.TrodAll enc Tryz.prog W 0 (fun _ =>true) true Tryz.f8.params.toList args.toList ds p:=hA0
 rw [Tryz.params8] at hA hval hsz
 obtain ⟨v0,vs0,d0,ds0,p0,q0,hargs,rfl,rfl,h0,r0⟩:=trodAll_cons hA
 obtain ⟨rfl,rfl,rfl⟩:=trodAll_nil r0
 obtain rfl:args= #[v0]:=by cases args;simp_all
 obtain ⟨rfl,rfl⟩:=trodVars_none hV
 obtain ⟨a0,rfl,rfl,rfl,y0⟩:=open_string Tryz.underlying9 (hval 0 9 v0 rfl rfl) h0
 have w0:a0.size≤140737488351232:=by
  have z:=sized_string hsz (j:=0) (t:=9) rfl rfl
  rw [Array.length_toList] at z
  exact z
 clear hA0 aa8 ahm hsz
 obtain ⟨kk,hf⟩:=lR.BH a0
 refine (pJ.fT.calls kk a0 true W hG hf).mono fun e W' ⟨he,wM⟩=>?_
 subst he
 exact ⟨_,rfl,_,_,_,[],_,[],hW',trodAll_mk1 (shut_bool Tryz.underlying4 _),(trodAll_cons_mk (shut_string Tryz.underlying9 y0) trodAll_mk0),rfl,wM.frame _,fun h=>by cases h⟩
theorem said:Rows.CommandAgainSaid:=
 OpenClaim.holds_of_cond 8 Tryz.f8 rfl rfl rfl rfl rfl rfl rfl ⟨rfl,rfl,rfl,rfl,rfl⟩ rfl rfl rfl rfl rfl av Tryz.func8 av
  (of_decide_eq_true av) (by unfold Func.isWrapper;first|(rw [if_pos gw];kernel_rfl)|(rw [if_neg gw];exact ⟨rfl,rfl⟩))
  (fun os started H enc _ F=>by rw [OpenClaim.pre_eq_preRow];exact lifted os started H enc F)
theorem plain (f:FuncId) (fn:Func) (hf:Tryz.pinned.checked.prog.funcNamed "franking/frankinglaw16.CommandAgain" =some f) (hfn:Tryz.pinned.checked.prog.funcs[f]? =some fn):
 true=Tryz.pinned.checked.prog.looks []∧∀ (j:Nat) t,fn.params[j]? =some t→Tryz.pinned.checked.prog.wantsStandIn t=false:=by
 obtain rfl:f=8:=Option.some.inj ((show Tryz.prog.funcNamed "franking/frankinglaw16.CommandAgain" =some 8 by kernel_rfl).symm.trans hf)|>.symm
 obtain rfl:fn=Tryz.f8:=(Option.some.inj (Tryz.func8.symm.trans hfn)).symm
 refine ⟨av,fun j t ht=>?_⟩
 rw [Tryz.params8] at ht
 have hall:∀ u,u∈(#[9]:Array TypeId)→Tryz.prog.wantsStandIn u=false:=by
  intro u hu
  simp at hu
  rcases hu with rfl<;>kernel_rfl
 exact hall t (Array.mem_of_getElem? ht)
theorem card:Rows.CommandAgainCardSaid:=
 Claim7.holds_tied_plain_at .later [] _ _ _ _ said (fun _ h=>by cases h) av (fun _ h=>by cases h) commandAgain_row_tie rfl ⟨rfl,rfl⟩ av rfl plain av
end Go.Proofs.YtokpnfljjjjikaaGreatDoor.commandAgain
namespace Go.Proofs.YtokpnfljjjjikaaGreatDoor
theorem commandAgain_card:Rows.CommandAgainCardSaid:=commandAgain.card
end Go.Proofs.YtokpnfljjjjikaaGreatDoor
