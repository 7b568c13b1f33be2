/- spoondriftlaw18.ZxMeans returns true for every input, and what was passed in reads as before: the row and its tied card. Conditions: none beyond the row's own, that the listed variables read as their initialisers lay them, which the card ties to the program's text. -/
import Derived.Test.YtcoackmdmohnhaaGreatDoorV33
import Derived.Test.YtcoackmdmohnhaaGreatDoorCards
import Derived.Test.YtcoackmdmohnhaaGreatDoorTie
set_option linter.unusedVariables false
set_option linter.unusedSimpArgs false
set_option maxRecDepth 100000
namespace Go.Proofs.YtcoackmdmohnhaaGreatDoor
open Go.ChangeShapes Go.WideShapes Go.ChangeAt Go.RowKit Go.WideElems Go.Maps Go.Deep
theorem door_met (os:Os) (args:Array Value):laidMetH Tryz.prog Rows.zxMeansRow.laid ((World.doorLaid Tryz.prog 63 os).forCall (fun _ _=>0) ⟨#[],args,[]⟩).memory:=
  laidMetH_of_parts3 (fuel:=8) (laidMet_of_run' 8 (by kernel_rfl) (by kernel_rfl)) (by kernel_rfl) (by kernel_rfl)
abbrev nilA:Value:= .agg #[.slice none 0 0, .slice none 0 0, .slice none 0 0, .slice none 0 0, .int .i64 0, .int .i64 0, .int .i64 0, .int .i64 0, .int .i64 0]
theorem meansLifted (os:Os) (started:os.Started) (H:Type) (enc:TypeId × Value→H):
    ReturnsInHanded {} Tryz.checked os 3 .any (fun w args=>(Rows.zxMeansSpec.pre enc Tryz.prog Tryz.f3 [] false w args∧laidMetH Tryz.prog Rows.zxMeansRow.laid w)∧sizedMet enc Tryz.prog Tryz.f3 (OpenSpec.ofChange Rows.zxMeansSpec) false w args)
      (Rows.zxMeansSpec.post enc Tryz.prog Tryz.f3 false true false false):=by
  refine returnsInHanded_of_change_and (C:=Tryz.checked) (X:=fun w _=>laidMetH Tryz.prog Rows.zxMeansRow.laid w) (fun _ _ _ hh h=>h.of_heap hh) ownK started (by kernel_rfl) Tryz.func3
    (ChangeSpec.witness_shaped (enc:=enc) (C:=Tryz.checked) (os:=os) (X:=fun w _=>laidMetH Tryz.prog Rows.zxMeansRow.laid w) false (World.doorLaid Tryz.prog 63 os) #[nilA] 8 rfl (World.shaped_of_RefB (by kernel_rfl) (by kernel_rfl)) (by kernel_rfl) (by kernel_rfl) (by kernel_rfl) (door_met os _)) ?_
  intro W base args ds gs before hval0 hW _ _ hL _
  have hval:∀(j:Nat) t v,Tryz.f3.params[j]?=some t→args[j]?=some v→Value.okWide Tryz.prog W .any base t v:=hval0
  have hW':=hW
  obtain⟨p,q,hA0,hV,rfl,hfz,hnd⟩:=hW
  have hA:DataW.TrodAll enc Tryz.prog W 0 (fun _=>true) true Tryz.f3.params.toList args.toList ds p:=hA0
  rw[Tryz.params3]at hA hval
  obtain⟨v0,d0,rfl,rfl,r0⟩:=trodAll_one hA
  obtain⟨rfl,rfl⟩:=trodVars_none hV
  obtain⟨v,d,rfl,hd⟩:=dia_open (hval 0 28 v0 rfl rfl) r0
  obtain⟨hG,hP⟩:=of_laid hL
  have hltv:∀x∈p,x.block<W.heap.size:=fun x hx=>hW'.lt x (by simp[hx])
  clear hA0 hA hval0
  refine(lawM3 v d W hd hG hP).mono fun e W' ⟨he,hB⟩=>?_
  subst he
  refine⟨_,rfl,_,_,_,[],p,[],hW',?_,?_,?_,hB.frame _,fun h=>by cases h⟩
  · exact trodAll_mk1 (shut_bool Tryz.underlying4 true)
  · exact trodAll_mk1 (Below.trod laidOutT (by kernel_rfl) (of_decide_eq_true (by kernel_rfl)) r0 hB hltv)
  · exact rfl
theorem meansSaid:Rows.ZxMeansSaid:=
  OpenClaim.holds_of_wide 3 Tryz.f3 rfl rfl rfl rfl rfl rfl rfl ⟨rfl,rfl,rfl,rfl,rfl⟩ rfl rfl rfl rfl rfl (by kernel_rfl) Tryz.func3 (by kernel_rfl)
    (of_decide_eq_true (by kernel_rfl)) (by unfold Func.isWrapper;first|(rw[if_pos (by decide +kernel)];kernel_rfl)|(rw[if_neg (by decide +kernel)];exact⟨rfl,rfl⟩))
    (fun os started H enc _=>meansLifted os started H enc)
theorem meansPlain (f:FuncId) (fn:Func) (hf:Tryz.pinned.checked.prog.funcNamed "spoondrift/spoondriftlaw18.ZxMeans" =some f) (hfn:Tryz.pinned.checked.prog.funcs[f]?=some fn):
    false=Tryz.pinned.checked.prog.looks []∧∀(j:Nat) t,fn.params[j]?=some t→Tryz.pinned.checked.prog.wantsStandIn t=false:=by
  obtain rfl:f=3:=Option.some.inj ((show Tryz.prog.funcNamed "spoondrift/spoondriftlaw18.ZxMeans" =some 3 by kernel_rfl).symm.trans hf) |>.symm
  obtain rfl:fn=Tryz.f3:=(Option.some.inj (Tryz.func3.symm.trans hfn)).symm
  refine⟨by kernel_rfl,fun j t ht=>?_⟩
  rw[Tryz.params3]at ht
  have hm:t∈[28]:=by simpa using Array.mem_of_getElem? ht
  have hall:([28].all fun u=>!Tryz.prog.wantsStandIn u)=true:=by kernel_rfl
  exact(show Tryz.prog.wantsStandIn t=false by simpa using List.all_eq_true.1 hall t hm)
theorem meansCard:Rows.ZxMeansCardSaid:=
  Claim7.holds_tied_plain_at .later [] _ _ _ _ meansSaid (fun _ h=>by cases h) (by kernel_rfl) (fun _ h=>by cases h) zxMeans_row_tie rfl ⟨rfl,rfl⟩ (by kernel_rfl) rfl meansPlain (by kernel_rfl)
#print axioms meansCard
end Go.Proofs.YtcoackmdmohnhaaGreatDoor
