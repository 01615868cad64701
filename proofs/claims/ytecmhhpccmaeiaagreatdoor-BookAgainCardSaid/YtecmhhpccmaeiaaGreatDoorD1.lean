/- The statement BookAgainCard: the call returns true for every input, and its arguments read as before; no condition. Made small by a program of ours. -/
import Derived.Test.YtecmhhpccmaeiaaGreatDoorC5
set_option linter.unusedVariables false
set_option linter.unusedSimpArgs false
set_option maxRecDepth 100000
namespace Go.Proofs.YtecmhhpccmaeiaaGreatDoor
section
open Go.Gh Go.ChangeShapes Go.WideShapes Go.ChangeAt Go.RowKit
theorem aKV:∀ps,aBh [(false,[.str]),(false,[.list [.int .u8] false])] ps→bF Tryz.prog 7 ps (.ok (.bool true)):=fun ps h=>by
 simp only [aBh] at h
 obtain ⟨_,_,rfl,q0,_,_,rfl,q1,rfl⟩:=h
 obtain ⟨s,rfl,_⟩:=aNu q0
 obtain ⟨b,rfl,_⟩:=aNv q1
 exact aL5 s b
theorem aDE (os:Os) (started:os.Started) (H:Type) (enc:TypeId×Value→H) :
  ReturnsInHanded {} Tryz.checked os 7 .any (fun w args=>(Rows.bookAgainSpec.pre enc Tryz.prog Tryz.f7 Rows.bookAgainRow.domain false w args∧laidMetH Tryz.prog Rows.bookAgainRow.laid w)∧sizedMet enc Tryz.prog Tryz.f7 (OpenSpec.ofChange Rows.bookAgainSpec) false w args)
   (Rows.bookAgainSpec.post enc Tryz.prog Tryz.f7 false true false false):=by
 refine aNg (C:=Tryz.checked) (X:=fun w _=>laidMetH Tryz.prog Rows.bookAgainRow.laid w) (fun _ _ _ hh h=>h.of_heap hh) own started (by kernel_rfl) Tryz.func7
  (ChangeSpec.witness_shaped (enc:=enc) (C:=Tryz.checked) (os:=os) (X:=fun w _=>laidMetH Tryz.prog Rows.bookAgainRow.laid w) false (World.laidAll Tryz.prog os Rows.bookAgainRow.laid) #[.string ⟨#[]⟩,.slice none 0 0] 8 (World.laidAll_os _ _ _)
   (World.shaped_of_ZipB (by kernel_rfl) (by kernel_rfl)) (by kernel_rfl) (by kernel_rfl) (by kernel_rfl)
   (by rw [MakeChecks.laidMetH_plain _ _ _ (by kernel_rfl)];exact laidMet_laidAll _ (by kernel_rfl) (by kernel_rfl))) ?_
 intro W base args ds gs before hval hW hL hsh
 exact aJu (n:=9) (ss:=[(false,[.str]),(false,[.list [.int .u8] false])]) (b:=4) aLj (by kernel_rfl) (by kernel_rfl) (by kernel_rfl) (by kernel_rfl) rfl
  (fun ds hd=>by
   have hd':ds.length=2:=hd
   match ds,hd' with
   |[a0,a1],_=>rfl) aKV (aLk hsh hL) hval hW
theorem aEY:Rows.BookAgainSaid:=
 OpenClaim.holds_of_wide 7 Tryz.f7 rfl rfl rfl rfl rfl rfl rfl ⟨rfl,rfl,rfl,rfl,rfl⟩ rfl rfl rfl rfl rfl (by kernel_rfl) Tryz.func7 (by kernel_rfl)
  (of_decide_eq_true (by kernel_rfl)) (by unfold Func.isWrapper;first|(rw [if_pos (by decide +kernel)];kernel_rfl)|(rw [if_neg (by decide +kernel)];exact ⟨rfl,rfl⟩))
  (fun os started H enc _=>aDE os started H enc)
theorem again_card:Rows.BookAgainCardSaid:=
 Claim7.holds_tied_plain_at .later [] [.data,.data,.data,.data,.sentinel,.sentinel,.pinned] true (true,"bf0012137dc996682f27d889ddf79656a40c62ecec8e5e4f8ab2b9b36150a6e5") true aEY (fun _ h=>by cases h) (by kernel_rfl) (fun _ h=>by cases h) bookAgain_row_tie rfl ⟨rfl,rfl⟩ (by kernel_rfl) rfl
  (fun f fn hf hfn=>by
   obtain rfl:f=7:=Option.some.inj ((show Tryz.prog.funcNamed "zoneworks/zoneworkslaw14.BookAgain" = some 7 by kernel_rfl).symm.trans hf) |>.symm
   obtain rfl:fn=Tryz.f7:=(Option.some.inj (Tryz.func7.symm.trans hfn)).symm
   exact ⟨by kernel_rfl,fun j t ht=>by
    have hp:Tryz.f7.params = #[9,53]:=by kernel_rfl
    rw [hp] at ht
    have hm:t∈([9,53]:List TypeId):=by simpa using Array.mem_of_getElem? ht
    have hall:(([9,53]:List TypeId).all fun u=>!Tryz.prog.wantsStandIn u)=true:=by kernel_rfl
    exact (show Tryz.prog.wantsStandIn t=false by simpa using List.all_eq_true.1 hall t hm)⟩)
  (by kernel_rfl)
end
end Go.Proofs.YtecmhhpccmaeiaaGreatDoor
