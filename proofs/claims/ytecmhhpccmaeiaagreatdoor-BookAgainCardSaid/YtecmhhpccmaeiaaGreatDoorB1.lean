/- What functions of the program return, each for every input that its theorem names. Made small by a program of ours. -/
import Derived.Test.YtecmhhpccmaeiaaGreatDoorA3
import Derived.Lib.ItoaNum
import Derived.Test.YtecmhhpccmaeiaaGreatDoorProg
import Derived.HandedShaped
import Derived.Stop.LaidErr
import Derived.Lib.LaidTab
import Derived.Shelf.Vars
import Derived.Lay
import Derived.LaidMore
import Derived.SevenTiedAt
import Derived.Test.YtecmhhpccmaeiaaGreatDoorTie
import Derived.Test.YtecmhhpccmaeiaaGreatDoorCards
import Derived.Shelf.Strconv.Itoa3
import Derived.Shelf.Strconv.AtoiAll
import Derived.Shelf.Strings.Split
import Derived.Shelf.Strings.Cut
import Derived.Shelf.Strings.Prefix
import Derived.Shelf.Strings.LastIndex
import Derived.Shelf.Strings.Search1
import Derived.Shelf.Small.Strs
import Derived.KernelRfl
import Derived.Shelf.Strings.Builder1
import Derived.Lib.SplitLaws
import Derived.Lib.AtoiAll
import Derived.IntWalk
set_option linter.unusedVariables false
set_option linter.unusedSimpArgs false
set_option maxRecDepth 100000
set_option maxHeartbeats 1000000
set_option maxHeartbeats 4000000
namespace Go.Proofs.YtecmhhpccmaeiaaGreatDoor
section
open Go.Gh
instance:Kn Tryz.prog where
 good:=fun π=>(∀(i:Nat) k,Lib.pow10Tab[i]? = some k→π 1 i=some (.int .u64 k))∧(∃m,π 0 0=some (.int .i64 m))∧(∃t v,π 2 0=some (.iface t v))∧∃t v,π 3 0=some (.iface t v)
 mono:=fun h ⟨a,⟨m,b⟩,⟨t,v,c⟩,t',v',d⟩=>⟨fun i k hk=>h _ _ _ (a i k hk),⟨m,h _ _ _ b⟩,⟨t,v,h _ _ _ c⟩,t',v',h _ _ _ d⟩
theorem aAh:ti Tryz.prog 2=some ⟨.int .i64,1,8,[.p (.int .i64 0)],false⟩:=by kernel_rfl
theorem oX:ti Tryz.prog 3=some ⟨.int .i64,1,8,[.p (.int .i64 0)],false⟩:=by kernel_rfl
theorem wZ:ti Tryz.prog 4=some ⟨.bool,1,1,[.p (.bool false)],false⟩:=by kernel_rfl
theorem aAi:ti Tryz.prog 5=some ⟨.int .u8,1,1,[.p (.int .u8 0)],false⟩:=by kernel_rfl
theorem aAj:ti Tryz.prog 9=some ⟨.string,1,16,[.p (.str [])],false⟩:=by kernel_rfl
theorem rU:ti Tryz.prog 20=some ⟨.interface #[],1,16,[.p .niliface],false⟩:=by kernel_rfl
theorem rV:ti Tryz.prog 22=some ⟨.slice 24,1,24,[.nils],false⟩:=by kernel_rfl
theorem kG:ti Tryz.prog 24=some ⟨.struct #[⟨"Lo",3,0,false,"","",0⟩,⟨"Hi",3,1,false,"","",8⟩],2,16,[.p (.int .i64 0),.p (.int .i64 0)],true⟩:=by kernel_rfl
theorem rW:ti Tryz.prog 26=some ⟨.struct #[⟨"Errors",22,0,false,"","",0⟩,⟨"Eye",24,1,false,"","",24⟩],3,40,[.nils,.p (.int .i64 0),.p (.int .i64 0)],true⟩:=by kernel_rfl
theorem rX:ti Tryz.prog 27=some ⟨.slice 81,1,24,[.nils],false⟩:=by kernel_rfl
theorem rY:ti Tryz.prog 29=some ⟨.struct #[⟨"Screw",26,0,false,"","",0⟩,⟨"Images",3,3,false,"","",40⟩,⟨"Sum",24,4,false,"","",48⟩,⟨"Settings",27,6,false,"","",64⟩],7,88,[.nils,.p (.int .i64 0),.p (.int .i64 0),.p (.int .i64 0),.p (.int .i64 0),.p (.int .i64 0),.nils],true⟩:=by kernel_rfl
theorem rZ:ti Tryz.prog 30=some ⟨.slice 84,1,24,[.nils],false⟩:=by kernel_rfl
theorem sA:ti Tryz.prog 32=some ⟨.struct #[⟨"Scale",24,0,false,"","",0⟩,⟨"Stars",30,2,false,"","",16⟩],3,40,[.p (.int .i64 0),.p (.int .i64 0),.nils],true⟩:=by kernel_rfl
theorem sB:ti Tryz.prog 34=some ⟨.slice 126,1,24,[.nils],false⟩:=by kernel_rfl
theorem sC:ti Tryz.prog 35=some ⟨.slice 86,1,24,[.nils],false⟩:=by kernel_rfl
theorem sD:ti Tryz.prog 37=some ⟨.struct #[⟨"Plates",3,0,false,"","",0⟩,⟨"Persons",3,1,false,"","",8⟩,⟨"Knows",34,2,false,"","",16⟩,⟨"Records",35,3,false,"","",40⟩,⟨"Missing",3,4,false,"","",64⟩],5,72,[.p (.int .i64 0),.p (.int .i64 0),.nils,.nils,.p (.int .i64 0)],true⟩:=by kernel_rfl
theorem sE:ti Tryz.prog 38=some ⟨.slice 76,1,24,[.nils],false⟩:=by kernel_rfl
theorem sF:ti Tryz.prog 40=some ⟨.struct #[⟨"Speed",24,0,false,"","",0⟩,⟨"Nights",38,2,false,"","",16⟩,⟨"Strays",3,3,false,"","",40⟩],4,48,[.p (.int .i64 0),.p (.int .i64 0),.nils,.p (.int .i64 0)],true⟩:=by kernel_rfl
theorem sG:ti Tryz.prog 42=some ⟨.int .i64,1,8,[.p (.int .i64 0)],false⟩:=by kernel_rfl
theorem sH:ti Tryz.prog 53=some ⟨.slice 5,1,24,[.nils],false⟩:=by kernel_rfl
theorem sI:ti Tryz.prog 66=some ⟨.func #[29] #[4] false,1,8,[.p .nilfn],false⟩:=by kernel_rfl
theorem sJ:ti Tryz.prog 67=some ⟨.func #[32] #[4] false,1,8,[.p .nilfn],false⟩:=by kernel_rfl
theorem sK:ti Tryz.prog 68=some ⟨.func #[37] #[4] false,1,8,[.p .nilfn],false⟩:=by kernel_rfl
theorem sL:ti Tryz.prog 70=some ⟨.slice 42,1,24,[.nils],false⟩:=by kernel_rfl
theorem sM:ti Tryz.prog 74=some ⟨.slice 79,1,24,[.nils],false⟩:=by kernel_rfl
theorem sN:ti Tryz.prog 76=some ⟨.struct #[⟨"Day",3,0,false,"","",0⟩,⟨"Spots",74,1,false,"","",8⟩],2,32,[.p (.int .i64 0),.nils],true⟩:=by kernel_rfl
theorem sO:ti Tryz.prog 79=some ⟨.struct #[⟨"East",24,0,false,"","",0⟩,⟨"North",24,2,false,"","",16⟩],4,32,[.p (.int .i64 0),.p (.int .i64 0),.p (.int .i64 0),.p (.int .i64 0)],true⟩:=by kernel_rfl
theorem sP:ti Tryz.prog 81=some ⟨.struct #[⟨"Image",3,0,false,"","",0⟩,⟨"Reading",3,1,false,"","",8⟩,⟨"Reversed",4,2,false,"","",16⟩],3,24,[.p (.int .i64 0),.p (.int .i64 0),.p (.bool false)],true⟩:=by kernel_rfl
theorem sQ:ti Tryz.prog 84=some ⟨.struct #[⟨"X",24,0,false,"","",0⟩,⟨"Y",24,2,false,"","",16⟩,⟨"Known",4,4,false,"","",32⟩,⟨"East",24,5,false,"","",40⟩,⟨"North",24,7,false,"","",56⟩],9,72,[.p (.int .i64 0),.p (.int .i64 0),.p (.int .i64 0),.p (.int .i64 0),.p (.bool false),.p (.int .i64 0),.p (.int .i64 0),.p (.int .i64 0),.p (.int .i64 0)],true⟩:=by kernel_rfl
theorem sR:ti Tryz.prog 86=some ⟨.struct #[⟨"Plate",3,0,false,"","",0⟩,⟨"From",3,1,false,"","",8⟩,⟨"To",3,2,false,"","",16⟩],3,24,[.p (.int .i64 0),.p (.int .i64 0),.p (.int .i64 0)],true⟩:=by kernel_rfl
theorem sS:ti Tryz.prog 96=some ⟨.func #[159,29] #[] false,1,8,[.p .nilfn],false⟩:=by kernel_rfl
theorem sT:ti Tryz.prog 97=some ⟨.map 9 169,1,8,[.p .nilmap],false⟩:=by kernel_rfl
theorem sU:ti Tryz.prog 99=some ⟨.struct #[⟨"write",96,0,false,"","zoneworks/book",0⟩,⟨"lines",97,1,false,"","zoneworks/book",8⟩,⟨"is",66,2,false,"","zoneworks/book",16⟩],3,24,[.p .nilfn,.p .nilmap,.p .nilfn],true⟩:=by kernel_rfl
theorem lK:ti Tryz.prog 111=some ⟨.func #[159,32] #[] false,1,8,[.p .nilfn],false⟩:=by kernel_rfl
theorem lL:ti Tryz.prog 112=some ⟨.map 9 194,1,8,[.p .nilmap],false⟩:=by kernel_rfl
theorem lM:ti Tryz.prog 114=some ⟨.struct #[⟨"write",111,0,false,"","zoneworks/book",0⟩,⟨"lines",112,1,false,"","zoneworks/book",8⟩,⟨"is",67,2,false,"","zoneworks/book",16⟩],3,24,[.p .nilfn,.p .nilmap,.p .nilfn],true⟩:=by kernel_rfl
theorem lN:ti Tryz.prog 121=some ⟨.func #[159,37] #[] false,1,8,[.p .nilfn],false⟩:=by kernel_rfl
theorem lO:ti Tryz.prog 122=some ⟨.map 9 209,1,8,[.p .nilmap],false⟩:=by kernel_rfl
theorem lP:ti Tryz.prog 124=some ⟨.struct #[⟨"write",121,0,false,"","zoneworks/book",0⟩,⟨"lines",122,1,false,"","zoneworks/book",8⟩,⟨"is",68,2,false,"","zoneworks/book",16⟩],3,24,[.p .nilfn,.p .nilmap,.p .nilfn],true⟩:=by kernel_rfl
theorem lQ:ti Tryz.prog 126=some ⟨.array 2 3,2,16,[.p (.int .i64 0),.p (.int .i64 0)],true⟩:=by kernel_rfl
theorem lR:ti Tryz.prog 132=some ⟨.struct #[⟨"bytes",53,0,false,"","zoneworks/book",0⟩],1,24,[.nils],true⟩:=by kernel_rfl
theorem lS:ti Tryz.prog 142=some ⟨.func #[] #[3] false,1,8,[.p .nilfn],false⟩:=by kernel_rfl
theorem lT:ti Tryz.prog 143=some ⟨.int .u64,1,8,[.p (.int .u64 0)],false⟩:=by kernel_rfl
theorem lU:ti Tryz.prog 156=some ⟨.struct #[⟨"addr",154,0,false,"","strings",0⟩,⟨"buf",53,1,false,"","strings",8⟩],2,32,[.p .nilptr,.nils],true⟩:=by kernel_rfl
theorem lV:ti Tryz.prog 158=some ⟨.struct #[⟨"Builder",156,0,true,"","",0⟩],2,32,[.p .nilptr,.nils],true⟩:=by kernel_rfl
theorem lW:ti Tryz.prog 162=some ⟨.array 2 9,2,32,[.p (.str []),.p (.str [])],true⟩:=by kernel_rfl
theorem lX:ti Tryz.prog 168=some ⟨.struct #[⟨"images",3,0,false,"","zoneworks/book",0⟩,⟨"sum",24,1,false,"","zoneworks/book",8⟩,⟨"eye",24,3,false,"","zoneworks/book",24⟩],5,40,[.p (.int .i64 0),.p (.int .i64 0),.p (.int .i64 0),.p (.int .i64 0),.p (.int .i64 0)],true⟩:=by kernel_rfl
theorem lY:ti Tryz.prog 169=some ⟨.func #[164] #[166] false,1,8,[.p .nilfn],false⟩:=by kernel_rfl
theorem lZ:ti Tryz.prog 171=some ⟨.struct #[⟨"error",24,0,false,"","zoneworks/book",0⟩],2,16,[.p (.int .i64 0),.p (.int .i64 0)],true⟩:=by kernel_rfl
theorem mA:ti Tryz.prog 172=some ⟨.struct #[⟨"Image",3,0,false,"","",0⟩,⟨"Reading",3,1,false,"","",8⟩,⟨"Reversed",4,2,false,"","",16⟩],3,24,[.p (.int .i64 0),.p (.int .i64 0),.p (.bool false)],true⟩:=by kernel_rfl
theorem mB:ti Tryz.prog 173=some ⟨.slice 3,1,24,[.nils],false⟩:=by kernel_rfl
theorem mC:ti Tryz.prog 183=some ⟨.slice 9,1,24,[.nils],false⟩:=by kernel_rfl
theorem mD:ti Tryz.prog 193=some ⟨.struct #[⟨"Span",24,0,true,"","",0⟩],2,16,[.p (.int .i64 0),.p (.int .i64 0)],true⟩:=by kernel_rfl
theorem mE:ti Tryz.prog 194=some ⟨.func #[164] #[191] false,1,8,[.p .nilfn],false⟩:=by kernel_rfl
theorem mF:ti Tryz.prog 195=some ⟨.struct #[⟨"X",24,0,false,"","",0⟩,⟨"Y",24,2,false,"","",16⟩,⟨"Known",4,4,false,"","",32⟩,⟨"East",24,5,false,"","",40⟩,⟨"North",24,7,false,"","",56⟩],9,72,[.p (.int .i64 0),.p (.int .i64 0),.p (.int .i64 0),.p (.int .i64 0),.p (.bool false),.p (.int .i64 0),.p (.int .i64 0),.p (.int .i64 0),.p (.int .i64 0)],true⟩:=by kernel_rfl
theorem mG:ti Tryz.prog 197=some ⟨.struct #[⟨"left",183,0,false,"","zoneworks/book",0⟩],1,24,[.nils],true⟩:=by kernel_rfl
theorem mH:ti Tryz.prog 204=some ⟨.func #[164,3] #[173] false,1,8,[.p .nilfn],false⟩:=by kernel_rfl
theorem mJ:ti Tryz.prog 208=some ⟨.struct #[⟨"plates",3,0,false,"","zoneworks/book",0⟩,⟨"persons",3,1,false,"","zoneworks/book",8⟩,⟨"missing",3,2,false,"","zoneworks/book",16⟩],3,24,[.p (.int .i64 0),.p (.int .i64 0),.p (.int .i64 0)],true⟩:=by kernel_rfl
theorem mL:ti Tryz.prog 209=some ⟨.func #[164] #[206] false,1,8,[.p .nilfn],false⟩:=by kernel_rfl
theorem mM:ti Tryz.prog 210=some ⟨.array 2 3,2,16,[.p (.int .i64 0),.p (.int .i64 0)],true⟩:=by kernel_rfl
theorem mN:ti Tryz.prog 211=some ⟨.struct #[⟨"Plate",3,0,false,"","",0⟩,⟨"From",3,1,false,"","",8⟩,⟨"To",3,2,false,"","",16⟩],3,24,[.p (.int .i64 0),.p (.int .i64 0),.p (.int .i64 0)],true⟩:=by kernel_rfl
theorem mO:ti Tryz.prog 218=some ⟨.struct #[⟨"e",42,0,false,"","zoneworks/book",0⟩],1,8,[.p (.int .i64 0)],true⟩:=by kernel_rfl
theorem mQ:ti Tryz.prog 226=some ⟨.slice 20,1,24,[.nils],false⟩:=by kernel_rfl
theorem mR:ti Tryz.prog 228=some ⟨.interface #[("Error",160)],1,16,[.p .niliface],false⟩:=by kernel_rfl
theorem mS:ti Tryz.prog 235=some ⟨.func #[24] #[4] false,1,8,[.p .nilfn],false⟩:=by kernel_rfl
theorem mT:ti Tryz.prog 239=some ⟨.func #[164] #[4] false,1,8,[.p .nilfn],false⟩:=by kernel_rfl
theorem mU:ti Tryz.prog 247=some ⟨.func #[3,3] #[4] false,1,8,[.p .nilfn],false⟩:=by kernel_rfl
theorem mV:ti Tryz.prog 270=some ⟨.array 24 5,24,24,[.p (.int .u8 0),.p (.int .u8 0),.p (.int .u8 0),.p (.int .u8 0),.p (.int .u8 0),.p (.int .u8 0),.p (.int .u8 0),.p (.int .u8 0),.p (.int .u8 0),.p (.int .u8 0),.p (.int .u8 0),.p (.int .u8 0),.p (.int .u8 0),.p (.int .u8 0),.p (.int .u8 0),.p (.int .u8 0),.p (.int .u8 0),.p (.int .u8 0),.p (.int .u8 0),.p (.int .u8 0),.p (.int .u8 0),.p (.int .u8 0),.p (.int .u8 0),.p (.int .u8 0)],true⟩:=by kernel_rfl
theorem mW:ti Tryz.prog 271=some ⟨.int .u64,1,8,[.p (.int .u64 0)],false⟩:=by kernel_rfl
theorem mX:ti Tryz.prog 286=some ⟨.array 20 271,20,160,[.p (.int .u64 0),.p (.int .u64 0),.p (.int .u64 0),.p (.int .u64 0),.p (.int .u64 0),.p (.int .u64 0),.p (.int .u64 0),.p (.int .u64 0),.p (.int .u64 0),.p (.int .u64 0),.p (.int .u64 0),.p (.int .u64 0),.p (.int .u64 0),.p (.int .u64 0),.p (.int .u64 0),.p (.int .u64 0),.p (.int .u64 0),.p (.int .u64 0),.p (.int .u64 0),.p (.int .u64 0)],true⟩:=by kernel_rfl
end
section
open Go.Gh
structure hB (p q:Prop):Prop where
 h:p→q:=by (intro h;(try simp only [decide_eq_true_eq,decide_eq_false_iff_not,Int.not_lt,Int.not_le,Bool.not_eq_eq_eq_not,Bool.not_true,Bool.not_false,Bool.and_eq_true,Bool.and_eq_false_iff,Bool.or_eq_true,Bool.or_eq_false_iff] at h);exact h)
structure eA1 {α:Type} (a b:α):Prop where
 h:a=b:=by (simp only [cZ,gev,ofV,aT,eZ,aF,aI,upd,yes,aCO,jR,nW,aAb,aAa,kJ,nC,uQ,pB,lH,splice,aAC,kD,iD,eG,eU,nS,nD,eA,kK,eV,jO,aAD,kS,iN,aAc,nT,aAd,nU,cP,eW,eX,eN,iO,eB,fN,eH,Option.getD_none,Option.getD_some,gS,eI,gT,jQ,fO,pW,eC,jA,mkAgg,mkFn,mkIface,mkTuple,tA,G.cells,good,cS,bB,G.one,P.one,tI,bG,bR,fV,bU,oE,eF,dK,toP,iC,P.size,P.cells,List.map_cons,List.map_nil,List.take_succ_cons,List.take_zero,List.drop_succ_cons,List.drop_zero,List.take_nil,List.drop_nil,List.cons_append,List.nil_append,List.append_nil,List.length_cons,List.length_nil,List.getElem?_cons_zero,List.getElem?_cons_succ,List.getElem?_nil,List.set_cons_zero,List.set_cons_succ,List.flatMap_cons,List.flatMap_nil,List.getElem?_toArray,List.getElem?_map,List.length_map,Option.map_some,Option.map_none,Nat.mul_one,List.length_set,kO,gZ,Nat.reduceEqDiff,Nat.reduceAdd,Nat.reduceMul,Nat.reduceSub,Nat.reduceLeDiff,Nat.add_zero,Nat.zero_add,Int.toNat_natCast,Int.reduceToNat,reduceIte,reduceCtorEq,eq_self,if_true,if_false,and_true,true_and,true_or,or_true,or_false,false_or,Bool.false_eq_true,ne_eq,not_true_eq_false,not_false_eq_true,cond_true,cond_false,Bool.and_true,Bool.true_and,Bool.and_false,Bool.false_and,Bool.or_true,Bool.true_or,Bool.or_false,Bool.false_or,Bool.not_true,Bool.not_false,aAh,oX,wZ,aAi,aAj,rU,rV,kG,rW,rX,rY,rZ,sA,sB,sC,sD,sE,sF,sG,sH,sI,sJ,sK,sL,sM,sN,sO,sP,sQ,sR,sS,sT,sU,lK,lL,lM,lN,lO,lP,lQ,lR,lS,lT,lU,lV,lW,lX,lY,lZ,mA,mB,mC,mD,mE,mF,mG,mH,mJ,mL,mM,mN,mO,mQ,mR,mS,mT,mU,mV,mW,mX, *]<;>rfl)
structure eA2 {α:Type} (a b:α):Prop where
 h:a=b:=by (simp only [zQ,eL,dM,gN,dA,bO,bS,iS,nF,dP,G.idl,G.idls,cA,List.nil_append,List.append_nil,List.cons_append,aF,aI,Nat.reduceEqDiff,reduceIte,List.mem_cons,List.not_mem_nil,or_false,or_true,true_or,false_or,List.filter_cons,List.filter_nil,ne_eq,not_true_eq_false,not_false_eq_true,decide_true,decide_false,Bool.false_eq_true,List.all_cons,List.all_nil,Bool.and_true]<;>rfl)
structure eA3 {α:Type} (a b:α):Prop where
 h:a=b:=by (simp only [eL,dM,gN,dA,bO,bS,iS,nF,dP,G.idl,G.idls,cA,List.nil_append,List.append_nil,List.cons_append,aF,aI,Nat.reduceEqDiff,reduceIte,List.mem_cons,List.not_mem_nil,or_false,or_true,true_or,false_or,List.filter_cons,List.filter_nil,ne_eq,not_true_eq_false,not_false_eq_true,decide_true,decide_false,Bool.false_eq_true,List.all_cons,List.all_nil,Bool.and_true]<;>rfl)
structure eA4 {α:Type} (a b:α):Prop where
 h:a=b:=by (simp only [cI,gev,aT,Nat.reduceEqDiff,reduceIte,List.map_cons,List.map_nil,List.cons_append,List.nil_append,List.append_nil,toP,iC,fV,ofV,rhp,aF,aI,List.mem_cons,List.not_mem_nil,or_false,and_true,true_and]<;>rfl)
structure eA5 {α:Type} (a b:α):Prop where
 h:a=b:=by (simp only [zN,Op.operands,gev,aT,Nat.reduceEqDiff,reduceIte,List.flatMap_cons,List.flatMap_nil,List.map_cons,List.map_nil,G.idl,G.idls,cA,List.append_nil,List.nil_append,List.cons_append,ofV,Call.operands,List.append_toArray,Array.toList_append,Option.toArray_none,Option.toArray_some]<;>rfl)
structure eA6 {α:Type} (a b:α):Prop where
 h:a=b:=by (simp only [oB,cvt,gev,aT,Nat.reduceEqDiff,reduceIte,List.map_cons,List.map_nil,List.cons_append,List.nil_append,List.append_nil,toP,iC,fV,ofV,rhp,aF,aI,List.mem_cons,List.not_mem_nil,or_false,and_true,true_and]<;>rfl)
structure eA7 {α:Type} (a b:α):Prop where
 h:a=b:=by (simp only [rhp,List.mem_cons,List.not_mem_nil,cZ,gev,ofV,aT,eZ,aF,aI,upd,yes,aCO,jR,nW,aAb,aAa,kJ,nC,uQ,pB,lH,splice,aAC,kD,iD,eG,eU,nS,nD,eA,kK,eV,jO,aAD,kS,iN,aAc,nT,aAd,nU,cP,eW,eX,eN,iO,eB,fN,eH,Option.getD_none,Option.getD_some,gS,eI,gT,jQ,fO,pW,eC,jA,mkAgg,mkFn,mkIface,mkTuple,tA,G.cells,good,cS,bB,G.one,P.one,tI,bG,bR,fV,bU,oE,eF,dK,toP,iC,P.size,P.cells,List.map_cons,List.map_nil,List.take_succ_cons,List.take_zero,List.drop_succ_cons,List.drop_zero,List.take_nil,List.drop_nil,List.cons_append,List.nil_append,List.append_nil,List.length_cons,List.length_nil,List.getElem?_cons_zero,List.getElem?_cons_succ,List.getElem?_nil,List.set_cons_zero,List.set_cons_succ,List.flatMap_cons,List.flatMap_nil,List.getElem?_toArray,List.getElem?_map,List.length_map,Option.map_some,Option.map_none,Nat.mul_one,List.length_set,kO,gZ,Nat.reduceEqDiff,Nat.reduceAdd,Nat.reduceMul,Nat.reduceSub,Nat.reduceLeDiff,Nat.add_zero,Nat.zero_add,Int.toNat_natCast,Int.reduceToNat,reduceIte,reduceCtorEq,eq_self,if_true,if_false,and_true,true_and,true_or,or_true,or_false,false_or,Bool.false_eq_true,ne_eq,not_true_eq_false,not_false_eq_true,cond_true,cond_false,Bool.and_true,Bool.true_and,Bool.and_false,Bool.false_and,Bool.or_true,Bool.true_or,Bool.or_false,Bool.false_or,Bool.not_true,Bool.not_false,aAh,oX,wZ,aAi,aAj,rU,rV,kG,rW,rX,rY,rZ,sA,sB,sC,sD,sE,sF,sG,sH,sI,sJ,sK,sL,sM,sN,sO,sP,sQ,sR,sS,sT,sU,lK,lL,lM,lN,lO,lP,lQ,lR,lS,lT,lU,lV,lW,lX,lY,lZ,mA,mB,mC,mD,mE,mF,mG,mH,mJ,mL,mM,mN,mO,mQ,mR,mS,mT,mU,mV,mW,mX, *]<;>rfl)
structure eA8 {α:Type} (a b:α):Prop where
 h:a=b:=by (simp only [kF,aK5,Option.map_some,Option.map_none,G.rens,G.ren,gX,Gh.dB,Nat.reduceAdd,Nat.zero_add,List.take_succ_cons,List.take_zero,List.drop_succ_cons,List.drop_zero,gev,aT,Nat.reduceEqDiff,reduceIte,List.map_cons,List.map_nil,List.cons_append,List.nil_append,List.append_nil,toP,iC,fV,ofV,rhp,aF,aI,List.mem_cons,List.not_mem_nil,or_false,and_true,true_and]<;>rfl)
structure eA9 {α:Type} (a b:α):Prop where
 h:a=b:=by (simp only [gev,aT,Nat.reduceEqDiff,reduceIte,List.map_cons,List.map_nil,List.cons_append,List.nil_append,List.append_nil,toP,iC,fV,ofV,rhp,aF,aI,List.mem_cons,List.not_mem_nil,or_false,and_true,true_and]<;>rfl)
structure aHw {α:Type} (a b:α):Prop where
 h:a=b:=by (simp only [fH,zO,aAZ,aC3,aC4,aC5,cZ,gev,ofV,aT,eZ,aF,aI,upd,yes,aCO,jR,nW,aAb,aAa,kJ,nC,uQ,pB,lH,splice,aAC,kD,iD,eG,eU,nS,nD,eA,kK,eV,jO,aAD,kS,iN,aAc,nT,aAd,nU,cP,eW,eX,eN,iO,eB,fN,eH,Option.getD_none,Option.getD_some,gS,eI,gT,jQ,fO,pW,eC,jA,mkAgg,mkFn,mkIface,mkTuple,tA,G.cells,good,cS,bB,G.one,P.one,tI,bG,bR,fV,bU,oE,eF,dK,toP,iC,P.size,P.cells,List.map_cons,List.map_nil,List.take_succ_cons,List.take_zero,List.drop_succ_cons,List.drop_zero,List.take_nil,List.drop_nil,List.cons_append,List.nil_append,List.append_nil,List.length_cons,List.length_nil,List.getElem?_cons_zero,List.getElem?_cons_succ,List.getElem?_nil,List.set_cons_zero,List.set_cons_succ,List.flatMap_cons,List.flatMap_nil,List.getElem?_toArray,List.getElem?_map,List.length_map,Option.map_some,Option.map_none,Nat.mul_one,List.length_set,kO,gZ,Nat.reduceEqDiff,Nat.reduceAdd,Nat.reduceMul,Nat.reduceSub,Nat.reduceLeDiff,Nat.add_zero,Nat.zero_add,Int.toNat_natCast,Int.reduceToNat,reduceIte,reduceCtorEq,eq_self,if_true,if_false,and_true,true_and,true_or,or_true,or_false,false_or,Bool.false_eq_true,ne_eq,not_true_eq_false,not_false_eq_true,cond_true,cond_false,Bool.and_true,Bool.true_and,Bool.and_false,Bool.false_and,Bool.or_true,Bool.true_or,Bool.or_false,Bool.false_or,Bool.not_true,Bool.not_false,aAh,oX,wZ,aAi,aAj,rU,rV,kG,rW,rX,rY,rZ,sA,sB,sC,sD,sE,sF,sG,sH,sI,sJ,sK,sL,sM,sN,sO,sP,sQ,sR,sS,sT,sU,lK,lL,lM,lN,lO,lP,lQ,lR,lS,lT,lU,lV,lW,lX,lY,lZ,mA,mB,mC,mD,mE,mF,mG,mH,mJ,mL,mM,mN,mO,mQ,mR,mS,mT,mU,mV,mW,mX]<;>rfl)
structure aLh {α:Type} (a b:α):Prop where
 h:a=b:=by (simp only [cvS,iG,toP,iC,fV,aT,eZ,aF,aI,Nat.reduceEqDiff,reduceIte,List.take_succ_cons,List.take_zero,List.drop_succ_cons,List.drop_zero,List.take_nil,List.drop_nil,List.length_cons,List.length_nil,Nat.reduceAdd,Nat.add_zero,Nat.zero_add,List.map_cons,List.map_nil,List.cons_append,List.nil_append,List.append_nil,and_true,true_and]<;>rfl)
structure aPD {α:Type} (a b:α):Prop where
 h:a=b:=by (simp only [yH,gev,aT,Nat.reduceEqDiff,reduceIte,List.map_cons,List.map_nil,List.cons_append,List.nil_append,List.append_nil,toP,iC,fV,ofV,rhp,aF,aI,List.mem_cons,List.not_mem_nil,or_false,and_true,true_and]<;>rfl)
structure aLi {α:Type} (a b:α):Prop where
 h:a=b:=by (simp only [List.map_cons,List.map_nil,eL,dM,gN,dA,bO,bS,iS,nF,dP,G.idl,G.idls,cA,List.nil_append,List.append_nil,List.cons_append,aF,aI,Nat.reduceEqDiff,reduceIte,List.mem_cons,List.not_mem_nil,or_false,or_true,true_or,false_or,List.filter_cons,List.filter_nil,ne_eq,not_true_eq_false,not_false_eq_true,decide_true,decide_false,Bool.false_eq_true,List.all_cons,List.all_nil,Bool.and_true]<;>rfl)
structure aPE {α:Type} (a b:α):Prop where
 h:a=b:=by (simp only [oB,cvt,Gh.dB,G.rens,G.ren,gev,aT,Nat.reduceEqDiff,reduceIte,List.map_cons,List.map_nil,List.cons_append,List.nil_append,List.append_nil,toP,iC,fV,ofV,rhp,aF,aI,List.mem_cons,List.not_mem_nil,or_false,and_true,true_and]<;>rfl)
variable {E:Env Tryz.prog} {C:Cx E} {r:Option Nat} {ops:Array Oper} {Q:GE→Sg E→Prop} {rest lst:List Oper} {l l':List (Nat×G)} {m:List (Nat×Ob)} {A:E.α} {df:List GD}
variable {t:Nat} {op:Op} {ty:TypeId} {pos:String} {af:Array Edge} {c:Prop} {g:G} {ob:Ob} {i j:Nat} {gd:Option (Nat×Bool)} {b x:Bool} {cd:Code} {J:List Nat}
theorem v0 (k:cK C r ops Q rest (sg ((t,g)::l) m A df)) (hg:cZ Tryz.prog false 99999 (gev (bA l)) (aG m) op=some (c,⟨g,none⟩):=by exact eA1.h {}) (hd:aG m 99999 = .none:=by (simp only [aF,aI,Nat.reduceEqDiff,reduceIte])) (ht:t<C.N:=by omega) (hc:c:=by first|exact True.intro|simp):cK C r ops Q (⟨some t,op,ty,pos,af,none⟩::rest) (sg l m A df):=aK3 (bN rfl) hg hd ht hc k
theorem v1 (k:cK C r ops Q rest (sg ((t,g)::l) m A df)) (hg:cZ Tryz.prog false 99999 (gev (bA l)) (aG m) op=some (c,⟨g,none⟩):=by exact eA1.h {}) (hd:aG m 99999 = .none:=by (simp only [aF,aI,Nat.reduceEqDiff,reduceIte])) (ht:t<C.N:=by omega) (hc:c):cK C r ops Q (⟨some t,op,ty,pos,af,none⟩::rest) (sg l m A df):=aK3 (bN rfl) hg hd ht hc k
theorem w0 {b':Bool} (k:cK C r ops Q rest (sg ((t,g)::l) m A df)) (hj:(ops[j]?).bind (·.dst)=some i:=by rfl) (hx:bA l i = .p (.bool b'):=by (simp only [aT,Nat.reduceEqDiff,reduceIte]<;>rfl)) (hb:(b'==b)=true:=by rfl) (hg:cZ Tryz.prog false 99999 (gev (bA l)) (aG m) op=some (c,⟨g,none⟩):=by exact eA1.h {}) (hd:aG m 99999 = .none:=by (simp only [aF,aI,Nat.reduceEqDiff,reduceIte])) (ht:t<C.N:=by omega) (hc:c:=by first|exact True.intro|simp):cK C r ops Q (⟨some t,op,ty,pos,af,some (j,b)⟩::rest) (sg l m A df):=aK3 ((lA rfl hj hx).trans (by rw [hb])) hg hd ht hc k
theorem w1 {b':Bool} (k:cK C r ops Q rest (sg ((t,g)::l) m A df)) (hj:(ops[j]?).bind (·.dst)=some i:=by rfl) (hx:bA l i = .p (.bool b'):=by (simp only [aT,Nat.reduceEqDiff,reduceIte]<;>rfl)) (hb:(b'==b)=true:=by rfl) (hg:cZ Tryz.prog false 99999 (gev (bA l)) (aG m) op=some (c,⟨g,none⟩):=by exact eA1.h {}) (hd:aG m 99999 = .none:=by (simp only [aF,aI,Nat.reduceEqDiff,reduceIte])) (ht:t<C.N:=by omega) (hc:c):cK C r ops Q (⟨some t,op,ty,pos,af,some (j,b)⟩::rest) (sg l m A df):=aK3 ((lA rfl hj hx).trans (by rw [hb])) hg hd ht hc k
theorem x0 {b':Bool} (k:cK C r ops Q rest (sg ((t,.p (.tuple []))::l) m A df)) (hj:(ops[j]?).bind (·.dst)=some i:=by rfl) (hx:bA l i = .p (.bool b'):=by (simp only [aT,Nat.reduceEqDiff,reduceIte]<;>rfl)) (hb:(b'==b)=false:=by rfl) (ht:t<C.N:=by omega):cK C r ops Q (⟨some t,op,ty,pos,af,some (j,b)⟩::rest) (sg l m A df):=aOD ((lA rfl hj hx).trans (by rw [hb])) ht k
theorem x1 (k:cK C r ops Q rest (sg ((t,.p (.tuple []))::l) m A df)) (hj:(ops[j]?).bind (·.dst)=some i:=by rfl) (hx:bA l i = .p (.tuple []):=by (simp only [aT,Nat.reduceEqDiff,reduceIte]<;>rfl)) (ht:t<C.N:=by omega):cK C r ops Q (⟨some t,op,ty,pos,af,some (j,b)⟩::rest) (sg l m A df):=aOD (aIZ rfl hj hx) ht k
theorem b0 {b':Bool} (hj:(ops[j]?).bind (·.dst)=some i:=by rfl) (hx:bA l i = .p (.bool b'):=by (simp only [aT,Nat.reduceEqDiff,reduceIte]<;>rfl))
  (k1:b'=true→cK C r ops Q (⟨some t,op,ty,pos,af,some (j,b)⟩::rest) (sg ((i,.p (.bool true))::l) m A df)) (k0:b'=false→cK C r ops Q (⟨some t,op,ty,pos,af,some (j,b)⟩::rest) (sg ((i,.p (.bool false))::l) m A df)) :
  cK C r ops Q (⟨some t,op,ty,pos,af,some (j,b)⟩::rest) (sg l m A df):=aPA i hx k1 k0
theorem rb (t:Nat) (b:Bool) {x:Bool} (k:cK C r ops Q lst (sg ((t,.p (.bool b))::l) m A df)) (hx:bA l t = .p (.bool x):=by (simp only [aT,Nat.reduceEqDiff,reduceIte]<;>rfl)) (h:x=b):cK C r ops Q lst (sg l m A df):=by
 subst h
 rwa [sg,qW hx] at k
theorem aC (k:Q .normal (sg l m A df)):cK C r ops Q [] (sg l m A df):=aIT k
theorem cT {o:Operand} {y z:Code} (k:gwp C r y Q (sg l m A df)) (hb:gev (bA l) o = .p (.bool true):=by (simp only [gev,aT,Nat.reduceEqDiff,reduceIte]<;>rfl)):gwp C r (.cond o y z) Q (sg l m A df):=aI0 hb k
theorem cF {o:Operand} {y z:Code} (k:gwp C r z Q (sg l m A df)) (hb:gev (bA l) o = .p (.bool false):=by (simp only [gev,aT,Nat.reduceEqDiff,reduceIte]<;>rfl)):gwp C r (.cond o y z) Q (sg l m A df):=aI1 hb k
theorem cB {o:Operand} {y z:Code} (hb:gev (bA l) o = .p (.bool b):=by (simp only [gev,aT,Nat.reduceEqDiff,reduceIte]<;>rfl)) (k1:b=true→gwp C r y Q (sg l m A df)) (k0:b=false→gwp C r z Q (sg l m A df)):gwp C r (.cond o y z) Q (sg l m A df):=aK4 hb k1 k0
theorem cl (vs:List Nat) {m':List (Nat×Ob)} {I:List Nat} (k:gwp C r cd Q (sg l' m' A df)) (hl:(vs.map fun v=>(v,bA l v))=l':=by (simp only [List.map_cons,List.map_nil,aT,eZ,Nat.reduceEqDiff,reduceIte]<;>rfl)) (hI:zQ l' m df=I:=by exact eA2.h {}) (hm:bS I m=m':=by exact eA3.h {}) (h1:dP (eL l') I=true:=by exact eA3.h {}) (h2:dP (dM df) I=true:=by exact eA3.h {}) (h3:dP (bO m I) I=true:=by exact eA3.h {}):gwp C r cd Q (sg l m A df):=aHl vs hl hm h1 h2 h3 k
section
variable {f:FuncId} {gs:List G} {args:List P} {v:P} {pargs:List G}
theorem pc0 {cc:Call} (spec:bF Tryz.prog f args (.ok v)) (hent:aJ Tryz.prog f) (k:cK C r ops Q rest (sg ((t,.p v)::l) m A df)) (hg:cI Tryz.prog (bA l) cc=some (f,gs):=by exact eA4.h {}) (hJ:G.idls gs=J:=by exact eA5.h {}) (hcv:oB (rhp (aG m) J) gs=(c,args.map .p):=by exact eA6.h {}) (ht:t<C.N:=by omega) (hc:c:=by simp) :
  cK C r ops Q (⟨some t,.call cc,ty,pos,af,none⟩::rest) (sg l m A df):=jW (uH rfl (bN rfl) hg hent hcv hc spec (fun t' e=>by cases e;exact ht)) k
theorem pcw {b':Bool} {cc:Call} (spec:bF Tryz.prog f args (.ok v)) (hent:aJ Tryz.prog f) (k:cK C r ops Q rest (sg ((t,.p v)::l) m A df)) (hj:(ops[j]?).bind (·.dst)=some i:=by rfl) (hx:bA l i = .p (.bool b'):=by (simp only [aT,Nat.reduceEqDiff,reduceIte]<;>rfl)) (hb:(b'==b)=true:=by rfl) (hg:cI Tryz.prog (bA l) cc=some (f,gs):=by exact eA4.h {}) (hJ:G.idls gs=J:=by exact eA5.h {}) (hcv:oB (rhp (aG m) J) gs=(c,args.map .p):=by exact eA6.h {}) (ht:t<C.N:=by omega) (hc:c:=by simp) :
  cK C r ops Q (⟨some t,.call cc,ty,pos,af,some (j,b)⟩::rest) (sg l m A df):=jW (uH rfl ((lA rfl hj hx).trans (by rw [hb])) hg hent hcv hc spec (fun t' e=>by cases e;exact ht)) k
theorem pp0 {cc:Call} (spec:bF Tryz.prog f args (.panic v)) (hent:aJ Tryz.prog f) (k:Q (.panic v) (sg l m A df)) (hg:cI Tryz.prog (bA l) cc=some (f,gs):=by exact eA4.h {}) (hJ:G.idls gs=J:=by exact eA5.h {}) (hcv:oB (rhp (aG m) J) gs=(c,args.map .p):=by exact eA6.h {}) (ht:t<C.N:=by omega) (hc:c:=by simp) :
  cK C r ops Q (⟨some t,.call cc,ty,pos,af,none⟩::rest) (sg l m A df):=pN (aFe rfl (bN rfl) hg hent hcv hc spec (fun t' e=>by cases e;exact ht) (fun v e=>by cases e) (fun v' e=>by cases e;exact k))
end
theorem pn0 {o:Operand} {tt:TypeId} {v:P} (k:Q (.panic (.iface tt v)) (sg l m A df)) (hv:gev (bA l) o = .p (.iface tt v):=by (simp only [gev,aT,Nat.reduceEqDiff,reduceIte]<;>rfl)) {dst:Option Nat}:cK C r ops Q (⟨dst,.panic o,ty,pos,af,none⟩::rest) (sg l m A df):=
 pN (aFb rfl (bN rfl) hv k)
section
variable {lo:Nat} {σ0:Sg E} {ids ids':List (List Nat×List Nat)} {I:List Nat} {f:FuncId} {gs:List G} {args:List P} {v:P}
theorem aCr {o:Oper} (hw:dO ops (bA l) o=some true) (hg:cZ Tryz.prog false 99999 (gev (bA l)) (rhp (aG m) I) o.op=some (c,⟨g,none⟩)) (hc:c) (hd:aG m 99999 = .none) (ht:∀t,o.dst=some t→t<C.N):Eff C r ops o (sg l m A df) (99999::I) g []:=
 aCU (d:=99999) (out:=⟨g,none⟩) hw hg hc hd (by have:=C.limOk;omega) (fun p e=>by cases e) ht
theorem d0 (n:Nat) (k:eT C r ops (cE C Q) lo σ0 ids' (sg ((t,g)::l) m A df)) (hn:ids.length=n:=by rfl) (ho:ops[lo+n]? = some ⟨some t,op,ty,pos,af,none⟩:=by rfl) (hI:zN (gev (bA l)) op=I:=by exact eA5.h {}) (hg:cZ Tryz.prog false 99999 (gev (bA l)) (rhp (aG m) I) op=some (c,⟨g,none⟩):=by exact eA7.h {}) (hd:aG m 99999 = .none:=by (simp only [aF,aI,Nat.reduceEqDiff,reduceIte])) (ht:t<C.N:=by omega) (hids:ids++[(99999::I,[])]=ids':=by (simp only [List.cons_append,List.nil_append]<;>rfl)) (hc:c:=by first|exact True.intro|simp):eT C r ops (cE C Q) lo σ0 ids (sg l m A df):=
 eT.step (pi:=[]) hn ho (aCr (bN rfl) hg hc hd (fun t' e=>by cases e;exact ht)) rfl (by rw [hids];exact k)
theorem d1 (n:Nat) (k:eT C r ops (cE C Q) lo σ0 ids' (sg ((t,g)::l) m A df)) (hn:ids.length=n:=by rfl) (ho:ops[lo+n]? = some ⟨some t,op,ty,pos,af,none⟩:=by rfl) (hI:zN (gev (bA l)) op=I:=by exact eA5.h {}) (hg:cZ Tryz.prog false 99999 (gev (bA l)) (rhp (aG m) I) op=some (c,⟨g,none⟩):=by exact eA7.h {}) (hd:aG m 99999 = .none:=by (simp only [aF,aI,Nat.reduceEqDiff,reduceIte])) (ht:t<C.N:=by omega) (hids:ids++[(99999::I,[])]=ids':=by (simp only [List.cons_append,List.nil_append]<;>rfl)) (hc:c):eT C r ops (cE C Q) lo σ0 ids (sg l m A df):=
 eT.step (pi:=[]) hn ho (aCr (bN rfl) hg hc hd (fun t' e=>by cases e;exact ht)) rfl (by rw [hids];exact k)
theorem dw0 (n:Nat) {b':Bool} (k:eT C r ops (cE C Q) lo σ0 ids' (sg ((t,g)::l) m A df)) (hn:ids.length=n:=by rfl) (ho:ops[lo+n]? = some ⟨some t,op,ty,pos,af,some (j,b)⟩:=by rfl) (hj:(ops[j]?).bind (·.dst)=some i:=by rfl) (hx:bA l i = .p (.bool b'):=by (simp only [aT,Nat.reduceEqDiff,reduceIte]<;>rfl)) (hb:(b'==b)=true:=by rfl) (hI:zN (gev (bA l)) op=I:=by exact eA5.h {}) (hg:cZ Tryz.prog false 99999 (gev (bA l)) (rhp (aG m) I) op=some (c,⟨g,none⟩):=by exact eA7.h {}) (hd:aG m 99999 = .none:=by (simp only [aF,aI,Nat.reduceEqDiff,reduceIte])) (ht:t<C.N:=by omega) (hids:ids++[(99999::I,[])]=ids':=by (simp only [List.cons_append,List.nil_append]<;>rfl)) (hc:c:=by first|exact True.intro|simp):eT C r ops (cE C Q) lo σ0 ids (sg l m A df):=
 eT.step (pi:=[]) hn ho (aCr ((lA rfl hj hx).trans (by rw [hb])) hg hc hd (fun t' e=>by cases e;exact ht)) rfl (by rw [hids];exact k)
theorem oY (n:Nat) {cc:Call} (spec:bF Tryz.prog f args (.ok v)) (hent:aJ Tryz.prog f) (k:eT C r ops (cE C Q) lo σ0 ids' (sg ((t,.p v)::l) m A df)) (hn:ids.length=n:=by rfl) (ho:ops[lo+n]? = some ⟨some t,.call cc,ty,pos,af,none⟩:=by rfl) (hg:cI Tryz.prog (bA l) cc=some (f,gs):=by exact eA4.h {}) (hJ:G.idls gs=J:=by exact eA5.h {}) (hcv:oB (rhp (aG m) J) gs=(c,args.map .p):=by exact eA6.h {}) (ht:t<C.N:=by omega) (hids:ids++[(J,[])]=ids':=by (simp only [List.cons_append,List.nil_append]<;>rfl)) (hc:c:=by simp):eT C r ops (cE C Q) lo σ0 ids (sg l m A df):=
 eT.step (pi:=[]) hn ho (uH rfl (bN rfl) hg hent hcv hc spec (fun t' e=>by cases e;exact ht)) rfl (by rw [hids];exact k)
theorem aHx (n:Nat) {b':Bool} {cc:Call} (spec:bF Tryz.prog f args (.ok v)) (hent:aJ Tryz.prog f) (k:eT C r ops (cE C Q) lo σ0 ids' (sg ((t,.p v)::l) m A df)) (hn:ids.length=n:=by rfl) (ho:ops[lo+n]? = some ⟨some t,.call cc,ty,pos,af,some (j,b)⟩:=by rfl) (hj:(ops[j]?).bind (·.dst)=some i:=by rfl) (hx:bA l i = .p (.bool b'):=by (simp only [aT,Nat.reduceEqDiff,reduceIte]<;>rfl)) (hb:(b'==b)=true:=by rfl) (hg:cI Tryz.prog (bA l) cc=some (f,gs):=by exact eA4.h {}) (hJ:G.idls gs=J:=by exact eA5.h {}) (hcv:oB (rhp (aG m) J) gs=(c,args.map .p):=by exact eA6.h {}) (ht:t<C.N:=by omega) (hids:ids++[(J,[])]=ids':=by (simp only [List.cons_append,List.nil_append]<;>rfl)) (hc:c:=by simp):eT C r ops (cE C Q) lo σ0 ids (sg l m A df):=
 eT.step (pi:=[]) hn ho (uH rfl ((lA rfl hj hx).trans (by rw [hb])) hg hent hcv hc spec (fun t' e=>by cases e;exact ht)) rfl (by rw [hids];exact k)
theorem dz (n:Nat) (tab:List Nat) (h:qB C r ops (cE C Q) (lo+n) (sg l m A df)) (hn:ids.length=n:=by rfl) (hsz:lo+n≤ops.size:=by exact Nat.le_of_ble_eq_true rfl) (hw:oD tab ops.toList 0=true:=by kernel_rfl) (hc:aFd tab lo n ops.size=true:=by kernel_rfl) (hf:aI5 tab ops.toList lo ids=true:=by kernel_rfl):eT C r ops (cE C Q) lo σ0 ids (sg l m A df):=eT.stop tab hn hsz hw hc hf h
theorem de (n:Nat) (h:Q .normal (sg l m A df)) (hn:ops.size=n:=by rfl):qB C r ops (cE C Q) n (sg l m A df):=aIU hn h
end
theorem rd {idn:Nat} {σ:Sg E} (h:eT C r ops (cE C Q) 0 σ [] σ):gwp C r (.region idn ops true) Q σ:=aDT (by kernel_rfl) (eT.start h)
theorem n1 (d:Nat) (mu:Bool) (k:cK C r ops Q rest (sg ((t,g)::l) ((i,ob)::m) A df)) (hg:cZ Tryz.prog mu d (gev (bA l)) (aG m) op=some (c,⟨g,some (i,ob)⟩):=by exact eA1.h {}) (hd:aG m d = .none:=by (simp only [aF,aI,Nat.reduceEqDiff,reduceIte])) (hd2:C.lim≤d:=by omega) (ht:t<C.N:=by omega) (hc:c):cK C r ops Q (⟨some t,op,ty,pos,af,none⟩::rest) (sg l m A df):=aOC d mu (bN rfl) hg hd hd2 ht hc k
theorem nw (d:Nat) (mu:Bool) {b':Bool} {i':Nat} (k:cK C r ops Q rest (sg ((t,g)::l) ((i,ob)::m) A df)) (hj:(ops[j]?).bind (·.dst)=some i':=by rfl) (hx:bA l i' = .p (.bool b'):=by (simp only [aT,Nat.reduceEqDiff,reduceIte]<;>rfl)) (hb:(b'==b)=true:=by rfl) (hg:cZ Tryz.prog mu d (gev (bA l)) (aG m) op=some (c,⟨g,some (i,ob)⟩):=by exact eA1.h {}) (hd:aG m d = .none:=by (simp only [aF,aI,Nat.reduceEqDiff,reduceIte])) (hd2:C.lim≤d:=by omega) (ht:t<C.N:=by omega) (hc:c):cK C r ops Q (⟨some t,op,ty,pos,af,some (j,b)⟩::rest) (sg l m A df):=aOC d mu ((lA rfl hj hx).trans (by rw [hb])) hg hd hd2 ht hc k
theorem s1 (k:cK C r ops Q rest (sg l ((i,ob)::m) A df)) (hg:cZ Tryz.prog false 99999 (gev (bA l)) (aG m) op=some (c,⟨g,some (i,ob)⟩):=by exact eA1.h {}) (hd:aG m 99999 = .none:=by (simp only [aF,aI,Nat.reduceEqDiff,reduceIte])) (hc:c):cK C r ops Q (⟨none,op,ty,pos,af,none⟩::rest) (sg l m A df):=aPz (bN rfl) hg hd hc k
section
variable {lo:Nat} {σ0:Sg E} {ids ids':List (List Nat×List Nat)} {I:List Nat}
theorem dn1 (n:Nat) (d:Nat) (mu:Bool) (k:eT C r ops (cE C Q) lo σ0 ids' (sg ((t,g)::l) ((i,ob)::m) A df)) (hn:ids.length=n:=by rfl) (ho:ops[lo+n]? = some ⟨some t,op,ty,pos,af,none⟩:=by rfl) (hI:zN (gev (bA l)) op=I:=by exact eA5.h {}) (hg:cZ Tryz.prog mu d (gev (bA l)) (rhp (aG m) I) op=some (c,⟨g,some (i,ob)⟩):=by exact eA7.h {}) (hd:aG m d = .none:=by (simp only [aF,aI,Nat.reduceEqDiff,reduceIte])) (hd2:C.lim≤d:=by omega) (ht:t<C.N:=by omega) (hi:i∈d::I:=by simp) (hids:ids++[(d::I,[i])]=ids':=by (simp only [List.cons_append,List.nil_append]<;>rfl)) (hc:c):eT C r ops (cE C Q) lo σ0 ids (sg l m A df):=
 eT.step (pi:=[i]) hn ho (aCU (d:=d) (out:=⟨g,some (i,ob)⟩) (bN rfl) hg hc hd hd2 (fun p e=>by cases e;exact hi) (fun t' e=>by cases e;exact ht)) rfl (by rw [hids];exact k)
theorem ds1 (n:Nat) (k:eT C r ops (cE C Q) lo σ0 ids' (sg l ((i,ob)::m) A df)) (hn:ids.length=n:=by rfl) (ho:ops[lo+n]? = some ⟨none,op,ty,pos,af,none⟩:=by rfl) (hI:zN (gev (bA l)) op=I:=by exact eA5.h {}) (hg:cZ Tryz.prog false 99999 (gev (bA l)) (rhp (aG m) I) op=some (c,⟨g,some (i,ob)⟩):=by exact eA7.h {}) (hd:aG m 99999 = .none:=by (simp only [aF,aI,Nat.reduceEqDiff,reduceIte])) (hi:i∈99999::I:=by simp) (hids:ids++[(99999::I,[i])]=ids':=by (simp only [List.cons_append,List.nil_append]<;>rfl)) (hc:c):eT C r ops (cE C Q) lo σ0 ids (sg l m A df):=
 eT.step (pi:=[i]) hn ho (aCU (d:=99999) (out:=⟨g,some (i,ob)⟩) (bN rfl) hg hc hd (by have:=C.limOk;omega) (fun p e=>by cases e;exact hi) (fun t' e=>by cases e)) rfl (by rw [hids];exact k)
end
section
variable {lo:Nat} {σ0:Sg E} {ids ids':List (List Nat×List Nat)} {f:FuncId} {gs:List G}
theorem oc0 (L:List (Nat×Nat)) (J:List Nat) (ks:List Nat) (ad:Option (Nat×Ob)) {cc:Call} {gargs:List G} {mc mr m2 ps:List (Nat×Ob)} {g2:G} (spec:Gh.bD E f gargs (aG mc) A fun x=>x = .ok g (aG mr) A) (hent:aJ Tryz.prog f) (k:cK C r ops Q rest (sg ((t,g2)::l) m2 A df)) (hg:cI Tryz.prog (bA l) cc=some (f,gs):=by exact eA4.h {}) (ha:iF C.lim (aG m) L ad:=by (first|exact True.intro|(refine ⟨by (simp only [aF,aI,Nat.reduceEqDiff,reduceIte]),by omega,⟨_,_,_,rfl⟩,by simp⟩))) (hcv:kF (rhp (aG m) J) (ad.map (·.1)) ks gs=some (c,G.rens (Gh.dB L) gargs):=by exact eA8.h {}) (hc:c:=by simp) (n1:(L.map (·.1)).Nodup:=by decide) (n2:(L.map (·.2)).Nodup:=by decide) (n3:(mc.map (·.1)).Nodup:=by simp) (hp1:iT L (dH (aG m) ad) mc:=by (simp only [iT,dH,Gh.dB,Ob.ren,G.rens,G.ren,gX,upd,aF,aI,Nat.reduceEqDiff,reduceIte]<;>simp)) (hp2:vS C.lim (dH (aG m) ad) mc L:=by (simp [vS,dH,upd,aF,aI]<;>omega)) (hdis:∀d ob,ad=some (d,ob)→d∉J:=by (intro d ob e;simp at e<;>simp [←e.1])) (hk:oF L mr:=by simp [oF,Gh.dB]) (hs:oG mr mc:=by simp [oG,aF,aI]) (ht:t<C.N:=by omega) (hgr:g.ren (Gh.dB L)=g2:=by (simp only [G.ren,G.rens,Gh.dB,Nat.reduceEqDiff,reduceIte]<;>rfl)) (hps:cR L (aG mr)=ps:=by (simp only [cR,List.map_cons,List.map_nil,aF,aI,Nat.reduceEqDiff,reduceIte,Ob.ren,G.ren,G.rens,gX,Gh.dB]<;>rfl)) (hm2:ps.reverse++m=m2:=by (simp only [List.reverse_cons,List.reverse_nil,List.nil_append,List.cons_append]<;>rfl)):cK C r ops Q (⟨some t,.call cc,ty,pos,af,none⟩::rest) (sg l m A df):=
 jW (yE rfl (bN rfl) hg hent ha hcv hc (qF n1 n2 n3 hp1 hp2) hdis spec (nP hk hs) (fun t' e=>by cases e;exact ht)) (by rw [hgr,hps];show cK C r ops Q rest (⟨upd (bA l) t g2,cU (aG m) ps,A,df⟩:Sg E);rw [oH,hm2];exact k)
theorem dW (n:Nat) (L:List (Nat×Nat)) (J:List Nat) (ks:List Nat) (ad:Option (Nat×Ob)) {cc:Call} {gargs:List G} {mc mr m2 ps:List (Nat×Ob)} {g2:G} (spec:Gh.bD E f gargs (aG mc) A fun x=>x = .ok g (aG mr) A) (hent:aJ Tryz.prog f) (k:eT C r ops (cE C Q) lo σ0 ids' (sg ((t,g2)::l) m2 A df)) (hn:ids.length=n:=by rfl) (ho:ops[lo+n]? = some ⟨some t,.call cc,ty,pos,af,none⟩:=by rfl) (hg:cI Tryz.prog (bA l) cc=some (f,gs):=by exact eA4.h {}) (ha:iF C.lim (aG m) L ad:=by (first|exact True.intro|(refine ⟨by (simp only [aF,aI,Nat.reduceEqDiff,reduceIte]),by omega,⟨_,_,_,rfl⟩,by simp⟩))) (hcv:kF (rhp (aG m) J) (ad.map (·.1)) ks gs=some (c,G.rens (Gh.dB L) gargs):=by exact eA8.h {}) (hc:c:=by simp) (n1:(L.map (·.1)).Nodup:=by decide) (n2:(L.map (·.2)).Nodup:=by decide) (n3:(mc.map (·.1)).Nodup:=by simp) (hp1:iT L (dH (aG m) ad) mc:=by (simp only [iT,dH,Gh.dB,Ob.ren,G.rens,G.ren,gX,upd,aF,aI,Nat.reduceEqDiff,reduceIte]<;>simp)) (hp2:vS C.lim (dH (aG m) ad) mc L:=by (simp [vS,dH,upd,aF,aI]<;>omega)) (hdis:∀d ob,ad=some (d,ob)→d∉J:=by (intro d ob e;simp at e<;>simp [←e.1])) (hk:oF L mr:=by simp [oF,Gh.dB]) (hs:oG mr mc:=by simp [oG,aF,aI]) (ht:t<C.N:=by omega) (hgr:g.ren (Gh.dB L)=g2:=by (simp only [G.ren,G.rens,Gh.dB,Nat.reduceEqDiff,reduceIte]<;>rfl)) (hps:cR L (aG mr)=ps:=by (simp only [cR,List.map_cons,List.map_nil,aF,aI,Nat.reduceEqDiff,reduceIte,Ob.ren,G.ren,G.rens,gX,Gh.dB]<;>rfl)) (hm2:ps.reverse++m=m2:=by (simp only [List.reverse_cons,List.reverse_nil,List.nil_append,List.cons_append]<;>rfl)) (hids:ids++[(L.map (·.2)++J,ps.map (·.1))]=ids':=by (simp only [List.cons_append,List.nil_append,List.map_cons,List.map_nil]<;>rfl)):eT C r ops (cE C Q) lo σ0 ids (sg l m A df):=
 eT.step (pi:=ps.map (·.1)) hn ho (yE rfl (bN rfl) hg hent ha hcv hc (qF n1 n2 n3 hp1 hp2) hdis spec (nP hk hs) (fun t' e=>by cases e;exact ht)) (by rw [hps]) (by rw [hids,hgr,hps];show eT C r ops (cE C Q) lo σ0 ids' (⟨upd (bA l) t g2,cU (aG m) ps,A,df⟩:Sg E);rw [oH,hm2];exact k)
theorem ocw (L:List (Nat×Nat)) (J:List Nat) (ks:List Nat) (ad:Option (Nat×Ob)) {b':Bool} {i':Nat} {cc:Call} {gargs:List G} {mc mr m2 ps:List (Nat×Ob)} {g2:G} (spec:Gh.bD E f gargs (aG mc) A fun x=>x = .ok g (aG mr) A) (hent:aJ Tryz.prog f) (k:cK C r ops Q rest (sg ((t,g2)::l) m2 A df)) (hj:(ops[j]?).bind (·.dst)=some i':=by rfl) (hx:bA l i' = .p (.bool b'):=by (simp only [aT,Nat.reduceEqDiff,reduceIte]<;>rfl)) (hb:(b'==b)=true:=by rfl) (hg:cI Tryz.prog (bA l) cc=some (f,gs):=by exact eA4.h {}) (ha:iF C.lim (aG m) L ad:=by (first|exact True.intro|(refine ⟨by (simp only [aF,aI,Nat.reduceEqDiff,reduceIte]),by omega,⟨_,_,_,rfl⟩,by simp⟩))) (hcv:kF (rhp (aG m) J) (ad.map (·.1)) ks gs=some (c,G.rens (Gh.dB L) gargs):=by exact eA8.h {}) (hc:c:=by simp) (n1:(L.map (·.1)).Nodup:=by decide) (n2:(L.map (·.2)).Nodup:=by decide) (n3:(mc.map (·.1)).Nodup:=by simp) (hp1:iT L (dH (aG m) ad) mc:=by (simp only [iT,dH,Gh.dB,Ob.ren,G.rens,G.ren,gX,upd,aF,aI,Nat.reduceEqDiff,reduceIte]<;>simp)) (hp2:vS C.lim (dH (aG m) ad) mc L:=by (simp [vS,dH,upd,aF,aI]<;>omega)) (hdis:∀d ob,ad=some (d,ob)→d∉J:=by (intro d ob e;simp at e<;>simp [←e.1])) (hk:oF L mr:=by simp [oF,Gh.dB]) (hs:oG mr mc:=by simp [oG,aF,aI]) (ht:t<C.N:=by omega) (hgr:g.ren (Gh.dB L)=g2:=by (simp only [G.ren,G.rens,Gh.dB,Nat.reduceEqDiff,reduceIte]<;>rfl)) (hps:cR L (aG mr)=ps:=by (simp only [cR,List.map_cons,List.map_nil,aF,aI,Nat.reduceEqDiff,reduceIte,Ob.ren,G.ren,G.rens,gX,Gh.dB]<;>rfl)) (hm2:ps.reverse++m=m2:=by (simp only [List.reverse_cons,List.reverse_nil,List.nil_append,List.cons_append]<;>rfl)):cK C r ops Q (⟨some t,.call cc,ty,pos,af,some (j,b)⟩::rest) (sg l m A df):=
 jW (yE rfl ((lA rfl hj hx).trans (by rw [hb])) hg hent ha hcv hc (qF n1 n2 n3 hp1 hp2) hdis spec (nP hk hs) (fun t' e=>by cases e;exact ht)) (by rw [hgr,hps];show cK C r ops Q rest (⟨upd (bA l) t g2,cU (aG m) ps,A,df⟩:Sg E);rw [oH,hm2];exact k)
end
section
variable {f:FuncId} {gs:List G}
theorem dst {n:Nat} (h:eT C r ops (cE C Q) n (sg l m A df:Sg E) [] (sg l m A df)):qB C r ops (cE C Q) n (sg l m A df):=eT.start h
theorem op0 (L:List (Nat×Nat)) (J:List Nat) (ks:List Nat) (ad:Option (Nat×Ob)) {cc:Call} {gargs:List G} {mc mr m2 ps:List (Nat×Ob)} {v:P} (spec:Gh.bD E f gargs (aG mc) A fun y=>y = .panic v (aG mr) A) (hent:aJ Tryz.prog f) (k:Q (.panic v) (sg l m2 A df)) (hg:cI Tryz.prog (bA l) cc=some (f,gs):=by exact eA4.h {}) (ha:iF C.lim (aG m) L ad:=by (first|exact True.intro|(refine ⟨by (simp only [aF,aI,Nat.reduceEqDiff,reduceIte]),by omega,⟨_,_,_,rfl⟩,by simp⟩))) (hcv:kF (rhp (aG m) J) (ad.map (·.1)) ks gs=some (c,G.rens (Gh.dB L) gargs):=by exact eA8.h {}) (hc:c:=by simp) (n1:(L.map (·.1)).Nodup:=by decide) (n2:(L.map (·.2)).Nodup:=by decide) (n3:(mc.map (·.1)).Nodup:=by simp) (hp1:iT L (dH (aG m) ad) mc:=by (simp only [iT,dH,Gh.dB,Ob.ren,G.rens,G.ren,gX,upd,aF,aI,Nat.reduceEqDiff,reduceIte]<;>simp)) (hp2:vS C.lim (dH (aG m) ad) mc L:=by (simp [vS,dH,upd,aF,aI]<;>omega)) (hdis:∀d ob,ad=some (d,ob)→d∉J:=by (intro d ob e;simp at e<;>simp [←e.1])) (hk:oF L mr:=by simp [oF,Gh.dB]) (hs:oG mr mc:=by simp [oG,aF,aI]) (ht:t<C.N:=by omega) (hps:cR L (aG mr)=ps:=by (simp only [cR,List.map_cons,List.map_nil,aF,aI,Nat.reduceEqDiff,reduceIte,Ob.ren,G.ren,G.rens,gX,Gh.dB]<;>rfl)) (hm2:ps.reverse++m=m2:=by (simp only [List.reverse_cons,List.reverse_nil,List.nil_append,List.cons_append]<;>rfl)):cK C r ops Q (⟨some t,.call cc,ty,pos,af,none⟩::rest) (sg l m A df):=
 aJg spec hent (bN rfl) hg ha hcv hc (qF n1 n2 n3 hp1 hp2) hdis (nP hk hs) ht (by rw [hps];show Q (.panic v) (⟨bA l,cU (aG m) ps,A,df⟩:Sg E);rw [oH,hm2];exact k)
end
theorem fh (I:List Nat) {fn:Func} {R:cL E→Prop} {d:Prop} {m':List (Nat×Ob)} {x1:ResultVar} (hR:R (.ok g (aG m') A)) (hrs:fn.results.toList=[x1]:=by rfl) (hg:fH Tryz.prog (aG m) (bA l) [x1]=some (d,g):=by exact aHw.h {}) (hd:d:=by simp) (hm:bS I m=m':=by exact eA3.h {}) (h1:dP g.idl I=true:=by exact eA3.h {}) (h3:dP (bO m I) I=true:=by exact eA3.h {}) (hne:∀i∈I,aG m i ≠ .none:=by simp [aF,aI]):Fin Tryz.prog fn R (sg l m A []):=
 aI6 (by rw [hrs];exact hg) hd hm h1 h3 hne hR
theorem fh2 (I:List Nat) {fn:Func} {R:cL E→Prop} {d:Prop} {m':List (Nat×Ob)} {x1 x2:ResultVar} (hR:R (.ok g (aG m') A)) (hrs:fn.results.toList=[x1,x2]:=by rfl) (hg:fH Tryz.prog (aG m) (bA l) [x1,x2]=some (d,g):=by exact aHw.h {}) (hd:d:=by simp) (hm:bS I m=m':=by exact eA3.h {}) (h1:dP g.idl I=true:=by exact eA3.h {}) (h3:dP (bO m I) I=true:=by exact eA3.h {}) (hne:∀i∈I,aG m i ≠ .none:=by simp [aF,aI]):Fin Tryz.prog fn R (sg l m A []):=
 aI6 (by rw [hrs];exact hg) hd hm h1 h3 hne hR
theorem fh0 (I:List Nat) {fn:Func} {R:cL E→Prop} {d:Prop} {m':List (Nat×Ob)} (hR:R (.ok g (aG m') A)) (hrs:fn.results.toList=[]:=by rfl) (hg:fH Tryz.prog (aG m) (bA l) []=some (d,g):=by exact aHw.h {}) (hd:d:=by simp) (hm:bS I m=m':=by exact eA3.h {}) (h1:dP g.idl I=true:=by exact eA3.h {}) (h3:dP (bO m I) I=true:=by exact eA3.h {}) (hne:∀i∈I,aG m i ≠ .none:=by simp [aF,aI]):Fin Tryz.prog fn R (sg l m A []):=
 aI6 (by rw [hrs];exact hg) hd hm h1 h3 hne hR
theorem fp {fn:Func} {R:cL E→Prop} {d d':Prop} {v:P} {x1:ResultVar} (hR:R (.ok (.p v) (aG []) A)) (hrs:fn.results.toList=[x1]:=by rfl) (hg:fH Tryz.prog (aG m) (bA l) [x1]=some (d,g):=by exact aHw.h {}) (hp:toP (aG m) g=some (d',v):=by (simp only [toP,iC,aF,aI,Nat.reduceEqDiff,reduceIte,and_true,true_and]<;>rfl)) (hd:d:=by simp) (hd':d':=by simp):Fin Tryz.prog fn R (sg l m A []):=aI3 (by rw [hrs];exact hg) hd hp hd' hR
theorem fp2 {fn:Func} {R:cL E→Prop} {d d':Prop} {v:P} {x1 x2:ResultVar} (hR:R (.ok (.p v) (aG []) A)) (hrs:fn.results.toList=[x1,x2]:=by rfl) (hg:fH Tryz.prog (aG m) (bA l) [x1,x2]=some (d,g):=by exact aHw.h {}) (hp:toP (aG m) g=some (d',v):=by (simp only [toP,iC,aF,aI,Nat.reduceEqDiff,reduceIte,and_true,true_and]<;>rfl)) (hd:d:=by simp) (hd':d':=by simp):Fin Tryz.prog fn R (sg l m A []):=aI3 (by rw [hrs];exact hg) hd hp hd' hR
theorem fp0 {fn:Func} {R:cL E→Prop} {d d':Prop} {v:P} (hR:R (.ok (.p v) (aG []) A)) (hrs:fn.results.toList=[]:=by rfl) (hg:fH Tryz.prog (aG m) (bA l) []=some (d,g):=by exact aHw.h {}) (hp:toP (aG m) g=some (d',v):=by (simp only [toP,iC,aF,aI,Nat.reduceEqDiff,reduceIte,and_true,true_and]<;>rfl)) (hd:d:=by simp) (hd':d':=by simp):Fin Tryz.prog fn R (sg l m A []):=aI3 (by rw [hrs];exact hg) hd hp hd' hR
theorem dN (vs:List Nat) {m':List (Nat×Ob)} {n n':Nat} {IV:Nat→Sg E→Prop} {I:List Nat} (hl:(vs.map fun v=>(v,bA l v))=l':=by (simp only [List.map_cons,List.map_nil,aT,eZ,Nat.reduceEqDiff,reduceIte]<;>rfl)) (hI:zQ l' m df=I:=by exact eA2.h {}) (hm:bS I m=m':=by exact eA3.h {})
  (h1:dP (eL l') I=true:=by exact eA3.h {}) (h2:dP (dM df) I=true:=by exact eA3.h {}) (h3:dP (bO m I) I=true:=by exact eA3.h {}) (h:n'<n) (hV:IV n' (sg l' m' A df)) :
  rT (fun σ'=>∃n' σ'',n'<n∧Le C σ' σ''∧IV n' σ'') Q .normal (sg l m A df:Sg E):=⟨n',_,h,nO vs hl hm h1 h2 h3,hV⟩
theorem gA (vs:List Nat) {m':List (Nat×Ob)} {IV:Nat→Sg E→Prop} {I:List Nat} (hV:∃n,IV n (sg l' m' A df)) (hl:(vs.map fun v=>(v,bA l v))=l':=by (simp only [List.map_cons,List.map_nil,aT,eZ,Nat.reduceEqDiff,reduceIte]<;>rfl)) (hI:zQ l' m df=I:=by exact eA2.h {}) (hm:bS I m=m':=by exact eA3.h {}) (h1:dP (eL l') I=true:=by exact eA3.h {}) (h2:dP (dM df) I=true:=by exact eA3.h {}) (h3:dP (bO m I) I=true:=by exact eA3.h {}) :
  ∃n σ'',Le C (sg l m A df:Sg E) σ''∧IV n σ'':=by
 obtain ⟨n,hV⟩:=hV
 exact ⟨n,_,nO vs hl hm h1 h2 h3,hV⟩
theorem fz (id n:Nat) (ss:List Sp) {cs cs1 cs2:List G} {fz:Nat} (k:gwp C r cd Q (sg l ((id,.cells cs2 n)::m) A df)) (ho:aG m id = .cells cs fz:=by (simp only [aF,aI,Nat.reduceEqDiff,reduceIte]<;>rfl)) (hcv:iG (aG m) ss (cs.take n)=some (c,cs1):=by exact aLh.h {}) (he:cs1++cs.drop n=cs2:=by exact aLh.h {}) (hn:fz≤n:=by omega) (hn2:n≤cs.length:=by simp) (hc:c:=by simp [bB,G.one,P.one]) (h1:bB cs1=true:=by simp [bB,G.one,P.one]):gwp C r cd Q (sg l m A df):=aHr id n ss ho hcv he hn hn2 hc h1 k
theorem cv (t:Nat) (s:Sp) (k:gwp C r cd Q (sg ((t,g)::l) m A df)) (hcv:cvS (aG m) s (bA l t)=some (c,g):=by exact aLh.h {}) (hc:c:=by simp [bB,G.one,P.one]):gwp C r cd Q (sg l m A df):=aK9 t s hcv hc k
theorem ocv (t:Nat) (s:Sp) (hcv:cvS (aG m) s (bA l t)=some (c,g):=by exact aLh.h {}) (hc:c:=by simp [bB,G.one,P.one]) (k:cK C r ops Q lst (sg ((t,g)::l) m A df)):cK C r ops Q lst (sg l m A df):=aLa t s hcv hc k
theorem df0 {cl:Call} {d:GD} (k:cK C none ops Q rest (sg l m A (d::df))) (hd:yH (bA l) cl=some d:=by exact aPD.h {}):cK C none ops Q (⟨none,.defer cl,ty,pos,af,none⟩::rest) (sg l m A df):=aJc hd k
theorem y0 {cl:Call} {gs:List G} {xs:List P} {x:Operand} (hx:cl.callee = .value x:=by rfl) (hy:gev (bA l) x = .abs:=by (simp only [gev,aT,Nat.reduceEqDiff,reduceIte]<;>rfl)) (hgs:cl.args.toList.map (gev (bA l))=gs:=by exact eA9.h {})
  (hJ:G.idls gs=J:=by exact eA5.h {}) (hcv:oB (rhp (aG m) J) gs=(c,xs.map .p):=by exact eA6.h {}) (hcan:E.Can A (xs.map Y0.p)) (hc:c:=by simp) (ht:t<C.N:=by omega)
  (k:∀b A',E.Y A (xs.map Y0.p) (.b b) A'→cK C r ops Q rest (sg ((t,.p (.bool b))::l) m A' df)) (kp:∀p A',E.Y A (xs.map Y0.p) (.p p) A'→Q (.panic p) (sg l m A' df)):cK C r ops Q (⟨some t,.call cl,ty,pos,af,none⟩::rest) (sg l m A df):=aJd hx hy hgs hcv hc hcan ht k kp
theorem lc {m':List (Nat×Ob)} (IL:List Nat) (hm:bS IL m=m':=by exact eA3.h {}) (h2:dP (dM df) IL=true:=by exact eA3.h {}) (h3:dP (bO m IL) IL=true:=by exact eA3.h {}):Le C (sg l m A df:Sg E) (sg [] m' A df):=nO [] rfl hm rfl h2 h3
theorem kA {args:List G} {id:Nat} (h:G.mens id args=true) (h1:dP (G.idls args) (m.map (·.1))=true:=by exact aLi.h {}) (h2:∀i∈m.map (·.1),aG m i ≠ .none:=by simp [aF,aI]):aG m id ≠ .none:=aM8 h1 h2 h
theorem kB {j id:Nat} (h:(aG m j).men id=true) (h1:dP (bO m (m.map (·.1))) (m.map (·.1))=true:=by exact aLi.h {}) (h2:∀i∈m.map (·.1),aG m i ≠ .none:=by simp [aF,aI]):aG m id ≠ .none:=aM9 h1 h2 h
theorem spX {E:Env Tryz.prog} {A:E.α} {m:List (Nat×Ob)} {f:FuncId} {fn:Func} {cd0:Code} {args:List G} {R:cL E→Prop} (n:Nat) (hf:Tryz.prog.funcs[f]? = some fn) (hb:fn.body=some cd0) (hbody:∀C:Cx E,C.N=n→C.lim=100→gwp C none cd0 (aCY Tryz.prog fn R) (sg (Gh.num 0 args) m A [])) (hn:Nat.ble args.length fn.ntmps=true:=by rfl) (hm:fn.ntmps=n:=by rfl) (w1:dP (G.idls args) (m.map (·.1))=true:=by exact aLi.h {}) (w2:dP (bO m (m.map (·.1))) (m.map (·.1))=true:=by exact aLi.h {}) (w3:∀i∈m.map (·.1),aG m i ≠ .none:=by simp [aF,aI]):Gh.bD E f args (aG m) A R:=aGr hf hb (Nat.le_of_ble_eq_true hn) (fun id h=>kA h w1 w3) (fun j id h=>kB h w2 w3) (by rw [hm];exact hbody)
theorem fph (I:List Nat) {fn:Func} {R:cL E→Prop} {v:P} {m':List (Nat×Ob)} (hR:R (.panic v (aG m') A)) (hm:bS I m=m':=by exact eA3.h {}) (h3:dP (bO m I) I=true:=by exact eA3.h {}) (hne:∀i∈I,aG m i ≠ .none:=by simp [aF,aI]):aCY Tryz.prog fn R (.panic v) (sg l m A []):=aD7 I hm h3 hR hne
theorem om {fn:Func} {R:cL E→Prop} {md:Option P} {d:Nat} {ds:List GD} (h:qY Tryz.prog fn R ds md (bA l) (aG ((d,.none)::m)) A) (h1:aG m d = .mark:=by (simp only [aF,Nat.reduceEqDiff,reduceIte])) (h2:d∉eL l:=by simp [eL,G.idl,G.idls]) (h3:d∉bO m (m.map (·.1)):=by simp [bO,dA,G.idl,G.idls,aF,aI]) (h4:d∉dM ds:=by simp [dM,gN,G.idl,G.idls]):qY Tryz.prog fn R (.mark d::ds) md (bA l) (aG m) A:=aJe h1 h2 h3 h4 h
theorem eJ {fn:Func} {R:cL E→Prop} {md:Option P} {f:FuncId} {args caps gargs:List G} {ds:List GD} (J:List Nat) (L:List (Nat×Nat)) {mc mr ps m2:List (Nat×Ob)} (spec:lB E f gargs (aG mc) A md fun y=>y = .ok g (aG mr) A) (hent:aJ Tryz.prog f) (h:qY Tryz.prog fn R ds none (bA l) (aG m2) A) (hcv:oB (rhp (aG m) J) (args++caps)=(c,G.rens (Gh.dB L) gargs):=by exact aPE.h {}) (hc:c:=by simp) (n1:(L.map (·.1)).Nodup:=by decide) (n2:(L.map (·.2)).Nodup:=by decide) (n3:(mc.map (·.1)).Nodup:=by simp) (hp1:iT L (aG m) mc:=by (simp only [iT,Gh.dB,Ob.ren,G.rens,G.ren,gX,upd,aF,aI,Nat.reduceEqDiff,reduceIte]<;>simp)) (hp2:vS 100 (aG m) mc L:=by (simp [vS,upd,aF,aI])) (hk:oF L mr:=by simp [oF,Gh.dB]) (hs:oG mr mc:=by simp [oG,aF,aI]) (hps:cR L (aG mr)=ps:=by (simp only [cR,List.map_cons,List.map_nil,aF,aI,Nat.reduceEqDiff,reduceIte,Ob.ren,G.ren,G.rens,gX,Gh.dB]<;>rfl)) (hm:ps.reverse++m=m2:=by (simp only [List.reverse_cons,List.reverse_nil,List.nil_append,List.cons_append]<;>rfl)):qY Tryz.prog fn R (.call f args caps::ds) md (bA l) (aG m) A:=aJf spec hent hcv hc (qF n1 n2 n3 hp1 hp2) (nP hk hs) hps hm h
end
section
open Go.Gh
structure eC1 {α:Type} (a b:α):Prop where
 h:a=b:=by (simp only [rhp,List.mem_cons,List.not_mem_nil,cZ,gev,ofV,aT,eZ,aF,aI,upd,yes,aCO,jR,nW,aAb,aAa,kJ,nC,uQ,pB,lH,splice,aAC,kD,iD,eG,eU,nS,nD,eA,kK,eV,jO,aAD,kS,iN,aAc,nT,aAd,nU,cP,eW,eX,eN,iO,eB,fN,eH,Option.getD_none,Option.getD_some,gS,eI,gT,jQ,fO,pW,eC,jA,mkAgg,mkFn,mkIface,mkTuple,tA,G.cells,good,cS,bB,G.one,P.one,tI,bG,bR,fV,bU,oE,eF,dK,toP,iC,P.size,P.cells,List.map_cons,List.map_nil,List.take_succ_cons,List.take_zero,List.drop_succ_cons,List.drop_zero,List.take_nil,List.drop_nil,List.cons_append,List.nil_append,List.append_nil,List.length_cons,List.length_nil,List.getElem?_cons_zero,List.getElem?_cons_succ,List.getElem?_nil,List.set_cons_zero,List.set_cons_succ,List.flatMap_cons,List.flatMap_nil,List.getElem?_toArray,List.getElem?_map,List.length_map,Option.map_some,Option.map_none,Nat.mul_one,List.length_set,kO,gZ,Nat.reduceEqDiff,Nat.reduceAdd,Nat.reduceMul,Nat.reduceSub,Nat.reduceLeDiff,Nat.add_zero,Nat.zero_add,Int.toNat_natCast,Int.reduceToNat,reduceIte,reduceCtorEq,eq_self,if_true,if_false,and_true,true_and,true_or,or_true,or_false,false_or,Bool.false_eq_true,ne_eq,not_true_eq_false,not_false_eq_true,cond_true,cond_false,Bool.and_true,Bool.true_and,Bool.and_false,Bool.false_and,Bool.or_true,Bool.true_or,Bool.or_false,Bool.false_or,Bool.not_true,Bool.not_false,aAh,oX,wZ,aAi,aAj,rU,rV,kG,rW,rX,rY,rZ,sA,sB,sC,sD,sE,sF,sG,sH,sI,sJ,sK,sL,sM,sN,sO,sP,sQ,sR,sS,sT,sU,lK,lL,lM,lN,lO,lP,lQ,lR,lS,lT,lU,lV,lW,lX,lY,lZ,mA,mB,mC,mD,mE,mF,mG,mH,mJ,mL,mM,mN,mO,mQ,mR,mS,mT,mU,mV,mW,mX, *]<;>rfl)
structure eC2 {α:Type} (a b:α):Prop where
 h:a=b:=by (simp only [aAh,oX,wZ,aAi,aAj,rU,rV,kG,rW,rX,rY,rZ,sA,sB,sC,sD,sE,sF,sG,sH,sI,sJ,sK,sL,sM,sN,sO,sP,sQ,sR,sS,sT,sU,lK,lL,lM,lN,lO,lP,lQ,lR,lS,lT,lU,lV,lW,lX,lY,lZ,mA,mB,mC,mD,mE,mF,mG,mH,mJ,mL,mM,mN,mO,mQ,mR,mS,mT,mU,mV,mW,mX]<;>rfl)
variable {E:Env Tryz.prog} {C:Cx E} {r:Option Nat} {ops:Array Oper} {Q:GE→Sg E→Prop} {rest lst:List Oper} {l l':List (Nat×G)} {m:List (Nat×Ob)} {A:E.α} {df:List GD}
variable {t:Nat} {op:Op} {ty:TypeId} {pos:String} {af:Array Edge} {c:Prop} {g:G} {ob:Ob} {i j:Nat} {gd:Option (Nat×Bool)} {b x:Bool} {cd:Code} {J:List Nat}
theorem ad (id off d:Nat) (e:TypeId) (sz:Nat) (fl:Bool) {cs cs2:List G} {fz:Nat} (k:gwp C r cd Q (sg l ((id,.cells cs2 fz)::(d,.arr e sz [] fl)::m) A df)) (ho:aG m id = .cells cs fz:=by (simp only [aF,aI,Nat.reduceEqDiff,reduceIte]<;>rfl)) (hc:cs[off]? = some .nils:=by rfl) (he:cs.set off (.own d 0)=cs2:=by (simp only [List.set_cons_zero,List.set_cons_succ]<;>rfl)) (hd:aG m d = .none:=by (simp only [aF,aI,Nat.reduceEqDiff,reduceIte])) (hd2:C.lim≤d:=by omega):gwp C r cd Q (sg l m A df):=aJh id off d e sz fl ho hc he hd hd2 k
section
variable {lo:Nat} {σ0:Sg E} {ids ids':List (List Nat×List Nat)}
theorem da0 (n:Nat) (k:eT C r ops (cE C Q) lo σ0 ids' (sg ((t,g)::l) m A df)) (hn:ids.length=n:=by rfl) (ho:ops[lo+n]? = some ⟨some t,op,ty,pos,af,none⟩:=by rfl) (hg:cZ Tryz.prog false 99999 (gev (bA l)) (rhp (aG m) []) op=some (c,⟨g,none⟩):=by exact eC1.h {}) (hd:aG m 99999 = .none:=by (simp only [aF,aI,Nat.reduceEqDiff,reduceIte])) (ht:t<C.N:=by omega) (hids:ids++[([99999],[])]=ids':=by (simp only [List.cons_append,List.nil_append]<;>rfl)) (hc:c:=by first|exact True.intro|simp):eT C r ops (cE C Q) lo σ0 ids (sg l m A df):=
 eT.step (pi:=[]) hn ho (aCr (bN rfl) hg hc hd (fun t' e=>by cases e;exact ht)) rfl (by rw [hids];exact k)
end
theorem nq0 {tt:TypeId} {i:TI} {x z:Operand} {t2:TypeId} {xs:List P} {e:TypeId} (k:∀b:Bool,(b=true→xs=[])→cK C r ops Q rest (sg ((t,.p (.bool b))::l) m A df)) (hi:ti Tryz.prog tt=some i:=by exact eC2.h {}) (hd:i.desc = .slice e:=by rfl) (hx:gev (bA l) x = .p (.list xs):=by (simp only [gev,aT,Nat.reduceEqDiff,reduceIte]<;>rfl)) (hz:z = .const (.slice none 0 0):=by rfl) (ht:t<C.N:=by omega):cK C r ops Q (⟨some t,.binOp .eql tt x z t2,ty,pos,af,none⟩::rest) (sg l m A df):=aLc hi hd hx hz ht k
theorem ofk (id n:Nat) {cs:List G} {fz:Nat} (k:cK C r ops Q lst (sg l ((id,.cells cs n)::m) A df)) (ho:aG m id = .cells cs fz:=by (simp only [aF,aI,Nat.reduceEqDiff,reduceIte]<;>rfl)) (hn:fz≤n:=by omega) (hn2:n≤cs.length) (h1:bB (cs.take n)=true):cK C r ops Q lst (sg l m A df):=aFo id n ho hn hn2 h1 k
end
section
open Go.Gh
variable {E:Env Tryz.prog} {C:Cx E} {r:Option Nat} {ops:Array Oper} {Q:GE→Sg E→Prop} {rest lst:List Oper} {l l':List (Nat×G)} {m:List (Nat×Ob)} {A:E.α} {df:List GD}
variable {t:Nat} {op:Op} {ty:TypeId} {pos:String} {af:Array Edge} {c:Prop} {g:G} {ob:Ob} {i j:Nat} {gd:Option (Nat×Bool)} {b x:Bool} {cd:Code} {J:List Nat}
section
variable {lo:Nat} {σ0:Sg E} {ids ids':List (List Nat×List Nat)}
end
end
section
open Go.Gh
structure eE1 {α:Type} (a b:α):Prop where
 h:a=b:=by (simp only [zQ,eL,dM,gN,dA,bO,bS,iS,nF,dP,G.idl,G.idls,cA,List.nil_append,List.append_nil,List.cons_append,aF,aI,Nat.reduceEqDiff,reduceIte,List.mem_cons,List.not_mem_nil,or_false,or_true,true_or,false_or,List.filter_cons,List.filter_nil,ne_eq,not_true_eq_false,not_false_eq_true,decide_true,decide_false,Bool.false_eq_true,List.all_cons,List.all_nil,Bool.and_true,aCo,aCp]<;>rfl)
structure eE2 {α:Type} (a b:α):Prop where
 h:a=b:=by (simp only [eL,dM,gN,dA,bO,bS,iS,nF,dP,G.idl,G.idls,cA,List.nil_append,List.append_nil,List.cons_append,aF,aI,Nat.reduceEqDiff,reduceIte,List.mem_cons,List.not_mem_nil,or_false,or_true,true_or,false_or,List.filter_cons,List.filter_nil,ne_eq,not_true_eq_false,not_false_eq_true,decide_true,decide_false,Bool.false_eq_true,List.all_cons,List.all_nil,Bool.and_true,aCo,aCp]<;>rfl)
variable {E:Env Tryz.prog} {C:Cx E} {r:Option Nat} {ops:Array Oper} {Q:GE→Sg E→Prop} {rest lst:List Oper} {l l':List (Nat×G)} {m:List (Nat×Ob)} {A:E.α} {df:List GD} {c:Prop} {g:G} {cd:Code}
theorem aB0 (vs:List Nat) {m':List (Nat×Ob)} {I:List Nat} (hl:(vs.map fun v=>(v,bA l v))=l':=by (simp only [List.map_cons,List.map_nil,aT,eZ,Nat.reduceEqDiff,reduceIte]<;>rfl)) (hI:zQ l' m df=I:=by exact eE1.h {}) (hm:bS I m=m':=by exact eE2.h {}) (h1:dP (eL l') I=true:=by exact eE2.h {}) (h2:dP (dM df) I=true:=by exact eE2.h {}) (h3:dP (bO m I) I=true:=by exact eE2.h {}):rT (fun σ'=>Le C σ' (sg l' m' A df)) Q .normal (sg l m A df:Sg E):=nO vs hl hm h1 h2 h3
end
section
open Go.Gh
structure eF1 {α:Type} (a b:α):Prop where
 h:a=b:=by (simp only [fH,zO,aAZ,aC3,aC4,aC5,cZ,gev,ofV,aT,eZ,aF,aI,upd,yes,aCO,jR,nW,aAb,aAa,kJ,nC,uQ,pB,lH,splice,aAC,kD,iD,eG,eU,nS,nD,eA,kK,eV,jO,aAD,kS,iN,aAc,nT,aAd,nU,cP,eW,eX,eN,iO,eB,fN,eH,Option.getD_none,Option.getD_some,gS,eI,gT,jQ,fO,pW,eC,jA,mkAgg,mkFn,mkIface,mkTuple,tA,G.cells,good,cS,bB,G.one,P.one,tI,bG,bR,fV,bU,oE,eF,dK,toP,iC,P.size,P.cells,List.map_cons,List.map_nil,List.take_succ_cons,List.take_zero,List.drop_succ_cons,List.drop_zero,List.take_nil,List.drop_nil,List.cons_append,List.nil_append,List.append_nil,List.length_cons,List.length_nil,List.getElem?_cons_zero,List.getElem?_cons_succ,List.getElem?_nil,List.set_cons_zero,List.set_cons_succ,List.flatMap_cons,List.flatMap_nil,List.getElem?_toArray,List.getElem?_map,List.length_map,Option.map_some,Option.map_none,Nat.mul_one,List.length_set,kO,gZ,Nat.reduceEqDiff,Nat.reduceAdd,Nat.reduceMul,Nat.reduceSub,Nat.reduceLeDiff,Nat.add_zero,Nat.zero_add,Int.toNat_natCast,Int.reduceToNat,reduceIte,reduceCtorEq,eq_self,if_true,if_false,and_true,true_and,true_or,or_true,or_false,false_or,Bool.false_eq_true,ne_eq,not_true_eq_false,not_false_eq_true,cond_true,cond_false,Bool.and_true,Bool.true_and,Bool.and_false,Bool.false_and,Bool.or_true,Bool.true_or,Bool.or_false,Bool.false_or,Bool.not_true,Bool.not_false,aAh,oX,wZ,aAi,aAj,rU,rV,kG,rW,rX,rY,rZ,sA,sB,sC,sD,sE,sF,sG,sH,sI,sJ,sK,sL,sM,sN,sO,sP,sQ,sR,sS,sT,sU,lK,lL,lM,lN,lO,lP,lQ,lR,lS,lT,lU,lV,lW,lX,lY,lZ,mA,mB,mC,mD,mE,mF,mG,mH,mJ,mL,mM,mN,mO,mQ,mR,mS,mT,mU,mV,mW,mX]<;>rfl)
structure eF2 {α:Type} (a b:α):Prop where
 h:a=b:=by (simp only [eL,dM,gN,dA,bO,bS,iS,nF,dP,G.idl,G.idls,cA,List.nil_append,List.append_nil,List.cons_append,aF,aI,Nat.reduceEqDiff,reduceIte,List.mem_cons,List.not_mem_nil,or_false,or_true,true_or,false_or,List.filter_cons,List.filter_nil,ne_eq,not_true_eq_false,not_false_eq_true,decide_true,decide_false,Bool.false_eq_true,List.all_cons,List.all_nil,Bool.and_true]<;>rfl)
variable {E:Env Tryz.prog} {l:List (Nat×G)} {m:List (Nat×Ob)} {A:E.α} {g:G}
theorem fk2 (I:List Nat) {fn:Func} {R:cL E→Prop} {d d':Prop} {v:P} {m':List (Nat×Ob)} {x1 x2:ResultVar} (hR:R (.ok (.p v) (aG m') A)) (hrs:fn.results.toList=[x1,x2]:=by rfl) (hg:fH Tryz.prog (aG m) (bA l) [x1,x2]=some (d,g):=by exact eF1.h {}) (hp:toP (aG m) g=some (d',v):=by (simp only [toP,iC,aF,aI,Nat.reduceEqDiff,reduceIte,and_true,true_and]<;>rfl)) (hm:bS I m=m':=by exact eF2.h {}) (h3:dP (bO m I) I=true:=by exact eF2.h {}) (hne:∀i∈I,aG m i ≠ .none:=by simp [aF,aI]) (hd:d:=by simp) (hd':d':=by simp):Fin Tryz.prog fn R (sg l m A []):=aJk (by rw [hrs];exact hg) hd hp hd' hm h3 hne hR
end
section
open Go.Gh
structure eT1 {α:Type} (a b:α):Prop where
 h:a=b:=by (simp only [aAh,oX,wZ,aAi,aAj,rU,rV,kG,rW,rX,rY,rZ,sA,sB,sC,sD,sE,sF,sG,sH,sI,sJ,sK,sL,sM,sN,sO,sP,sQ,sR,sS,sT,sU,lK,lL,lM,lN,lO,lP,lQ,lR,lS,lT,lU,lV,lW,lX,lY,lZ,mA,mB,mC,mD,mE,mF,mG,mH,mJ,mL,mM,mN,mO,mQ,mR,mS,mT,mU,mV,mW,mX]<;>rfl)
variable {E:Env Tryz.prog} {C:Cx E} {r:Option Nat} {ops:Array Oper} {Q:GE→Sg E→Prop} {rest lst:List Oper} {l l':List (Nat×G)} {m:List (Nat×Ob)} {A:E.α} {df:List GD}
variable {t:Nat} {ty:TypeId} {pos:String} {af:Array Edge}
theorem sa0 {d e:TypeId} {i:TI} {n:Nat} {o:Operand} {xs:List P} {g:List G} (k:cK C r ops Q rest (sg ((t,.ptr g)::l) m A df)) (ht:ti Tryz.prog d=some i:=by exact eT1.h {}) (hd:i.desc = .array n e:=by rfl) (hx:gev (bA l) o = .p (.list xs):=by (simp only [gev,aT,Nat.reduceEqDiff,reduceIte]<;>rfl)) (hl:xs.length=n:=by rfl) (h0:0<n:=by omega) (h1:∀p∈xs,p.one=true:=by simp [P.one]) (hg:xs.map G.p=g:=by rfl) (hN:t<C.N:=by omega):cK C r ops Q (⟨some t,.sliceToArrayPointer d o,ty,pos,af,none⟩::rest) (sg l m A df):=by
 subst hg
 exact jW (aJp (σ:=sg l m A df) rfl ht hd (bN rfl) hx hl h0 h1 (fun t' e=>by cases e;exact hN)) k
end
section
open Go.Gh
structure eO3 {α:Type} (a b:α):Prop where
 h:a=b:=by (simp only [cI,gev,aT,Nat.reduceEqDiff,reduceIte,List.map_cons,List.map_nil,List.cons_append,List.nil_append,List.append_nil,toP,iC,fV,ofV,rhp,aF,aI,List.mem_cons,List.not_mem_nil,or_false,and_true,true_and]<;>rfl)
structure eO4 {α:Type} (a b:α):Prop where
 h:a=b:=by (simp only [kF,aK5,Option.map_some,Option.map_none,G.rens,G.ren,gX,Gh.dB,Nat.reduceAdd,Nat.zero_add,List.take_succ_cons,List.take_zero,List.drop_succ_cons,List.drop_zero,gev,aT,Nat.reduceEqDiff,reduceIte,List.map_cons,List.map_nil,List.cons_append,List.nil_append,List.append_nil,toP,iC,fV,ofV,rhp,aF,aI,List.mem_cons,List.not_mem_nil,or_false,and_true,true_and]<;>rfl)
variable {E:Env Tryz.prog} {C:Cx E} {r:Option Nat} {ops:Array Oper} {Q:GE→Sg E→Prop} {l l':List (Nat×G)} {m:List (Nat×Ob)} {A:E.α} {df:List GD} {K:Sg E→Prop}
variable {t:Nat} {op:Op} {ty:TypeId} {pos:String} {af:Array Edge} {c:Prop} {g:G} {ob:Ob} {i j:Nat} {f:FuncId} {gs:List G}
variable {lo:Nat} {σ0:Sg E} {ids ids':List (List Nat×List Nat)} {I:List Nat}
theorem dpe (L:List (Nat×Nat)) (J:List Nat) (ks:List Nat) (ad:Option (Nat×Ob)) {cc:Call} {gargs:List G} {mc mr m2 ps:List (Nat×Ob)} {v:P} (spec:Gh.bD E f gargs (aG mc) A fun y=>y = .panic v (aG mr) A) (hent:aJ Tryz.prog f) (k:Q (.panic v) (sg l m2 A df)) (hg:cI Tryz.prog (bA l) cc=some (f,gs):=by exact eO3.h {}) (ha:iF C.lim (aG m) L ad:=by (first|exact True.intro|(refine ⟨by (simp only [aF,aI,Nat.reduceEqDiff,reduceIte]),by omega,⟨_,_,_,rfl⟩,by simp⟩))) (hcv:kF (rhp (aG m) J) (ad.map (·.1)) ks gs=some (c,G.rens (Gh.dB L) gargs):=by exact eO4.h {}) (hc:c:=by simp) (n1:(L.map (·.1)).Nodup:=by decide) (n2:(L.map (·.2)).Nodup:=by decide) (n3:(mc.map (·.1)).Nodup:=by simp) (hp1:iT L (dH (aG m) ad) mc:=by (simp only [iT,dH,Gh.dB,Ob.ren,G.rens,G.ren,gX,upd,aF,aI,Nat.reduceEqDiff,reduceIte]<;>simp)) (hp2:vS C.lim (dH (aG m) ad) mc L:=by (simp [vS,dH,upd,aF,aI]<;>omega)) (hdis:∀d ob,ad=some (d,ob)→d∉J:=by (intro d ob e;simp at e<;>simp [←e.1])) (hk:oF L mr:=by simp [oF,Gh.dB]) (hs:oG mr mc:=by simp [oG,aF,aI]) (ht:t<C.N:=by omega) (hps:cR L (aG mr)=ps:=by (simp only [cR,List.map_cons,List.map_nil,aF,aI,Nat.reduceEqDiff,reduceIte,Ob.ren,G.ren,G.rens,gX,Gh.dB]<;>rfl)) (hm2:ps.reverse++m=m2:=by (simp only [List.reverse_cons,List.reverse_nil,List.nil_append,List.cons_append]<;>rfl)):qV C r ops ⟨some t,.call cc,ty,pos,af,none⟩ (sg l m A df) K Q:=
 aEe spec hent (bN rfl) hg ha hcv hc (qF n1 n2 n3 hp1 hp2) hdis (nP hk hs) ht (by rw [hps];show Q (.panic v) (⟨bA l,cU (aG m) ps,A,df⟩:Sg E);rw [oH,hm2];exact k)
end
section
open Go.Gh
structure eU1 {α:Type} (a b:α):Prop where
 h:a=b:=by (simp only [zN,Op.operands,gev,aT,Nat.reduceEqDiff,reduceIte,List.flatMap_cons,List.flatMap_nil,List.map_cons,List.map_nil,G.idl,G.idls,cA,List.append_nil,List.nil_append,List.cons_append,ofV,Call.operands,List.append_toArray,Array.toList_append,Option.toArray_none,Option.toArray_some]<;>rfl)
structure eU2 {α:Type} (a b:α):Prop where
 h:a=b:=by (simp only [rhp,List.mem_cons,List.not_mem_nil,cZ,gev,ofV,aT,eZ,aF,aI,upd,yes,aCO,jR,nW,aAb,aAa,kJ,nC,uQ,pB,lH,splice,aAC,kD,iD,eG,eU,nS,nD,eA,kK,eV,jO,aAD,kS,iN,aAc,nT,aAd,nU,cP,eW,eX,eN,iO,eB,fN,eH,Option.getD_none,Option.getD_some,gS,eI,gT,jQ,fO,pW,eC,jA,mkAgg,mkFn,mkIface,mkTuple,tA,G.cells,good,cS,bB,G.one,P.one,tI,bG,bR,fV,bU,oE,eF,dK,toP,iC,P.size,P.cells,List.map_cons,List.map_nil,List.take_succ_cons,List.take_zero,List.drop_succ_cons,List.drop_zero,List.take_nil,List.drop_nil,List.cons_append,List.nil_append,List.append_nil,List.length_cons,List.length_nil,List.getElem?_cons_zero,List.getElem?_cons_succ,List.getElem?_nil,List.set_cons_zero,List.set_cons_succ,List.flatMap_cons,List.flatMap_nil,List.getElem?_toArray,List.getElem?_map,List.length_map,Option.map_some,Option.map_none,Nat.mul_one,List.length_set,kO,gZ,Nat.reduceEqDiff,Nat.reduceAdd,Nat.reduceMul,Nat.reduceSub,Nat.reduceLeDiff,Nat.add_zero,Nat.zero_add,Int.toNat_natCast,Int.reduceToNat,reduceIte,reduceCtorEq,eq_self,if_true,if_false,and_true,true_and,true_or,or_true,or_false,false_or,Bool.false_eq_true,ne_eq,not_true_eq_false,not_false_eq_true,cond_true,cond_false,Bool.and_true,Bool.true_and,Bool.and_false,Bool.false_and,Bool.or_true,Bool.true_or,Bool.or_false,Bool.false_or,Bool.not_true,Bool.not_false,aAh,oX,wZ,aAi,aAj,rU,rV,kG,rW,rX,rY,rZ,sA,sB,sC,sD,sE,sF,sG,sH,sI,sJ,sK,sL,sM,sN,sO,sP,sQ,sR,sS,sT,sU,lK,lL,lM,lN,lO,lP,lQ,lR,lS,lT,lU,lV,lW,lX,lY,lZ,mA,mB,mC,mD,mE,mF,mG,mH,mJ,mL,mM,mN,mO,mQ,mR,mS,mT,mU,mV,mW,mX, *]<;>rfl)
variable {E:Env Tryz.prog} {C:Cx E} {r:Option Nat} {ops:Array Oper} {Q:GE→Sg E→Prop} {l l' l1 l2:List (Nat×G)} {m m1:List (Nat×Ob)} {A:E.α} {df:List GD}
variable {t:Nat} {op:Op} {ty:TypeId} {pos:String} {af:Array Edge} {c:Prop} {g:G} {I:List Nat} {cd:Code} {σ0 σ1:Sg E}
theorem pr0 (t:Nat) {cs:List P} {gs:List G} (k:gwp C r cd Q (sg ((t,.ptr gs)::l) m A df)) (hr:bA l t = .p (.ptr cs):=by (simp only [aT,Nat.reduceEqDiff,reduceIte]<;>rfl)) (hg:cs.map G.p=gs:=by rfl):gwp C r cd Q (sg l m A df):=aLg t hr hg k
section
variable {lo n:Nat} {ids:List (List Nat×List Nat)} {idp idp':List (Option (List Nat×List Nat))}
theorem psS (n:Nat) (k:qI C r ops (cE C Q) lo n σ0 (sg l m A df) idp (sg l m A df)) (hn:ids.length=n:=by rfl) (hi:ids.map some++[none]=idp:=by (simp only [List.map_cons,List.map_nil,List.cons_append,List.nil_append]<;>rfl)):eT C r ops (cE C Q) lo σ0 ids (sg l m A df):=qI.start hn (by rw [hi];exact k)
theorem psd (q:Nat) (k:qI C r ops (cE C Q) lo n σ0 σ1 idp' (sg l m A df)) (hn:idp.length=q:=by rfl) (hnk:n≤q:=by decide) (hi:idp++[none]=idp':=by (simp only [List.cons_append,List.nil_append]<;>rfl)):qI C r ops (cE C Q) lo n σ0 σ1 idp (sg l m A df):=
 qI.step (x:=none) (rc:=⟨none,.undef,[],[]⟩) hn hnk (fun y e=>by cases e) (fun _=>⟨rfl,rfl⟩) (by rw [hi];exact k)
theorem psv (q:Nat) (k:qI C r ops (cE C Q) lo n σ0 σ1 idp' (sg ((t,g)::l) m A df)) (hn:idp.length=q:=by rfl) (hnk:n≤q:=by decide) (ho:ops[lo+q]? = some ⟨some t,op,ty,pos,af,none⟩:=by rfl) (hI:zN (gev (bA l)) op=I:=by exact eU1.h {}) (hg:cZ Tryz.prog false 99999 (gev (bA l)) (rhp (aG m) I) op=some (c,⟨g,none⟩):=by exact eU2.h {}) (hd:aG m 99999 = .none:=by (simp only [aF,aI,Nat.reduceEqDiff,reduceIte])) (ht:t<C.N:=by omega) (hi:idp++[some (99999::I,[])]=idp':=by (simp only [List.cons_append,List.nil_append]<;>rfl)) (hc:c:=by first|exact True.intro|simp):qI C r ops (cE C Q) lo n σ0 σ1 idp (sg l m A df):=
 qI.step (x:=some (99999::I,[])) (rc:=⟨some t,g,[],99999::I⟩) hn hnk (fun y e=>by cases e;exact ⟨rfl,rfl,_,ho,rfl,aCr (bN rfl) hg hc hd (fun t' e=>by cases e;exact ht)⟩) (fun e=>by cases e) (by rw [hi];exact k)
theorem psa (q:Nat) (k:qI C r ops (cE C Q) lo n σ0 σ1 idp' (sg ((t,g)::l) m A df)) (hn:idp.length=q:=by rfl) (hnk:n≤q:=by decide) (ho:ops[lo+q]? = some ⟨some t,op,ty,pos,af,none⟩:=by rfl) (hg:cZ Tryz.prog false 99999 (gev (bA l)) (rhp (aG m) []) op=some (c,⟨g,none⟩):=by exact eU2.h {}) (hd:aG m 99999 = .none:=by (simp only [aF,aI,Nat.reduceEqDiff,reduceIte])) (ht:t<C.N:=by omega) (hi:idp++[some ([99999],[])]=idp':=by (simp only [List.cons_append,List.nil_append]<;>rfl)) (hc:c:=by first|exact True.intro|simp):qI C r ops (cE C Q) lo n σ0 σ1 idp (sg l m A df):=
 qI.step (x:=some ([99999],[])) (rc:=⟨some t,g,[],[99999]⟩) hn hnk (fun y e=>by cases e;exact ⟨rfl,rfl,_,ho,rfl,aCr (bN rfl) hg hc hd (fun t' e=>by cases e;exact ht)⟩) (fun e=>by cases e) (by rw [hi];exact k)
theorem pse (n:Nat) (tab vs:List Nat) {oj:Oper} (k:qV C r ops oj (sg l2 m1 A df) (fun _=>False) Q) (ho:ops[lo+n]? = some oj:=by rfl) (hwt:oD tab ops.toList 0=true:=by kernel_rfl) (hp:aNc tab ops.toList lo n idp vs=true:=by kernel_rfl) (hl:(vs.map fun v=>(v,bA l1 v))=l2:=by (simp only [List.map_cons,List.map_nil,aT,eZ,Nat.reduceEqDiff,reduceIte]<;>rfl)):qI C r ops (cE C Q) lo n σ0 (sg l1 m1 A df) idp (sg l m A df):=
 qI.stop tab ho hwt hp (fr:=bA l2) (fun t=>by subst hl;exact aL9 vs t) k
end
end
section
open Go.Gh
theorem aAk {m m':List (Nat×Ob)} (IL:List Nat) (hm:bS IL m=m':=by (simp only [eL,dM,gN,dA,bO,bS,iS,nF,dP,G.idl,G.idls,cA,List.nil_append,List.append_nil,List.cons_append,aF,aI,Nat.reduceEqDiff,reduceIte,List.mem_cons,List.not_mem_nil,or_false,or_true,true_or,false_or,List.filter_cons,List.filter_nil,ne_eq,not_true_eq_false,not_false_eq_true,decide_true,decide_false,Bool.false_eq_true,List.all_cons,List.all_nil,Bool.and_true]<;>rfl)) (h3:dP (bO m IL) IL=true:=by (simp only [eL,dM,gN,dA,bO,bS,iS,nF,dP,G.idl,G.idls,cA,List.nil_append,List.append_nil,List.cons_append,aF,aI,Nat.reduceEqDiff,reduceIte,List.mem_cons,List.not_mem_nil,or_false,or_true,true_or,false_or,List.filter_cons,List.filter_nil,ne_eq,not_true_eq_false,not_false_eq_true,decide_true,decide_false,Bool.false_eq_true,List.all_cons,List.all_nil,Bool.and_true]<;>rfl)) (hne:∀i∈IL,aG m i ≠ .none:=by simp [aF,aI]):Sub (aG m') (aG m):=aDe IL hm h3 hne
end
section
open Go.Gh
structure eV1 {α:Type} (a b:α):Prop where
 h:a=b:=by (simp only [aAh,oX,wZ,aAi,aAj,rU,rV,kG,rW,rX,rY,rZ,sA,sB,sC,sD,sE,sF,sG,sH,sI,sJ,sK,sL,sM,sN,sO,sP,sQ,sR,sS,sT,sU,lK,lL,lM,lN,lO,lP,lQ,lR,lS,lT,lU,lV,lW,lX,lY,lZ,mA,mB,mC,mD,mE,mF,mG,mH,mJ,mL,mM,mN,mO,mQ,mR,mS,mT,mU,mV,mW,mX]<;>rfl)
variable {E:Env Tryz.prog} {C:Cx E} {r:Option Nat} {ops:Array Oper} {Q:GE→Sg E→Prop} {rest lst:List Oper} {l l':List (Nat×G)} {m:List (Nat×Ob)} {A:E.α} {df:List GD}
theorem cp2 {ty tt t2 e:TypeId} {i j:TI} {x z:Operand} {t:Nat} {pos:String} {af:Array Edge} {id off len fz:Nat} {cs:List G} {ps zs:List P} (k:cK C r ops Q rest (sg ((t,.p (.int .i64 ps.length))::l) ((id,.cells (splice cs off (ps.map .p)) fz)::m) A df)) (hi:ti Tryz.prog tt=some i:=by exact eV1.h {}) (hd:i.desc = .slice e:=by rfl) (hj:ti Tryz.prog e=some j:=by exact eV1.h {}) (hsz:j.size=1:=by rfl) (hx:gev (bA l) x = .fsl id off len:=by (simp only [gev,aT,Nat.reduceEqDiff,reduceIte]<;>rfl)) (ho:aG m id = .cells cs fz:=by (simp only [aF,aI,Nat.reduceEqDiff,reduceIte]<;>rfl)) (hz:gev (bA l) z = .p (.list zs):=by (simp only [gev,aT,Nat.reduceEqDiff,reduceIte]<;>rfl)) (hps:zs.take len=ps) (hfit:off+ps.length≤cs.length) (hf:fz≤off:=by omega) (h0:∀p∈zs,p.one=true) (ht:t<C.N:=by omega):cK C r ops Q (⟨some t,.call ⟨.builtin .copy,#[x,z],#[tt,t2]⟩,ty,pos,af,none⟩::rest) (sg l m A df):=
 aJl hi hd hj hsz hx ho hz hps hfit hf h0 ht k
end
section
open Go.Gh Go.ChangeShapes Go.WideShapes Go.ChangeAt Go.RowKit
theorem own:ownKnob Tryz.prog.godebug=none:=by kernel_rfl
theorem aLj:laidOutB Tryz.prog=true:=by kernel_rfl
theorem aOJ:Tryz.prog.globalNamed "internal/strconv.uint64pow10" = some 1:=by kernel_rfl
theorem aOK:Tryz.prog.globalNamed "strconv.ErrSyntax" = some 2:=by kernel_rfl
theorem aOL:Tryz.prog.globalNamed "strconv.ErrRange" = some 3:=by kernel_rfl
theorem aGw : "*" ++ "errors.errorString" = "*errors.errorString":=by decide
theorem aJv (u:TypeId) (h:Tryz.prog.typeName? 3 u=some "*errors.errorString"):u=297:=
 typeName_ptr_named (nm:= "errors.errorString") (by rw [aGw];kernel_rfl) (by kernel_rfl) (by decide) u (by rw [aGw];exact h)
theorem aOM:Tryz.prog.underlying 299=some (.struct #[⟨"s",9,0,false,"","errors",0⟩]):=by kernel_rfl
theorem aON:Tryz.prog.underlying 228=some (.interface #[("Error",160)]):=by kernel_rfl
theorem aLk {w:World} (hs:w.ShapedOpen Tryz.prog) (hl:laidMetH Tryz.prog Rows.bookNamesRow.laid w):Kn.good Tryz.prog (eR w):=by
 rw [MakeChecks.laidMetH_plain _ _ _ (by kernel_rfl)] at hl
 have h1:=hl.tail.tail
 have h2:=h1.tail.tail
 have h3:=h2.tail
 obtain ⟨a0,s0,hv0,-,-,-⟩:=laid_sentinel h2 aOL (ti:=228) (by kernel_rfl) aON aJv (te:=299) (by kernel_rfl) aOM rfl rfl (ts:=9) (by kernel_rfl) (by kernel_rfl) (by kernel_rfl)
 obtain ⟨a1,s1,hv1,-,-,-⟩:=laid_sentinel h3 aOK (ti:=228) (by kernel_rfl) aON aJv (te:=299) (by kernel_rfl) aOM rfl rfl (ts:=9) (by kernel_rfl) (by kernel_rfl) (by kernel_rfl)
 have ht:=Lib.tabIs_of_head (name:= "internal/strconv.uint64pow10") (k:=.u64) (zs:=Lib.pow10Tab) (e:=271) (n:=20) aOJ (t:=286) (by kernel_rfl) (by kernel_rfl) (by kernel_rfl) (by kernel_rfl) (by kernel_rfl) h1
 refine ⟨fun i k hk=>?_,cell_of_shapedOpen_int (t:=3) (zero:=#[.int .i64 0]) hs (of_decide_eq_true (by kernel_rfl)) (by kernel_rfl) rfl (by kernel_rfl) (by kernel_rfl) (by kernel_rfl),?_,?_⟩
 ·have hi:i<Lib.pow10Tab.length:=by
   rw [List.getElem?_eq_some_iff] at hk
   exact hk.1
  have:=ht.cell aOJ i hi
  rw [List.getD,hk] at this
  exact this
 ·exact ⟨_,_,by have h0:=World.var?_cell aOK hv1 0;simpa [eR] using h0⟩
 exact ⟨_,_,by have h0:=World.var?_cell aOL hv0 0;simpa [eR] using h0⟩
theorem aNg {H:Type} {enc:TypeId×Value→H} {a:Assume} {C:Checked} {os:Os} {f:FuncId} {fn:Func} {s:ChangeSpec} {conds:List PathCond} {apart fresh handsOn again:Bool} {X:World→Array Value→Prop}
  (hX:∀(w w':World) (args:Array Value),w.heap=w'.heap→X w args→X w' args)
  (own:ownKnob C.prog.godebug=none) (started:os.Started) (noInit:C.prog.inits.idxOf? f=none) (hfn:C.prog.funcs[f]? = some fn)
  (witness:∃(w:World) (tape:Tape) (i:Input),w.os=os∧(w.forCall tape i).Shaped C.prog∧i.vars=[]∧Input.okWide C.prog (w.forCall tape i) .any w.heap.size f i ∧
   ((s.pre enc C.prog fn conds apart (w.forCall tape i).memory i.args∧X (w.forCall tape i).memory i.args)∧sizedMet enc C.prog fn (OpenSpec.ofChange s) apart (w.forCall tape i).memory i.args)∧a.holds C.prog (lone (Frame.enter C.prog f i.args .normal) [] (w.forCall tape i)))
  (contract:∀(W:World) (base:Nat) (args:Array Value) (ds gs:List (DataW H)) (before:List MemPlace),
   (∀(j:Nat) t v,fn.params[j]? = some t→args[j]? = some v→Value.okWide C.prog W .any base t v) →
   DataW.Whole enc C.prog fn.params.toList s.vars apart W args.toList ds gs before→X W args→W.ShapedOpen C.prog →
   Calls C.prog f args W fun e W'=>∃v,e = .returned v∧s.post enc C.prog fn apart fresh handsOn again W args v W') :
  ReturnsInHanded a C os f .any (fun w args=>(s.pre enc C.prog fn conds apart w args∧X w args)∧sizedMet enc C.prog fn (OpenSpec.ofChange s) apart w args) (s.post enc C.prog fn apart fresh handsOn again):=by
 refine returnsInHanded_of_calls own started noInit witness ?_
 intro w tape i _ hsh _ hok hpre hholds
 obtain ⟨_,_,_,fn',hfn',_,_,_,_,hval⟩:=hok
 have e:fn'=fn:=Option.some.inj (hfn'.symm.trans hfn)
 subst e
 obtain ⟨⟨⟨ds,gs,before,hw,hc⟩,hx⟩,hz⟩:=hpre
 have hw':=DataW.Whole.of_heap (w':=w.forCall tape i) (by rfl) hw
 refine (contract (w.forCall tape i) w.heap.size i.args ds gs before hval hw' (hX _ _ _ (by rfl) hx) hsh).mono fun e W' ⟨v,he,hp⟩=>?_
 subst he
 exact ChangeSpec.post_blind hp
end
section
open Go.Shelf
def aEj:Go.Shelf.Ren:=⟨fun|146=>147|221=>170|268=>180|138=>181|143=>182|195=>196|197=>197|218=>198|219=>178|260=>208|217=>179|225=>192|224=>193|267=>194|266=>195|314=>207|n=>n,fun|9=>9|31=>183|3=>3|4=>4|0=>0|105=>283|21=>21|5=>5|46=>143|119=>300|139=>303|138=>302|146=>256|51=>255|n=>n,fun|1=>0|3=>4|4=>5|n=>n⟩
theorem aLl:Go.Proofs.Lays.n146 Tryz.prog aEj:={
 mixed:=by kernel_rfl
 f138:=Tryz.func181.trans (congrArg some (by kernel_rfl))
 f143:=Tryz.func182.trans (congrArg some (by kernel_rfl))
 f146:=Tryz.func147.trans (congrArg some (by kernel_rfl))
 f195:=Tryz.func196.trans (congrArg some (by kernel_rfl))
 f197:=Tryz.func197.trans (congrArg some (by kernel_rfl))
 f217:=Tryz.func179.trans (congrArg some (by kernel_rfl))
 f218:=Tryz.func198.trans (congrArg some (by kernel_rfl))
 f219:=Tryz.func178.trans (congrArg some (by kernel_rfl))
 f221:=Tryz.func170.trans (congrArg some (by kernel_rfl))
 f224:=Tryz.func193.trans (congrArg some (by kernel_rfl))
 f225:=Tryz.func192.trans (congrArg some (by kernel_rfl))
 f260:=Tryz.func208.trans (congrArg some (by kernel_rfl))
 f266:=Tryz.func195.trans (congrArg some (by kernel_rfl))
 f267:=Tryz.func194.trans (congrArg some (by kernel_rfl))
 f268:=Tryz.func180.trans (congrArg some (by kernel_rfl))
 f314:=Tryz.func207.trans (congrArg some (by kernel_rfl))
 t0:=Tryz.underlying0
 a0:=Tryz.isAgg0
 z0:=Tryz.sizeOf0
 v0:=Tryz.zeroValue0
 t3:=Tryz.underlying3
 a3:=Tryz.isAgg3
 z3:=Tryz.sizeOf3
 v3:=Tryz.zeroValue3
 t4:=Tryz.underlying4
 a4:=Tryz.isAgg4
 z4:=Tryz.sizeOf4
 v4:=Tryz.zeroValue4
 t5:=Tryz.underlying5
 a5:=Tryz.isAgg5
 z5:=Tryz.sizeOf5
 v5:=Tryz.zeroValue5
 t9:=Tryz.underlying9
 a9:=Tryz.isAgg9
 z9:=Tryz.sizeOf9
 v9:=Tryz.zeroValue9
 t21:=Tryz.underlying21
 a21:=Tryz.isAgg21
 z21:=Tryz.sizeOf21
 v21:=Tryz.zeroValue21
 t31:=Tryz.underlying183
 a31:=Tryz.isAgg183
 z31:=Tryz.sizeOf183
 v31:=Tryz.zeroValue183
 t46:=Tryz.underlying143
 a46:=Tryz.isAgg143
 z46:=Tryz.sizeOf143
 v46:=Tryz.zeroValue143
 t51:=Tryz.underlying255
 a51:=Tryz.isAgg255
 z51:=Tryz.sizeOf255
 v51:=Tryz.zeroValue255
 t105:=Tryz.underlying283
 a105:=Tryz.isAgg283
 z105:=Tryz.sizeOf283
 v105:=Tryz.zeroValue283
 t119:=Tryz.underlying300
 a119:=Tryz.isAgg300
 z119:=Tryz.sizeOf300
 t138:=Tryz.underlying302
 a138:=Tryz.isAgg302
 z138:=Tryz.sizeOf302
 v138:=Tryz.zeroValue302
 t139:=Tryz.underlying303
 a139:=Tryz.isAgg303
 z139:=Tryz.sizeOf303
 v139:=Tryz.zeroValue303
 t146:=Tryz.underlying256
 a146:=Tryz.isAgg256
 z146:=Tryz.sizeOf256
 v146:=Tryz.zeroValue256
 g1:=by kernel_rfl
 g3:=by kernel_rfl
 g4:=by kernel_rfl }
def aEk:Go.Shelf.Ren:=⟨fun|145=>139|220=>165|219=>178|217=>179|225=>192|224=>193|267=>194|266=>195|314=>207|n=>n,fun|9=>9|4=>4|59=>233|3=>3|5=>5|46=>143|146=>256|51=>255|n=>n,fun|1=>0|n=>n⟩
theorem aLm:Go.Proofs.Lays.n145 Tryz.prog aEk:={
 mixed:=by kernel_rfl
 f145:=Tryz.func139.trans (congrArg some (by kernel_rfl))
 f217:=Tryz.func179.trans (congrArg some (by kernel_rfl))
 f219:=Tryz.func178.trans (congrArg some (by kernel_rfl))
 f220:=Tryz.func165.trans (congrArg some (by kernel_rfl))
 f224:=Tryz.func193.trans (congrArg some (by kernel_rfl))
 f225:=Tryz.func192.trans (congrArg some (by kernel_rfl))
 f266:=Tryz.func195.trans (congrArg some (by kernel_rfl))
 f267:=Tryz.func194.trans (congrArg some (by kernel_rfl))
 f314:=Tryz.func207.trans (congrArg some (by kernel_rfl))
 t3:=Tryz.underlying3
 a3:=Tryz.isAgg3
 z3:=Tryz.sizeOf3
 v3:=Tryz.zeroValue3
 t4:=Tryz.underlying4
 a4:=Tryz.isAgg4
 z4:=Tryz.sizeOf4
 v4:=Tryz.zeroValue4
 t5:=Tryz.underlying5
 a5:=Tryz.isAgg5
 z5:=Tryz.sizeOf5
 v5:=Tryz.zeroValue5
 t9:=Tryz.underlying9
 a9:=Tryz.isAgg9
 z9:=Tryz.sizeOf9
 v9:=Tryz.zeroValue9
 t46:=Tryz.underlying143
 a46:=Tryz.isAgg143
 z46:=Tryz.sizeOf143
 v46:=Tryz.zeroValue143
 t51:=Tryz.underlying255
 a51:=Tryz.isAgg255
 z51:=Tryz.sizeOf255
 v51:=Tryz.zeroValue255
 t59:=Tryz.underlying233
 a59:=Tryz.isAgg233
 z59:=Tryz.sizeOf233
 v59:=Tryz.zeroValue233
 t146:=Tryz.underlying256
 a146:=Tryz.isAgg256
 z146:=Tryz.sizeOf256
 v146:=Tryz.zeroValue256
 g1:=by kernel_rfl }
def aEl:Go.Shelf.Ren:=⟨fun|102=>93|209=>134|207=>161|n=>n,fun|9=>9|4=>4|3=>3|n=>n,fun|n=>n⟩
theorem aLn:Go.Proofs.Lays.n102 Tryz.prog aEl:={
 mixed:=by kernel_rfl
 f102:=Tryz.func93.trans (congrArg some (by kernel_rfl))
 f207:=Tryz.func161.trans (congrArg some (by kernel_rfl))
 f209:=Tryz.func134.trans (congrArg some (by kernel_rfl))
 t3:=Tryz.underlying3
 a3:=Tryz.isAgg3
 z3:=Tryz.sizeOf3
 v3:=Tryz.zeroValue3
 t4:=Tryz.underlying4
 a4:=Tryz.isAgg4
 z4:=Tryz.sizeOf4
 v4:=Tryz.zeroValue4
 t9:=Tryz.underlying9
 a9:=Tryz.isAgg9
 z9:=Tryz.sizeOf9
 v9:=Tryz.zeroValue9 }
def aEm:Go.Shelf.Ren:=⟨fun|100=>145|207=>161|n=>n,fun|9=>9|4=>4|3=>3|n=>n,fun|n=>n⟩
theorem aLo:Go.Proofs.Lays.n100 Tryz.prog aEm:={
 mixed:=by kernel_rfl
 f100:=Tryz.func145.trans (congrArg some (by kernel_rfl))
 f207:=Tryz.func161.trans (congrArg some (by kernel_rfl))
 t3:=Tryz.underlying3
 a3:=Tryz.isAgg3
 z3:=Tryz.sizeOf3
 v3:=Tryz.zeroValue3
 t4:=Tryz.underlying4
 a4:=Tryz.isAgg4
 z4:=Tryz.sizeOf4
 v4:=Tryz.zeroValue4
 t9:=Tryz.underlying9
 a9:=Tryz.isAgg9
 z9:=Tryz.sizeOf9
 v9:=Tryz.zeroValue9 }
def aEn:Go.Shelf.Ren:=⟨fun|137=>169|217=>179|266=>195|n=>n,fun|9=>9|5=>5|3=>3|n=>n,fun|n=>n⟩
theorem aLp:Go.Proofs.Lays.n137 Tryz.prog aEn:={
 mixed:=by kernel_rfl
 f137:=Tryz.func169.trans (congrArg some (by kernel_rfl))
 f217:=Tryz.func179.trans (congrArg some (by kernel_rfl))
 f266:=Tryz.func195.trans (congrArg some (by kernel_rfl))
 t3:=Tryz.underlying3
 a3:=Tryz.isAgg3
 z3:=Tryz.sizeOf3
 v3:=Tryz.zeroValue3
 t5:=Tryz.underlying5
 a5:=Tryz.isAgg5
 z5:=Tryz.sizeOf5
 v5:=Tryz.zeroValue5
 t9:=Tryz.underlying9
 a9:=Tryz.isAgg9
 z9:=Tryz.sizeOf9
 v9:=Tryz.zeroValue9 }
def aDg:Go.Shelf.Ren:=⟨fun|172=>164|244=>176|245=>177|247=>187|279=>188|280=>189|281=>190|282=>191|287=>204|316=>205|171=>137|205=>206|321=>211|322=>212|243=>163|246=>175|283=>183|284=>184|285=>185|286=>186|129=>200|317=>199|318=>201|319=>202|320=>203|337=>209|338=>210|n=>n,fun|9=>9|3=>3|75=>228|76=>230|4=>4|5=>5|167=>276|37=>53|0=>0|85=>277|2=>2|168=>279|53=>271|175=>290|46=>143|210=>293|127=>225|145=>299|143=>297|21=>21|171=>270|173=>274|212=>286|51=>255|20=>20|213=>287|232=>304|233=>305|80=>160|n=>n,fun|15=>2|16=>3|17=>1|18=>6|19=>7|n=>n⟩
theorem aBi:Go.Proofs.LaysC.n172 Tryz.prog aDg:={
 mixed:=by kernel_rfl
 f129:=Tryz.func200.trans (congrArg some (by kernel_rfl))
 f171:=Tryz.func137.trans (congrArg some (by kernel_rfl))
 f172:=Tryz.func164.trans (congrArg some (by kernel_rfl))
 f205:=Tryz.func206.trans (congrArg some (by kernel_rfl))
 f243:=Tryz.func163.trans (congrArg some (by kernel_rfl))
 f244:=Tryz.func176.trans (congrArg some (by kernel_rfl))
 f245:=Tryz.func177.trans (congrArg some (by kernel_rfl))
 f246:=Tryz.func175.trans (congrArg some (by kernel_rfl))
 f247:=Tryz.func187.trans (congrArg some (by kernel_rfl))
 f279:=Tryz.func188.trans (congrArg some (by kernel_rfl))
 f280:=Tryz.func189.trans (congrArg some (by kernel_rfl))
 f281:=Tryz.func190.trans (congrArg some (by kernel_rfl))
 f282:=Tryz.func191.trans (congrArg some (by kernel_rfl))
 f283:=Tryz.func183.trans (congrArg some (by kernel_rfl))
 f284:=Tryz.func184.trans (congrArg some (by kernel_rfl))
 f285:=Tryz.func185.trans (congrArg some (by kernel_rfl))
 f286:=Tryz.func186.trans (congrArg some (by kernel_rfl))
 f287:=Tryz.func204.trans (congrArg some (by kernel_rfl))
 f316:=Tryz.func205.trans (congrArg some (by kernel_rfl))
 f317:=Tryz.func199.trans (congrArg some (by kernel_rfl))
 f318:=Tryz.func201.trans (congrArg some (by kernel_rfl))
 f319:=Tryz.func202.trans (congrArg some (by kernel_rfl))
 f320:=Tryz.func203.trans (congrArg some (by kernel_rfl))
 f321:=Tryz.func211.trans (congrArg some (by kernel_rfl))
 f322:=Tryz.func212.trans (congrArg some (by kernel_rfl))
 f337:=Tryz.func209.trans (congrArg some (by kernel_rfl))
 f338:=Tryz.func210.trans (congrArg some (by kernel_rfl))
 t0:=Tryz.underlying0
 a0:=Tryz.isAgg0
 z0:=Tryz.sizeOf0
 v0:=Tryz.zeroValue0
 t2:=Tryz.underlying2
 a2:=Tryz.isAgg2
 z2:=Tryz.sizeOf2
 v2:=Tryz.zeroValue2
 t3:=Tryz.underlying3
 a3:=Tryz.isAgg3
 z3:=Tryz.sizeOf3
 v3:=Tryz.zeroValue3
 t4:=Tryz.underlying4
 a4:=Tryz.isAgg4
 z4:=Tryz.sizeOf4
 v4:=Tryz.zeroValue4
 t5:=Tryz.underlying5
 a5:=Tryz.isAgg5
 z5:=Tryz.sizeOf5
 v5:=Tryz.zeroValue5
 t9:=Tryz.underlying9
 a9:=Tryz.isAgg9
 z9:=Tryz.sizeOf9
 v9:=Tryz.zeroValue9
 t20:=Tryz.underlying20
 a20:=Tryz.isAgg20
 z20:=Tryz.sizeOf20
 v20:=Tryz.zeroValue20
 t21:=Tryz.underlying21
 a21:=Tryz.isAgg21
 z21:=Tryz.sizeOf21
 v21:=Tryz.zeroValue21
 t37:=Tryz.underlying53
 a37:=Tryz.isAgg53
 z37:=Tryz.sizeOf53
 v37:=Tryz.zeroValue53
 t46:=Tryz.underlying143
 a46:=Tryz.isAgg143
 z46:=Tryz.sizeOf143
 v46:=Tryz.zeroValue143
 t51:=Tryz.underlying255
 a51:=Tryz.isAgg255
 z51:=Tryz.sizeOf255
 v51:=Tryz.zeroValue255
 t53:=Tryz.underlying271
 a53:=Tryz.isAgg271
 z53:=Tryz.sizeOf271
 v53:=Tryz.zeroValue271
 t75:=Tryz.underlying228
 a75:=Tryz.isAgg228
 z75:=Tryz.sizeOf228
 v75:=Tryz.zeroValue228
 t76:=Tryz.underlying230
 a76:=Tryz.isAgg230
 z76:=Tryz.sizeOf230
 v76:=Tryz.zeroValue230
 t85:=Tryz.underlying277
 a85:=Tryz.isAgg277
 z85:=Tryz.sizeOf277
 v85:=Tryz.zeroValue277
 t127:=Tryz.underlying225
 a127:=Tryz.isAgg225
 z127:=Tryz.sizeOf225
 v127:=Tryz.zeroValue225
 t143:=Tryz.underlying297
 a143:=Tryz.isAgg297
 z143:=Tryz.sizeOf297
 v143:=Tryz.zeroValue297
 t145:=Tryz.underlying299
 a145:=Tryz.isAgg299
 z145:=Tryz.sizeOf299
 v145:=Tryz.zeroValue299
 t167:=Tryz.underlying276
 a167:=Tryz.isAgg276
 z167:=Tryz.sizeOf276
 v167:=Tryz.zeroValue276
 t168:=Tryz.underlying279
 a168:=Tryz.isAgg279
 z168:=Tryz.sizeOf279
 v168:=Tryz.zeroValue279
 t171:=Tryz.underlying270
 a171:=Tryz.isAgg270
 z171:=Tryz.sizeOf270
 v171:=Tryz.zeroValue270
 t173:=Tryz.underlying274
 a173:=Tryz.isAgg274
 z173:=Tryz.sizeOf274
 v173:=Tryz.zeroValue274
 t175:=Tryz.underlying290
 a175:=Tryz.isAgg290
 z175:=Tryz.sizeOf290
 v175:=Tryz.zeroValue290
 t210:=Tryz.underlying293
 a210:=Tryz.isAgg293
 z210:=Tryz.sizeOf293
 v210:=Tryz.zeroValue293
 t212:=Tryz.underlying286
 a212:=Tryz.isAgg286
 z212:=Tryz.sizeOf286
 v212:=Tryz.zeroValue286
 t213:=Tryz.underlying287
 a213:=Tryz.isAgg287
 z213:=Tryz.sizeOf287
 t232:=Tryz.underlying304
 a232:=Tryz.isAgg304
 z232:=Tryz.sizeOf304
 v232:=Tryz.zeroValue304
 t233:=Tryz.underlying305
 a233:=Tryz.isAgg305
 z233:=Tryz.sizeOf305
 v233:=Tryz.zeroValue305
 g15:=by kernel_rfl
 g16:=by kernel_rfl
 g17:=by kernel_rfl
 g18:=by kernel_rfl
 g19:=by kernel_rfl
 t80:=Tryz.underlying160
 a80:=Tryz.isAgg160
 z80:=Tryz.sizeOf160
 v80:=Tryz.zeroValue160
 i0:=by kernel_rfl
 i2:=by kernel_rfl
 i3:=by kernel_rfl
 i4:=by kernel_rfl
 i5:=by kernel_rfl
 i9:=by kernel_rfl
 i20:=by kernel_rfl
 i21:=by kernel_rfl
 i37:=by kernel_rfl
 i46:=by kernel_rfl
 i51:=by kernel_rfl
 i53:=by kernel_rfl
 i75:=by kernel_rfl
 i76:=by kernel_rfl
 i80:=by kernel_rfl
 i85:=by kernel_rfl
 i127:=by kernel_rfl
 i143:=by kernel_rfl
 i145:=by kernel_rfl
 i167:=by kernel_rfl
 i168:=by kernel_rfl
 i171:=by kernel_rfl
 i173:=by kernel_rfl
 i175:=by kernel_rfl
 i210:=by kernel_rfl
 i212:=by kernel_rfl
 i232:=by kernel_rfl
 i233:=by kernel_rfl
 m15:=by kernel_rfl
 m16:=by kernel_rfl
 m17:=by kernel_rfl
 m18:=by kernel_rfl
 m19:=by kernel_rfl
 c0:=by kernel_rfl
 c2:=by kernel_rfl
 c3:=by kernel_rfl
 c4:=by kernel_rfl
 c5:=by kernel_rfl
 c9:=by kernel_rfl
 c20:=by kernel_rfl
 c21:=by kernel_rfl
 c37:=by kernel_rfl
 c46:=by kernel_rfl
 c51:=by kernel_rfl
 c53:=by kernel_rfl
 c75:=by kernel_rfl
 c76:=by kernel_rfl
 c80:=by kernel_rfl
 c85:=by kernel_rfl
 c127:=by kernel_rfl
 c143:=by kernel_rfl
 c145:=by kernel_rfl
 c167:=by kernel_rfl
 c168:=by kernel_rfl
 c171:=by kernel_rfl
 c173:=by kernel_rfl
 c175:=by kernel_rfl
 c210:=by kernel_rfl
 c212:=by kernel_rfl
 c213:=by kernel_rfl
 c232:=by kernel_rfl
 c233:=by kernel_rfl }
def aEo:Go.Shelf.Ren:=⟨fun|285=>185|n=>n,fun|37=>53|53=>271|3=>3|4=>4|51=>255|9=>9|5=>5|0=>0|n=>n,fun|n=>n⟩
theorem aLq:Go.Proofs.Lays.n285 Tryz.prog aEo:={
 mixed:=by kernel_rfl
 f285:=Tryz.func185.trans (congrArg some (by kernel_rfl))
 t0:=Tryz.underlying0
 a0:=Tryz.isAgg0
 z0:=Tryz.sizeOf0
 v0:=Tryz.zeroValue0
 t3:=Tryz.underlying3
 a3:=Tryz.isAgg3
 z3:=Tryz.sizeOf3
 v3:=Tryz.zeroValue3
 t4:=Tryz.underlying4
 a4:=Tryz.isAgg4
 z4:=Tryz.sizeOf4
 v4:=Tryz.zeroValue4
 t5:=Tryz.underlying5
 a5:=Tryz.isAgg5
 z5:=Tryz.sizeOf5
 v5:=Tryz.zeroValue5
 t9:=Tryz.underlying9
 a9:=Tryz.isAgg9
 z9:=Tryz.sizeOf9
 v9:=Tryz.zeroValue9
 t37:=Tryz.underlying53
 a37:=Tryz.isAgg53
 z37:=Tryz.sizeOf53
 v37:=Tryz.zeroValue53
 t51:=Tryz.underlying255
 a51:=Tryz.isAgg255
 z51:=Tryz.sizeOf255
 v51:=Tryz.zeroValue255
 t53:=Tryz.underlying271
 a53:=Tryz.isAgg271
 z53:=Tryz.sizeOf271
 v53:=Tryz.zeroValue271 }
def aEp:Go.Shelf.Ren:=⟨fun|129=>200|n=>n,fun|53=>271|3=>3|4=>4|46=>143|5=>5|9=>9|n=>n,fun|n=>n⟩
theorem aLr:Go.Proofs.Lays.n129 Tryz.prog aEp:={
 mixed:=by kernel_rfl
 f129:=Tryz.func200.trans (congrArg some (by kernel_rfl))
 t3:=Tryz.underlying3
 a3:=Tryz.isAgg3
 z3:=Tryz.sizeOf3
 v3:=Tryz.zeroValue3
 t4:=Tryz.underlying4
 a4:=Tryz.isAgg4
 z4:=Tryz.sizeOf4
 v4:=Tryz.zeroValue4
 t5:=Tryz.underlying5
 a5:=Tryz.isAgg5
 z5:=Tryz.sizeOf5
 v5:=Tryz.zeroValue5
 t9:=Tryz.underlying9
 a9:=Tryz.isAgg9
 z9:=Tryz.sizeOf9
 v9:=Tryz.zeroValue9
 t46:=Tryz.underlying143
 a46:=Tryz.isAgg143
 z46:=Tryz.sizeOf143
 v46:=Tryz.zeroValue143
 t53:=Tryz.underlying271
 a53:=Tryz.isAgg271
 z53:=Tryz.sizeOf271
 v53:=Tryz.zeroValue271 }
def aEq:Go.Shelf.Ren:=⟨fun|317=>199|n=>n,fun|3=>3|46=>143|n=>n,fun|n=>n⟩
theorem aLs:Go.Proofs.Lays.n317 Tryz.prog aEq:={
 mixed:=by kernel_rfl
 f317:=Tryz.func199.trans (congrArg some (by kernel_rfl))
 t3:=Tryz.underlying3
 a3:=Tryz.isAgg3
 z3:=Tryz.sizeOf3
 v3:=Tryz.zeroValue3
 t46:=Tryz.underlying143
 a46:=Tryz.isAgg143
 z46:=Tryz.sizeOf143
 v46:=Tryz.zeroValue143 }
def aEr:Go.Shelf.Ren:=⟨fun|318=>201|n=>n,fun|3=>3|4=>4|n=>n,fun|n=>n⟩
theorem aLt:Go.Proofs.Lays.n318 Tryz.prog aEr:={
 mixed:=by kernel_rfl
 f318:=Tryz.func201.trans (congrArg some (by kernel_rfl))
 t3:=Tryz.underlying3
 a3:=Tryz.isAgg3
 z3:=Tryz.sizeOf3
 v3:=Tryz.zeroValue3
 t4:=Tryz.underlying4
 a4:=Tryz.isAgg4
 z4:=Tryz.sizeOf4
 v4:=Tryz.zeroValue4 }
def aEs:Go.Shelf.Ren:=⟨fun|246=>175|283=>183|284=>184|285=>185|286=>186|129=>200|317=>199|318=>201|319=>202|320=>203|337=>209|338=>210|n=>n,fun|2=>2|3=>3|9=>9|4=>4|171=>270|0=>0|53=>271|37=>53|5=>5|173=>274|212=>286|51=>255|20=>20|213=>287|46=>143|232=>304|233=>305|n=>n,fun|17=>1|18=>6|19=>7|n=>n⟩
theorem aLu:Go.Proofs.Lays.n246 Tryz.prog aEs:={
 mixed:=by kernel_rfl
 f129:=Tryz.func200.trans (congrArg some (by kernel_rfl))
 f246:=Tryz.func175.trans (congrArg some (by kernel_rfl))
 f283:=Tryz.func183.trans (congrArg some (by kernel_rfl))
 f284:=Tryz.func184.trans (congrArg some (by kernel_rfl))
 f285:=Tryz.func185.trans (congrArg some (by kernel_rfl))
 f286:=Tryz.func186.trans (congrArg some (by kernel_rfl))
 f317:=Tryz.func199.trans (congrArg some (by kernel_rfl))
 f318:=Tryz.func201.trans (congrArg some (by kernel_rfl))
 f319:=Tryz.func202.trans (congrArg some (by kernel_rfl))
 f320:=Tryz.func203.trans (congrArg some (by kernel_rfl))
 f337:=Tryz.func209.trans (congrArg some (by kernel_rfl))
 f338:=Tryz.func210.trans (congrArg some (by kernel_rfl))
 t0:=Tryz.underlying0
 a0:=Tryz.isAgg0
 z0:=Tryz.sizeOf0
 v0:=Tryz.zeroValue0
 t2:=Tryz.underlying2
 a2:=Tryz.isAgg2
 z2:=Tryz.sizeOf2
 v2:=Tryz.zeroValue2
 t3:=Tryz.underlying3
 a3:=Tryz.isAgg3
 z3:=Tryz.sizeOf3
 v3:=Tryz.zeroValue3
 t4:=Tryz.underlying4
 a4:=Tryz.isAgg4
 z4:=Tryz.sizeOf4
 v4:=Tryz.zeroValue4
 t5:=Tryz.underlying5
 a5:=Tryz.isAgg5
 z5:=Tryz.sizeOf5
 v5:=Tryz.zeroValue5
 t9:=Tryz.underlying9
 a9:=Tryz.isAgg9
 z9:=Tryz.sizeOf9
 v9:=Tryz.zeroValue9
 t20:=Tryz.underlying20
 a20:=Tryz.isAgg20
 z20:=Tryz.sizeOf20
 v20:=Tryz.zeroValue20
 t37:=Tryz.underlying53
 a37:=Tryz.isAgg53
 z37:=Tryz.sizeOf53
 v37:=Tryz.zeroValue53
 t46:=Tryz.underlying143
 a46:=Tryz.isAgg143
 z46:=Tryz.sizeOf143
 v46:=Tryz.zeroValue143
 t51:=Tryz.underlying255
 a51:=Tryz.isAgg255
 z51:=Tryz.sizeOf255
 v51:=Tryz.zeroValue255
 t53:=Tryz.underlying271
 a53:=Tryz.isAgg271
 z53:=Tryz.sizeOf271
 v53:=Tryz.zeroValue271
 t171:=Tryz.underlying270
 a171:=Tryz.isAgg270
 z171:=Tryz.sizeOf270
 v171:=Tryz.zeroValue270
 t173:=Tryz.underlying274
 a173:=Tryz.isAgg274
 z173:=Tryz.sizeOf274
 v173:=Tryz.zeroValue274
 t212:=Tryz.underlying286
 a212:=Tryz.isAgg286
 z212:=Tryz.sizeOf286
 v212:=Tryz.zeroValue286
 t213:=Tryz.underlying287
 a213:=Tryz.isAgg287
 z213:=Tryz.sizeOf287
 t232:=Tryz.underlying304
 a232:=Tryz.isAgg304
 z232:=Tryz.sizeOf304
 v232:=Tryz.zeroValue304
 t233:=Tryz.underlying305
 a233:=Tryz.isAgg305
 z233:=Tryz.sizeOf305
 v233:=Tryz.zeroValue305
 g17:=by kernel_rfl
 g18:=by kernel_rfl
 g19:=by kernel_rfl }
end
section
open Go.Gh
open Go.RowKit
open Go.Shelf
theorem aLv (b:Nat) (w:World) (h0:w.cell? ⟨b,0,none⟩=some (.pointer (some ⟨b,0,none⟩))) :
  Calls Tryz.prog 162 #[.pointer (some ⟨b,0,none⟩)] w fun e w'=>e = .returned (.tuple #[])∧w'=w:=by
 have hj:(Tryz.prog.info? 156).map (·.size)=some 2:=by kernel_rfl
 obtain ⟨j,hj,_⟩:=Option.map_eq_some_iff.1 hj
 have mixed:Tryz.prog.follows .mixedOrders=true:=by kernel_rfl
 have u154:=run_underlying Tryz.underlying154
 go_enter Tryz.func162,Tryz.ntmps162
 go_wp2
 rw [Lib.run_neq_ptr_same w _ Tryz.underlying154 hj]
 go_wp2
 go_end0
 exact ⟨rfl,rfl⟩
theorem aJw (b:Nat) (w:World) (h0:w.cell? ⟨b,0,none⟩=some (.pointer none)) (hsh:w.shape? b=some (158,2)) (hfz:w.frozen? ⟨b,0,none⟩=false) :
  Calls Tryz.prog 162 #[.pointer (some ⟨b,0,none⟩)] w fun e w'=>e = .returned (.tuple #[])∧w'=w.setCell ⟨b,0,none⟩ (.pointer (some ⟨b,0,none⟩)):=by
 have hj:(Tryz.prog.info? 156).map (·.size)=some 2:=by kernel_rfl
 obtain ⟨j,hj,hjs⟩:=Option.map_eq_some_iff.1 hj
 have mixed:Tryz.prog.follows .mixedOrders=true:=by kernel_rfl
 have u154:=run_underlying Tryz.underlying154
 go_enter Tryz.func162,Tryz.ntmps162
 go_wp2
 rw [Lib.run_to_unsafe w ⟨b,0,none⟩ Tryz.underlying154 Tryz.underlying265 hj (by rw [hjs];decide) hsh (Nat.zero_lt_succ 1)]
 simp only [Result.andThen]
 rw [Oper.upon_value]
 go_wp2
 rw [run_callFunc_extern Tryz.func174 (by kernel_rfl) (by kernel_rfl) (by kernel_rfl) (e:=Extern.AbiNoEscape.same) (by kernel_rfl)]
 rw [Lib.run_noEscape]
 simp only [Result.andThen]
 rw [Oper.upon_value]
 go_wp2
 rw [Lib.run_from_unsafe w ⟨b,0,none⟩ Tryz.underlying265 Tryz.underlying154 hj hsh (by kernel_rfl)]
 simp only [Result.andThen]
 rw [Oper.upon_value]
 go_wp2
 go_end0
 exact ⟨rfl,rfl⟩
theorem aLw (b g cap:Nat) (p:Value) (e0:TypeId) (cur:Array Value) (l:List UInt8) (w:World) (h0:l≠[]) (hbk:w.heap[b]? = some (.cells #[p,.slice (some ⟨g,0,none⟩) l.length cap] e0 (0,0)))
  (hg:w.heap[g]? = some (.cells cur 5 (0,0))) (hn:l.length≤cur.size) (hcap:l.length≤cap) (hc:l.length≤maxLen) (hcell:∀(j:Nat) x,l[j]? = some x→w.cell? (({ block:=g,off:=0 }:Addr).add j)=some (.int .u8 x.toNat)) :
  Calls Tryz.prog 94 #[.pointer (some ⟨b,0,none⟩)] w fun e w'=>e = .returned (.string ⟨l.toArray⟩)∧w'=w.drew.freeze ⟨g,0,none⟩ l.length:=by
 have hl0:l.length≠0:=by simpa using h0
 have c1:w.drew.cell? ⟨b,1,none⟩=some (.slice (some ⟨g,0,none⟩) l.length cap):=by
  have:w.drew.heap[b]? = some (.cells #[p,.slice (some ⟨g,0,none⟩) l.length cap] e0 (0,0)):=hbk
  rw [Lib.cell_of_heap this];rfl
 have hSD:(Builtin.unsafeSliceData_ #[53] 225 #[.slice (some ⟨g,0,none⟩) l.length cap]).run Tryz.prog w.drew = .ok (.pointer (some ⟨g,0,none⟩)) w.drew:=
  Lib.run_unsafeSliceData_row _ _ _ _ _ _ (by omega)
 have hUS:(Builtin.unsafeString_ #[225,3] 9 #[.pointer (some ⟨g,0,none⟩),.int .i64 l.length]).run Tryz.prog w.drew = .ok (.string ⟨l.toArray⟩) (w.drew.freeze ⟨g,0,none⟩ l.length):=by
  refine Lib.run_unsafeString_row w.drew 225 3 9 5 Tryz.underlying225 (by kernel_rfl) g cur.size (by have hg':w.drew.heap[g]? = some (.cells cur 5 (0,0)):=hg;simp [World.shape?,hg']) l h0 (by omega) (by unfold maxLen at hc;omega) ?_
  intro j x hx
  exact hcell j x hx
 have mixed:Tryz.prog.follows .mixedOrders=true:=by kernel_rfl
 have u154:=run_underlying Tryz.underlying154
 go_enter Tryz.func94,Tryz.ntmps94
 go_wp2
 go_region_o
 all_goals (go_wp2;go_ret;exact ⟨rfl,rfl⟩)
end
section
open Go
def dF (c:UInt8):List UInt8→List (List UInt8)
 |[]=>[[]]
 |b::l=>if b=c then []::dF c l else match dF c l with
  |p::ps=>(b::p)::ps
  |[]=>[[b]]
theorem yK (c:UInt8):∀l,dF c l≠[]
 |[]=>by simp [dF]
 |b::l=>by
  rw [dF]
  split
  ·simp
  split<;>simp
def bT:List UInt8→List (List UInt8)
 |[]=>[]
 |b::l=>if b=10 then [10]::bT l else match bT l with
  |p::ps=>(b::p)::ps
  |[]=>[[b]]
theorem tM (c:UInt8) (l:List UInt8):Lib.index (c::l) [c]=0:=by
 simp [Lib.index]
theorem tN (b c:UInt8) (l:List UInt8) (h:b≠c):Lib.index (b::l) [c]=if Lib.index l [c] == -1 then -1 else Lib.index l [c]+1:=by
 have h2:¬c=b:=fun e=>h e.symm
 simp [Lib.index,h2]
theorem aNh (l:List UInt8) (c:UInt8) : -1≤Lib.index l [c]:=by
 induction l with
 |nil=>simp [Lib.index]
 |cons b l ih=>
  by_cases h:b=c
  ·subst h;rw [tM];omega
  rw [tN b c l h];split<;>omega
theorem yL (c:UInt8):∀(l:List UInt8) (k:Nat),k=l.count c→Lib.splitK [c] 0 k l=dF c l
 |[],k,hk=>by simp at hk;subst hk;rfl
 |b::l,k,hk=>by
  by_cases h:b=c
  ·subst h
   rw [List.count_cons_self] at hk
   subst hk
   have:=yL b l (l.count b) rfl
   simp only [Lib.splitK,tM]
   simp [dF,this]
  rw [List.count_cons_of_ne h] at hk
  have ih:=yL c l k hk
  cases k with
  |zero=>
   have hl:dF c l=[l]:=by rw [←ih];rfl
   rw [dF,if_neg h,hl];rfl
  |succ k=>
   rw [dF,if_neg h,←ih]
   simp only [Lib.splitK,tN b c l h]
   have hge:=aNh l c
   by_cases hm:Lib.index l [c] = -1
   ·simp [hm]
   have h0:0≤Lib.index l [c]:=by omega
   obtain ⟨i,hi⟩:=Int.eq_ofNat_of_zero_le h0
   rw [hi]
   have e1:((i:Int) == -1)=false:=by simp
   have e2:(((i:Int)+1:Int) == -1)=false:=by
    have:¬((i:Int)+1 = -1):=by omega
    simpa using this
   have e3:((i:Int)+1).toNat=i+1:=by omega
   simp only [e1,e2,Bool.false_eq_true,if_false,e3]
   simp
theorem aHz (s:List UInt8) (c:UInt8):(Lib.splitB ⟨#[c]⟩ 0 (Lib.countB ⟨⟨s⟩⟩ ⟨#[c]⟩) ⟨⟨s⟩⟩).map (·.data.toList)=dF c s:=by
 rw [Lib.splitB_data]
 exact yL c s _ (Lib.count_one c s)
def jI (s:List UInt8):Int×Bool:=match Lib.atoiAll s with
 |.ok v=>(v,true)
 |.range=>(Lib.atoiSat s,false)
 |_=>(0,false)
theorem aCv:∀(s:List UInt8) (i:Nat),Lib.indexByte s 10=i→bT s=s.take (i+1)::bT (s.drop (i+1))
 |[],i,h=>by exfalso;simp only [Lib.indexByte] at h;omega
 |b::l,i,h=>by
  unfold Lib.indexByte at h
  by_cases hb:b=10
  ·subst hb
   have hi:i=0:=by simpa using h.symm
   subst hi
   simp [bT]
  have h1:(b==10)=false:=by simpa using hb
  rw [h1] at h
  simp only [Bool.false_eq_true,if_false] at h
  have hge:=Lib.indexByte_ge l 10
  by_cases hm:Lib.indexByte l 10 = -1
  ·exfalso;rw [hm] at h;simp only [BEq.rfl,if_true] at h;omega
  obtain ⟨j,hj⟩:=Int.eq_ofNat_of_zero_le (show 0≤Lib.indexByte l 10 by omega)
  rw [hj] at h
  have e1:((j:Int) == -1)=false:=by simp
  rw [e1] at h
  simp only [Bool.false_eq_true,if_false] at h
  obtain rfl:i=j+1:=by omega
  have:=aCv l j hj
  rw [bT,if_neg hb,this]
  rfl
theorem zT:∀(s:List UInt8),s≠[]→Lib.indexByte s 10 = -1→bT s=[s]
 |[],h,_=>absurd rfl h
 |b::l,_,h=>by
  unfold Lib.indexByte at h
  by_cases hb:b=10
  ·subst hb;simp at h
  have h1:(b==10)=false:=by simpa using hb
  rw [h1] at h
  simp only [Bool.false_eq_true,if_false] at h
  have hge:=Lib.indexByte_ge l 10
  have hm:Lib.indexByte l 10 = -1:=by
   by_cases hm:Lib.indexByte l 10 = -1
   ·exact hm
   have:(Lib.indexByte l 10 == -1)=false:=by simpa using hm
   rw [this] at h
   simp only [Bool.false_eq_true,if_false] at h
   omega
  rw [bT,if_neg hb]
  cases l with
  |nil=>rfl
  |cons d l=>rw [zT (d::l) (by simp) hm]
end
section
open Go.Gh
open Go.RowKit
theorem zU (s p:List UInt8) (h:s.length≤9223372036854775807):bF Tryz.prog 145 [.str s,.str p] (.ok (.bool (Lib.hasSuffix s p))):=
 fW (v:=.bool (Lib.hasSuffix s p)) (fun π=>by simp only [aS]) fun π w vs hg hk hv=>by
  simp only [aU,aS] at hv
  obtain ⟨_,_,rfl,rfl,_,_,rfl,rfl,rfl⟩:=hv
  exact (Any.strings_HasSuffix aLo ⟨⟨s⟩⟩ ⟨⟨p⟩⟩ w h).mono fun e w' ⟨he,hw⟩=>⟨he,hw ▸ Below.refl _ _⟩
theorem aDh (s p:List UInt8) (h:s.length≤9223372036854775807):bF Tryz.prog 93 [.str s,.str p] (.ok (.str (Lib.trimSuffix s p))):=
 fW (v:=.string ⟨⟨Lib.trimSuffix s p⟩⟩) (fun π=>by simp only [aS]) fun π w vs hg hk hv=>by
  simp only [aU,aS] at hv
  obtain ⟨_,_,rfl,rfl,_,_,rfl,rfl,rfl⟩:=hv
  exact (Any.strings_TrimSuffix aLn ⟨⟨s⟩⟩ ⟨⟨p⟩⟩ w h).mono fun e w' ⟨he,hw⟩=>⟨he,hw ▸ Below.refl _ _⟩
theorem aEt (s:List UInt8) (c:UInt8):bF Tryz.prog 169 [.str s,.int .u8 c.toNat] (.ok (.int .i64 (Lib.indexByte s c))):=
 fW (v:=.int .i64 (Lib.indexByte s c)) (fun π=>by simp only [aS]) fun π w vs hg hk hv=>by
  simp only [aU,aS] at hv
  obtain ⟨_,_,rfl,rfl,_,_,rfl,rfl,rfl⟩:=hv
  refine (Any.strings_IndexByte aLp ⟨⟨s⟩⟩ c.toNat w).mono fun e w' ⟨he,hw⟩=>⟨?_,hw ▸ Below.refl _ _⟩
  rw [he]
  simp
theorem aFu {w:World} (n:Nat):Below w.heap.size w (w.drewN n):=⟨rfl,rfl,rfl,Nat.le_refl _,fun _ _=>rfl⟩
theorem aGx (s p:List UInt8) (h:s.length<4294967281):bF Tryz.prog 139 [.str s,.str p] (.ok (.tuple [.str (Lib.cut s p).1,.str (Lib.cut s p).2.1,.bool (Lib.cut s p).2.2])):=
 fW (v:=.tuple #[.string ⟨⟨(Lib.cut s p).1⟩⟩,.string ⟨⟨(Lib.cut s p).2.1⟩⟩,.bool (Lib.cut s p).2.2]) (fun π=>by simp [aS,aU]) fun π w vs hg hk hv=>by
  simp only [aU,aS] at hv
  obtain ⟨_,_,rfl,rfl,_,_,rfl,rfl,rfl⟩:=hv
  obtain ⟨_,⟨m,hm⟩,_⟩:=hg
  exact (Any.strings_Cut aLm ⟨⟨s⟩⟩ ⟨⟨p⟩⟩ m w h (hk _ _ _ hm)).mono fun e w' ⟨he,n,hw⟩=>⟨he,hw ▸ aFu n⟩
theorem aCw {π:PM} {b:Nat}:∀(l:List (List UInt8)) (o:Nat),(∀(j:Nat) s,l[j]? = some s→π b (o+j)=some (.string ⟨⟨s⟩⟩))→bE π b o (l.map P.str)
 |[],o,_=>by simp only [List.map_nil,bE]
 |s::l,o,h=>by
  simp only [List.map_cons,bE]
  refine ⟨⟨_,h 0 s rfl,by simp only [aS],rfl⟩,aCw l (o+1) fun j s hj=>?_⟩
  have:=h (j+1) s (by simpa using hj)
  rwa [Nat.add_assoc,Nat.add_comm 1]
theorem aLx (s:List UInt8) (c:UInt8) (h:s.length<4294967281):bF Tryz.prog 147 [.str s,.str [c]] (.ok (.list ((dF c s).map P.str))):=
 yJ fun π w vs hg hk hv=>by
  simp only [aU,aS] at hv
  obtain ⟨_,_,rfl,rfl,_,_,rfl,rfl,rfl⟩:=hv
  obtain ⟨_,⟨m,hm⟩,_⟩:=hg
  refine (Any.strings_Split aLl (by kernel_rfl) ⟨⟨s⟩⟩ ⟨#[c]⟩ m w h (hk _ _ _ hm) (Nat.le_refl _)).mono fun e w' ⟨he,hw⟩=>?_
  have hl:=aHz s c
  have hlen:(dF c s).length=Lib.countB ⟨⟨s⟩⟩ ⟨#[c]⟩+1:=by rw [←hl,List.length_map];exact Lib.splitB_all _ (Nat.le_refl _) 0 _ _ rfl
  have hcell:∀(j:Nat) x,(dF c s)[j]? = some x→((Lib.splitB ⟨#[c]⟩ 0 (Lib.countB ⟨⟨s⟩⟩ ⟨#[c]⟩) ⟨⟨s⟩⟩).map Value.string)[j]? = some (.string ⟨⟨x⟩⟩):=fun j x hx=>by
   rw [←hl,List.getElem?_map] at hx
   rw [List.getElem?_map]
   cases hb:(Lib.splitB ⟨#[c]⟩ 0 (Lib.countB ⟨⟨s⟩⟩ ⟨#[c]⟩) ⟨⟨s⟩⟩)[j]? with
   |none=>rw [hb] at hx;cases hx
   |some y=>rw [hb] at hx;cases hx;rfl
  have hfr:∀o,π w.heap.size o=none:=nR hk (Nat.le_refl _)
  subst hw
  refine ⟨_,π.add w.heap.size ((Lib.splitB ⟨#[c]⟩ 0 (Lib.countB ⟨⟨s⟩⟩ ⟨#[c]⟩) ⟨⟨s⟩⟩).map Value.string),he,?_,?_,PM.add_le (fun o v ho=>(by rw [hfr o] at ho;cases ho)),fun b o v hv=>?_,fun b hb=>?_⟩
  ·simp only [aS]
   refine ⟨_,_,_,rfl,by rw [List.length_map,hlen],Nat.le_refl _,.inr ⟨_,_,rfl,aCw _ _ fun j x hx=>?_⟩⟩
   simp only [PM.add,if_true,Nat.zero_add]
   exact hcell j x hx
  ·exact ⟨rfl,rfl,rfl,by simp,fun k hk=>Below.heap_alloc w _ k hk⟩
  ·simp only [PM.add] at hv
   split at hv
   ·rename_i e;subst e
    rw [World.cell?_alloc_at (hn:=rfl)]
    simpa using hv
   exact eY hk _ _ _ _ hv
  funext o
  simp only [PM.add]
  rw [if_neg (by omega)]
theorem aHA (s:List UInt8) (v:Int) (h:s.length≤9223372036854775806) (hs:jI s=(v,true)):bF Tryz.prog 164 [.str s] (.ok (.tuple [.int .i64 v,.niliface])):=
 fW (v:=.tuple #[.int .i64 v,.nilIface]) (fun π=>by simp [aS,aU]) fun π w vs hg hk hv=>by
  simp only [aU,aS] at hv
  obtain ⟨_,_,rfl,rfl,rfl⟩:=hv
  have ha:Lib.atoiAll s = .ok v:=by
   unfold jI at hs
   split at hs
   ·rename_i u hu;cases hs;exact hu
   ·simp at hs
   simp at hs
  refine (Any.strconv_Atoi_ok aBi ⟨⟨s⟩⟩ h v ha w).mono fun e w' ⟨he,hw⟩=>⟨he,?_⟩
  rcases hw with rfl|⟨t,rfl⟩
  ·exact Below.refl _ _
  unfold Lib.bytesWorld
  exact Lib.below_freeze (((Below.refl _ w).drew).alloc (Nat.le_refl _) _) (Nat.le_refl _) _
theorem aHB (s:List UInt8) (v:Int) (h:s.length≤281474976710656) (hs:jI s=(v,false)):bF Tryz.prog 164 [.str s] (.ok (.tuple [.int .i64 v,.iface 279 (.ptr [])])):=
 yJ fun π w vs hg hk hv=>by
  simp only [aU,aS] at hv
  obtain ⟨_,_,rfl,rfl,rfl⟩:=hv
  obtain ⟨_,_,⟨t1,v1,h1⟩,t2,v2,h2⟩:=hg
  have fin:∀u,(Calls Tryz.prog 164 #[.string ⟨⟨s⟩⟩] w fun e w'=>∃N,e = .returned (.tuple #[.int .i64 u,.iface 279 (.pointer (some ⟨N,0,none⟩))])∧w.heap.size≤N∧w'.heap[N]? = some (.cells #[.string ⟨#[65,116,111,105]⟩,.string ⟨⟨s⟩⟩,.iface t1 v1] 293 (0,0))∧Below w.heap.size w w') ∨
    (Calls Tryz.prog 164 #[.string ⟨⟨s⟩⟩] w fun e w'=>∃N,e = .returned (.tuple #[.int .i64 u,.iface 279 (.pointer (some ⟨N,0,none⟩))])∧w.heap.size≤N∧w'.heap[N]? = some (.cells #[.string ⟨#[65,116,111,105]⟩,.string ⟨⟨s⟩⟩,.iface t2 v2] 293 (0,0))∧Below w.heap.size w w') →
    Calls Tryz.prog 164 ⟨[.string ⟨⟨s⟩⟩]⟩ w fun e w'=>∃v π',e = .returned v∧aS π' (.tuple [.int .i64 u,.iface 279 (.ptr [])]) v∧Below w.heap.size w w'∧PM.le π π'∧(∀b o v,π' b o=some v→w'.cell? ⟨b,o,none⟩=some v)∧∀b,b<w.heap.size→π' b=π b:=fun u hc=>by
   have key:∀w',Below w.heap.size w w'→∀b o v,π b o=some v→w'.cell? ⟨b,o,none⟩=some v:=fun w' hb b o v hv=>
    (World.cell?_of_block (hb.block b (World.block_lt_of_cell? w ⟨b,o,none⟩ (hk _ _ _ hv)))).trans (hk _ _ _ hv)
   rcases hc with hc|hc<;>refine hc.mono fun e w' ⟨N,he,_,_,hb⟩=>⟨_,π,he,(by simp only [aS,aU,dJ];exact ⟨_,rfl,_,_,rfl,rfl,_,_,rfl,⟨_,rfl,_,_,rfl,trivial⟩,rfl⟩),hb,PM.le_refl _,key w' hb,fun _ _=>rfl⟩
  unfold jI at hs
  split at hs
  ·simp at hs
  ·rename_i hr
   cases hs
   exact fin _ (.inr (Any.strconv_Atoi_range aBi ⟨⟨s⟩⟩ h hr _ w (hk _ _ _ h2) (.inr ⟨_,_,rfl⟩)))
  rename_i n1 n2
  cases hs
  cases hq:Lib.atoiAll s with
  |ok v=>exact absurd hq (n1 v)
  |range=>exact absurd hq n2
  |_=>exact fin _ (.inl (Any.strconv_Atoi_syntax aBi ⟨⟨s⟩⟩ h hq _ w (hk _ _ _ h1) (.inr ⟨_,_,rfl⟩)))
end
section
open Go.Gh
structure eR1 {α:Type} (a b:α):Prop where
 h:a=b:=by (simp only [aAh,oX,wZ,aAi,aAj,rU,rV,kG,rW,rX,rY,rZ,sA,sB,sC,sD,sE,sF,sG,sH,sI,sJ,sK,sL,sM,sN,sO,sP,sQ,sR,sS,sT,sU,lK,lL,lM,lN,lO,lP,lQ,lR,lS,lT,lU,lV,lW,lX,lY,lZ,mA,mB,mC,mD,mE,mF,mG,mH,mJ,mL,mM,mN,mO,mQ,mR,mS,mT,mU,mV,mW,mX]<;>rfl)
variable {E:Env Tryz.prog} {C:Cx E} {r:Option Nat} {ops:Array Oper} {Q:GE→Sg E→Prop} {rest lst:List Oper} {l l':List (Nat×G)} {m:List (Nat×Ob)} {A:E.α} {df:List GD}
variable {t:Nat} {op:Op} {ty:TypeId} {pos:String} {af:Array Edge} {c:Prop} {g:G} {ob:Ob} {i j:Nat} {gd:Option (Nat×Bool)} {b x:Bool} {cd:Code} {J:List Nat}
theorem gi0 (x:P) {tt e:TypeId} {i j:TI} {m2 gl:Nat} {ix:Operand} {kk:IntKind} {n:Int}
  (ht:ti Tryz.prog tt=some i:=by exact eR1.h {}) (hd:i.desc = .array m2 e:=by rfl) (he:ti Tryz.prog e=some j:=by exact eR1.h {})
  (hix:gev (bA l) ix = .p (.int kk n):=by (simp only [gev,aT,Nat.reduceEqDiff,reduceIte]<;>rfl)) (h1x:x.one=true:=by rfl) (hN:t<C.N:=by omega) (h0:0≤n:=by omega) (h1:n<m2:=by omega) (hx:∀π,Kn.good Tryz.prog π→∃u,π gl (n.toNat*j.size)=some u∧aS π x u)
  (k:cK C r ops Q rest (sg ((t,.ptr [.p x])::l) m A df)):cK C r ops Q (⟨some t,.indexAddr tt (.global gl) ix,ty,pos,af,none⟩::rest) (sg l m A df):=
 jW (aJo (σ:=sg l m A df) rfl ht hd he (bN rfl) hix h0 h1 h1x hx (fun t' e=>by cases e;exact hN)) k
theorem bs0 (s:List UInt8) {tt d e:TypeId} {i j:TI} {o:Operand} (hx:gev (bA l) o = .p (.list (s.map fun b=>.int .u8 b.toNat))) (k:cK C r ops Q rest (sg ((t,.p (.str s))::l) m A df)) (ht:ti Tryz.prog tt=some i:=by exact eR1.h {}) (hd:i.desc = .slice e:=by rfl) (he:Tryz.prog.underlying e=some (.int .u8):=by kernel_rfl) (hj:ti Tryz.prog d=some j:=by exact eR1.h {}) (hdj:j.desc = .string:=by rfl) (hN:t<C.N:=by omega):cK C r ops Q (⟨some t,.convert tt d o,ty,pos,af,none⟩::rest) (sg l m A df):=
 jW (aLe (σ:=sg l m A df) rfl ht hd he hj hdj (bN rfl) hx (fun t' e=>by cases e;exact hN)) k
theorem fs0 (s:List UInt8) {id off fz:Nat} {cs:List G} {tt d e:TypeId} {i j:TI} {o:Operand} (hx:gev (bA l) o = .fsl id off s.length) (ho:aG m id = .cells cs fz) (hl:(cs.drop off).take s.length=s.map fun b=>.p (.int .u8 b.toNat))
  (ht:ti Tryz.prog tt=some i:=by exact eR1.h {}) (hd:i.desc = .slice e:=by rfl) (he:Tryz.prog.underlying e=some (.int .u8):=by kernel_rfl) (hj:ti Tryz.prog d=some j:=by exact eR1.h {}) (hdj:j.desc = .string:=by rfl) (hN:t<C.N:=by omega)
  (k:cK C r ops Q rest (sg ((t,.p (.str s))::l) m A df)):cK C r ops Q (⟨some t,.convert tt d o,ty,pos,af,none⟩::rest) (sg l m A df):=
 jW (aLf (σ:=sg l m A df) rfl ht hd he hj hdj (bN rfl) hx ho hl (fun t' e=>by cases e;exact hN)) k
end
section
open Go.Gh
open Go.RowKit
def uP (k u:Nat):List UInt8:=(List.range k).map fun t=>Lib.dg u (k - 1 - t)
theorem aBj (k u:Nat):(uP k u).length=k:=by simp [uP]
def u8s (l:List UInt8):List P:=l.map fun b=>.int .u8 b.toNat
theorem aLy (u:Nat) (h:u<18446744073709551616):bF Tryz.prog 200 [.int .u64 u] (.ok (.int .i64 (Lib.bitLen u))):=
 fW (v:=.int .i64 (Lib.bitLen u)) (fun π=>by simp only [aS]) fun π w vs hg hk hv=>by
  simp only [aU,aS] at hv
  obtain ⟨_,_,rfl,rfl,rfl⟩:=hv
  refine (Any.bits_Len64 aLr u w (by omega) (by omega)).mono fun e w' ⟨he,hw⟩=>⟨?_,hw ▸ Below.refl _ _⟩
  rw [he];simp
theorem aOO (x:Nat) (h:x≤64):bF Tryz.prog 199 [.int .i64 x] (.ok (.int .i64 (Lib.l10 x))):=
 fW (v:=.int .i64 (Lib.l10 x)) (fun π=>by simp only [aS]) fun π w vs hg hk hv=>by
  simp only [aU,aS] at hv
  obtain ⟨_,_,rfl,rfl,rfl⟩:=hv
  exact (Any.internal_strconv_log10Pow2 aLs x h w).mono fun e w' ⟨he,hw⟩=>⟨he,hw ▸ Below.refl _ _⟩
theorem aLz (b:Bool):bF Tryz.prog 201 [.bool b] (.ok (.int .i64 (if b then 1 else 0))):=
 fW (v:=.int .i64 (if b then 1 else 0)) (fun π=>by simp only [aS]) fun π w vs hg hk hv=>by
  simp only [aU,aS] at hv
  obtain ⟨_,_,rfl,rfl,rfl⟩:=hv
  exact (Any.internal_strconv_bool2_int aLt b w).mono fun e w' ⟨he,hw⟩=>⟨he,hw ▸ Below.refl _ _⟩
theorem aLA (i:Nat) (h:i<100):bF Tryz.prog 175 [.int .i64 i,.int .i64 10] (.ok (.str (Lib.decDigits i))):=
 fW (v:=.string ⟨⟨Lib.decDigits i⟩⟩) (fun π=>by simp only [aS]) fun π w vs hg hk hv=>by
  simp only [aU,aS] at hv
  obtain ⟨_,_,rfl,rfl,_,_,rfl,rfl,rfl⟩:=hv
  exact (Any.internal_strconv_FormatInt_10_small aLu i h w).mono fun e w' ⟨he,hw⟩=>⟨he,hw ▸ Below.refl _ _⟩
theorem aFv {w:World} {b:Nat} {vs:List Value} {e:TypeId} (d:Array UInt8) (off:Nat) (hw:w.heap[b]? = some (.cells ⟨vs⟩ e (0,0))) (hf:off+d.size≤vs.length) :
  Sort.putRow (fun (b:UInt8)=>Value.int .u8 (b.toNat:Int)) w b off d=w.setRow b ⟨vs.take off++d.toList.map (fun b=>Value.int .u8 (b.toNat:Int))++vs.drop (off+d.size)⟩:=by
 obtain ⟨ds,hds⟩:∃ds,ds=d.toList.map (fun b=>Value.int .u8 (b.toNat:Int)):=⟨_,rfl⟩
 have hl:ds.length=d.size:=by rw [hds,List.length_map,Array.length_toList]
 have hg:∀q,q<d.size→ds[q]? = some (Value.int .u8 ((d[q]!).toNat:Int)):=fun q hq=>by
  rw [hds,List.getElem?_map,Array.getElem?_toList,Array.getElem?_eq_getElem hq,getElem!_pos d q hq];rfl
 rw [←hds]
 unfold Sort.putRow Sort.mapBlock World.setRow
 congr 1
 apply Array.ext_getElem?
 intro k
 simp only [Array.getElem?_modify]
 by_cases hk:b=k
 ·subst hk
  simp only [if_true,hw,Option.map_some,Sort.onCells]
  congr 2
  apply Array.ext_getElem?
  intro q
  have ht:(vs.take off).length=off:=by rw [List.length_take];omega
  have ht2:(vs.take off++ds).length=off+d.size:=by rw [List.length_append,ht,hl]
  simp only [Sort.putCells,Array.getElem?_mapIdx,List.getElem?_toArray]
  by_cases h1:q<off
  ·rw [List.getElem?_append_left (by omega),List.getElem?_append_left (by omega),List.getElem?_take,if_pos h1]
   cases vs[q]? with
   |none=>rfl
   |some x=>simp only [Option.map_some];rw [if_neg (by omega)]
  by_cases h2:q<off+d.size
  ·rw [List.getElem?_append_left (by omega),List.getElem?_append_right (by omega),ht,hg _ (by omega),List.getElem?_eq_getElem (show q<vs.length by omega)]
   simp only [Option.map_some]
   rw [if_pos (by omega)]
  rw [List.getElem?_append_right (by omega),ht2,List.getElem?_drop,show off+d.size+(q - (off+d.size))=q by omega]
  cases vs[q]? with
  |none=>rfl
  |some x=>simp only [Option.map_some];rw [if_neg (by omega)]
 simp only [if_neg hk]
theorem aOP {E:Env Tryz.prog} {A:E.α} (c0:P) (h0:c0.one=true) (xs zs:List UInt8) (u:Nat) (hu:u<10^xs.length) (hu2:u<18446744073709551616) (hx:xs.length<24) :
  Gh.bD E 185 [.fsl 0 1 xs.length,.p (.int .u64 u)] (aG [(0,.cells ((c0::(u8s xs++u8s zs)).map G.p) 0)]) A (fun y=>y = .ok (.p (.tuple [])) (aG [(0,.cells ((c0::(u8s (uP xs.length u)++u8s zs)).map G.p) 0)]) A):=by
 intro π ρ S w vs R hv
 simp only [aR,aK,aS] at hv
 obtain ⟨_,_,rfl,⟨cap,rfl,hcap⟩,_,_,rfl,rfl,rfl⟩:=hv
 have hob:=R.objs 0
 obtain ⟨ws,e,hw,hr,hone,hf,hn⟩:=(show kI π ρ E.yv w 0 (.cells ((c0::(u8s xs++u8s zs)).map G.p) 0) from hob)
 have hlen:=hr.length
 simp only [List.length_map,List.length_cons,List.length_append,u8s] at hlen
 have hcell:∀t,t<xs.length→w.cell? ⟨(ρ 0).blk,1+t,none⟩=some (.int .u8 ((xs.toArray[t]!).toNat:Int))∧w.frozen? ⟨(ρ 0).blk,1+t,none⟩=false:=fun t ht=>by
  obtain ⟨v,hv,hrv⟩:=hr.get (1+t) (.p (.int .u8 (xs[t].toNat:Int))) (by
   rw [List.getElem?_map,Nat.add_comm,List.getElem?_cons_succ,List.getElem?_append_left (by simp [u8s];omega)]
   simp [u8s,ht])
  simp only [aK,aS] at hrv
  subst hrv
  constructor
  ·rw [fI hw]
   simp [hv,getElem!_pos xs.toArray t (by simpa using ht)]
  simp [World.frozen?,hw]
 have hH:Sort.Holds (fun (b:UInt8)=>Value.int .u8 (b.toNat:Int)) w (ρ 0).blk 1 xs.toArray:=fun t ht=>hcell t (by simpa using ht)
 have hc:=Any.internal_strconv_formatBase10 aLq (ρ 0).blk 1 cap u xs.toArray w hH (by simpa using hu) hu2 (by simp;omega)
 simp only [List.size_toArray] at hc
 refine (callsIn_wide.2 hc).mono fun e2 w' ⟨he,n,v',dk,hw',hinv⟩=>?_
 subst he
 have hsz:dk.size=xs.length:=by simpa using hinv.size
 have hdk:dk.toList=uP xs.length u:=by
  apply List.ext_getElem?
  intro q
  by_cases hq:q<xs.length
  ·rw [Array.getElem?_toList,Array.getElem?_eq_getElem (by omega)]
   have:=hinv.done q (by omega) (by simpa using hq)
   rw [getElem!_pos dk q (by omega)] at this
   rw [this]
   simp [uP,hq]
  rw [Array.getElem?_toList,Array.getElem?_eq_none (by omega),List.getElem?_eq_none (by rw [aBj];omega)]
 rw [aFv dk 1 hw (by omega),hdk,hsz] at hw'
 have hr2:aR π ρ E.yv ((c0::(u8s (uP xs.length u)++u8s zs)).map G.p) (ws.take 1++(uP xs.length u).map (fun b=>Value.int .u8 (b.toNat:Int))++ws.drop (1+xs.length)):=by
  have h1:aR π ρ E.yv (u8s (uP xs.length u) |>.map G.p) ((uP xs.length u).map fun b=>Value.int .u8 (b.toNat:Int)):=by
   refine .of_PRels ?_
   generalize uP xs.length u=l
   induction l with
   |nil=>simp only [u8s,List.map_nil,aU]
   |cons b l ih=>simp only [u8s,List.map_cons,aU,aS];exact ⟨_,_,rfl,rfl,ih⟩
  have h2:=hr.splice h1 1
  have e1:splice ((c0::(u8s xs++u8s zs)).map G.p) 1 ((u8s (uP xs.length u)).map G.p)=(c0::(u8s (uP xs.length u)++u8s zs)).map G.p:=by
   simp only [splice,List.map_cons,List.take_succ_cons,List.take_zero,List.length_map,u8s,aBj,Nat.add_comm 1,List.drop_succ_cons,List.map_append,List.cons_append,List.nil_append]
   rw [List.drop_left' (by simp)]
  rw [e1] at h2
  have e2:((uP xs.length u).map fun b=>Value.int .u8 (b.toNat:Int)).length=xs.length:=by rw [List.length_map,aBj]
  rw [e2] at h2
  exact h2
 have U:=R.setCells (id:=0) (cs:=(c0::(u8s xs++u8s zs)).map G.p) (fz:=0) rfl hw hr2 (fun c hc=>by
  obtain ⟨p,hp,rfl⟩:=List.mem_map.1 hc
  rcases List.mem_cons.1 hp with rfl|hp
  ·exact h0
  rcases List.mem_append.1 hp with hp|hp<;>(obtain ⟨b,_,rfl⟩:=List.mem_map.1 hp;rfl)) (fun j hj=>absurd hj (Nat.not_lt_zero _))
 have hhp:∀ob:Ob,upd (aG [(0,(.cells ((c0::(u8s xs++u8s zs)).map G.p) 0:Ob))]) 0 ob=aG [(0,ob)]:=fun ob=>by
  funext j
  simp only [upd,aF,aI]
  split<;>rfl
 rw [hhp] at U
 obtain ⟨U1,U2⟩:=U
 have hd:∀(W:World),W.heap=w'.heap→W.os=w'.os→W.tape=w'.tape→W.output=w'.output→True:=fun _ _ _ _ _=>trivial
 have hres:=fun (W:World) (hW:W=w.setRow (ρ 0).blk ⟨ws.take 1++(uP xs.length u).map (fun b=>Value.int .u8 (b.toNat:Int))++ws.drop (1+xs.length)⟩)=>hW
 subst hw'
 refine ⟨π,ρ,_,A,S,.p (.tuple []),⟨⟨U1.know,U1.objs,U1.apart,U1.sep,E.stable U1.res U1.inb (Nat.le_refl _) (fun _ _=>⟨rfl,rfl⟩) (PM.le_refl _) U1.know,U1.inb,U1.gl⟩,⟨U2.size,U2.os,U2.tape,U2.output,U2.keep,U2.le,U2.own⟩,fun _ _=>.inl rfl,fun j id hm=>?_⟩,by simp only [aK,aS,aU];exact ⟨_,rfl,rfl⟩,fun id hm=>by simp [G.men] at hm,rfl⟩
 simp only [aF,aI] at hm
 split at hm
 ·simp only [Ob.men] at hm
  rw [gU] at hm;cases hm
 simp [Ob.men] at hm
end
section
open Go.Gh
open Go.RowKit
theorem aNi {E:Env Tryz.prog} {A:E.α}:Gh.bD E 162 [.ref 0 0] (aG [(0,.tcells 158 [.p .nilptr,.nils])]) A (fun y=>y = .ok (.p (.tuple [])) (aG [(0,.cells [.ref 0 0,.nils] 0)]) A):=by
 intro π ρ S w vs R hv
 simp only [aR,aK] at hv
 obtain ⟨_,_,rfl,rfl,rfl⟩:=hv
 obtain ⟨ws,hw,hr,hone,hn⟩:=(show kI π ρ E.yv w 0 (.tcells 158 [.p .nilptr,.nils]) from R.objs 0)
 simp only [aR,aK,aS] at hr
 obtain ⟨_,_,rfl,rfl,_,_,rfl,rfl,rfl⟩:=hr
 refine (callsIn_wide.2 (aJw (ρ 0).blk w (by simp [World.cell?,hw]) (by simp [World.shape?,hw]) (by simp [World.frozen?,hw]))).mono fun e w' ⟨he,hw'⟩=>?_
 have hb:∀b,b≠(ρ 0).blk→(w.setCell ⟨(ρ 0).blk,0,none⟩ (.pointer (some ⟨(ρ 0).blk,0,none⟩))).heap[b]? = w.heap[b]?:=fun b hb=>Below.heap_setCell _ _ _ _ (fun e=>hb (by simp [e]))
 have hrefl:upd ρ 0 (ρ 0)=ρ:=by funext j;unfold upd;split<;>simp_all
 have U:=R.turn (w':=w.setCell ⟨(ρ 0).blk,0,none⟩ (.pointer (some ⟨(ρ 0).blk,0,none⟩))) (π':=π) 0 (ρ 0) (.cells [.ref 0 0,.nils] 0) (by simp [World.setCell]) rfl rfl rfl
  (fun b _ hne=>⟨hb b fun e=>hne (by simp [aF,bQ,e]),rfl⟩) (PM.le_refl _) (fun b o v hv=>by
   have hne:b≠(ρ 0).blk:=fun e=>by rw [e,hn o] at hv;cases hv
   have:=R.know _ _ _ hv
   simpa [World.cell?,hb b hne] using this) (fun j _ _=>.inl rfl)
  (by
   rw [hrefl]
   refine ⟨[.pointer (some ⟨(ρ 0).blk,0,none⟩),.slice none 0 0],158,?_,?_,?_,fun j u h=>absurd h (Nat.not_lt_zero _),fun j _=>hn j⟩
   ·simp [World.setCell,Array.getElem?_modify,hw]
   ·simp only [aR,aK];exact ⟨_,_,rfl,rfl,_,_,rfl,rfl,rfl⟩
   intro c hc;simp only [List.mem_cons,List.not_mem_nil,or_false] at hc;rcases hc with rfl|rfl<;>rfl)
  (fun b hb=>by rw [hrefl] at hb;exact .inl hb)
 rw [hrefl] at U
 have hhp:upd (aG [(0,(.tcells 158 [.p .nilptr,.nils]:Ob))]) 0 (.cells [.ref 0 0,.nils] 0)=aG [(0,.cells [.ref 0 0,.nils] 0)]:=by
  funext j
  simp only [upd,aF,aI]
  split<;>rfl
 rw [hhp] at U
 obtain ⟨U1,U2⟩:=U
 subst hw' he
 refine ⟨π,ρ,_,A,S,.p (.tuple []),⟨U1,U2,fun _ _=>.inl rfl,fun j id hm=>?_⟩,by simp only [aK,aS,aU];exact ⟨_,rfl,rfl⟩,fun id hm=>by simp [G.men] at hm,rfl⟩
 simp only [aF,aI] at hm ⊢
 split at hm
 ·simp [Ob.men,G.mens,G.men] at hm
  simp [hm]
 simp [Ob.men] at hm
theorem aJx {E:Env Tryz.prog} {A:E.α} (e sz n:Nat) (xs:List P):Gh.bD E 162 [.ref 0 0] (aG [(0,.cells [.ref 0 0,.own 1 n] 0),(1,.arr e sz xs false)]) A (fun y=>y = .ok (.p (.tuple [])) (aG [(0,.cells [.ref 0 0,.own 1 n] 0),(1,.arr e sz xs false)]) A):=by
 intro π ρ S w vs R hv
 simp only [aR,aK] at hv
 obtain ⟨_,_,rfl,rfl,rfl⟩:=hv
 obtain ⟨ws,e,hw,hr,hone,hn⟩:=(show kI π ρ E.yv w 0 (.cells [.ref 0 0,.own 1 n] 0) from R.objs 0)
 simp only [aR,aK] at hr
 obtain ⟨_,_,rfl,rfl,_,_,rfl,_,rfl⟩:=hr
 refine (callsIn_wide.2 (aLv (ρ 0).blk w (by simp [World.cell?,hw]))).mono fun e w' ⟨he,hw'⟩=>?_
 subst hw' he
 refine ⟨π,ρ,_,A,S,.p (.tuple []),⟨R,cH.refl _ _ _,fun _ _=>.inl rfl,fun j id hm=>?_⟩,by simp only [aK,aS,aU];exact ⟨_,rfl,rfl⟩,fun id hm=>by simp [G.men] at hm,rfl⟩
 simp only [aF,aI] at hm ⊢
 split at hm
 ·simp [Ob.men,G.mens,G.men] at hm
  rcases hm with rfl|rfl<;>simp
 split at hm<;>simp [Ob.men] at hm
theorem aEu (l:List UInt8):(u8s l).flatMap P.cells=u8s l:=by
 unfold u8s
 induction l with
 |nil=>rfl
 |cons b l ih=>simp only [List.map_cons,List.flatMap_cons,ih];rfl
theorem aCx {π:PM}:∀ {l:List UInt8} {cs:List Value},aU π (u8s l) cs→cs=l.map fun b=>Value.int .u8 (b.toNat:Int)
 |[],cs,h=>by simpa only [u8s,List.map_nil,aU] using h
 |b::l,cs,h=>by
  simp only [u8s,List.map_cons,aU,aS] at h
  obtain ⟨_,vs,rfl,rfl,h⟩:=h
  rw [List.map_cons,aCx (l:=l) h]
theorem aBk {E:Env Tryz.prog} {A:E.α} (l:List UInt8) (hl:l≠[]):Gh.bD E 94 [.ref 0 0] (aG [(0,.cells [.ref 0 0,.own 1 l.length] 0),(1,.arr 5 1 (u8s l) false)]) A (fun y=>y = .ok (.p (.str l)) (aG [(0,.gone),(1,.gone)]) A):=by
 intro π ρ S w vs R hv
 simp only [aR,aK] at hv
 obtain ⟨_,_,rfl,rfl,rfl⟩:=hv
 obtain ⟨ws,e,hw,hr,hone,hn⟩:=(show kI π ρ E.yv w 0 (.cells [.ref 0 0,.own 1 l.length] 0) from R.objs 0)
 obtain ⟨cs,ho,hlen,hp,_,_,hfz⟩:=(show kI π ρ E.yv w 1 (.arr 5 1 (u8s l) false) from R.objs 1)
 have hul:(u8s l).length=l.length:=by simp [u8s]
 rw [hul] at hlen
 simp only [aR,aK] at hr
 obtain ⟨_,_,rfl,rfl,v1,_,rfl,⟨_,hv1⟩,rfl⟩:=hr
 have hv1:=hv1 hlen
 subst hv1
 rw [aEu] at hp
 have hcs:=aCx hp
 have hl0:l.length≠0:=by simpa using hl
 rcases ho with ⟨h0,_⟩|⟨hown,b1,hb1⟩
 ·exfalso;apply hl0;rw [←hul,h0];rfl
 rw [hul] at hown
 obtain ⟨g,cap,cur,hgv,hg0,hg,hnc,hcm,hcz,htake⟩:∃g cap cur,(ρ 1).v = .slice (some ⟨g,0,none⟩) l.length cap∧0≤g∧w.heap[g]? = some (.cells cur 5 (0,0))∧l.length≤cap∧cap≤maxLen∧cur.size=cap*1∧cur.toList.take (l.length*1)=cs:=by
  rcases hown.2 with ⟨_,hz⟩|⟨g,cap,cur,hv,r⟩
  ·exact absurd hz hl0
  exact ⟨g,cap,cur,hv,r⟩
 have hcb:cQ (ρ 1).v=some g:=by
  obtain ⟨c',hc'⟩:∃c',cap=c'+1:=⟨cap - 1,by omega⟩
  rw [hgv,hc'];rfl
 rw [hgv] at hw
 refine (callsIn_wide.2 (aLw (ρ 0).blk g cap (.pointer (some ⟨(ρ 0).blk,0,none⟩)) e cur l w hl hw hg (by omega) hnc (by omega) (fun j x hx=>?_))).mono fun e w' ⟨he,hw'⟩=>?_
 ·exact hown.cells (g:=g) (jM hcb) j (.int .u8 x.toNat) (by rw [hcs,List.getElem?_map,hx];rfl)
 have hb:∀b,b≠g→w'.heap[b]? = w.heap[b]?:=fun b hb=>by
  rw [hw']
  unfold World.freeze
  rw [if_neg hl0]
  show (w.heap.modify g _)[b]? = _
  rw [Array.getElem?_modify,if_neg (fun e=>hb e.symm)]
 have hcell:∀b o,w'.cell? ⟨b,o,none⟩=w.cell? ⟨b,o,none⟩:=fun b o=>by
  by_cases e:b=g
  ·subst e
   have:w'.heap[b]? = some (.cells cur 5 (0,0+l.length)):=by
    rw [hw']
    unfold World.freeze
    rw [if_neg hl0]
    show (w.heap.modify b _)[b]? = _
    rw [Array.getElem?_modify,if_pos rfl,hg]
    simp
   simp [World.cell?,this,hg]
  simp only [World.cell?,hb b e]
 have hsz:w'.heap.size=w.heap.size:=by
  rw [hw'];unfold World.freeze;rw [if_neg hl0];show (w.heap.modify g _).size=_;simp
 have hr0:∀k,upd ρ k (ρ k)=ρ:=fun k=>by funext j;unfold upd;split<;>simp_all
 have e1:w'.os=w.os:=by rw [hw'];unfold World.freeze;rw [if_neg hl0];rfl
 have e2:w'.tape=w.tape:=by rw [hw'];unfold World.freeze;rw [if_neg hl0];rfl
 have e3:w'.output=w.output:=by rw [hw'];unfold World.freeze;rw [if_neg hl0];rfl
 have U:=R.turn (w':=w') (π':=π) 1 (ρ 1) .gone (by omega) e1 e2 e3
  (fun b _ hne=>⟨hb b fun e=>hne (by simp [aF,bQ,hcb,e]),rfl⟩) (PM.le_refl _) (fun b o v hv=>by rw [hcell];exact R.know _ _ _ hv) (fun j _ _=>.inl rfl)
  (by trivial) (fun b hb=>by simp [bQ] at hb)
 rw [hr0] at U
 obtain ⟨U1,U2⟩:=U
 have V:=U1.turn (w':=w') (π':=π) 0 (ρ 0) .gone (Nat.le_refl _) rfl rfl rfl (fun b _ _=>⟨rfl,rfl⟩) (PM.le_refl _) U1.know (fun j _ _=>.inl rfl) (by trivial) (fun b hb=>by simp [bQ] at hb)
 rw [hr0] at V
 obtain ⟨V1,V2⟩:=V
 have hhp:upd (upd (aG [(0,(.cells [.ref 0 0,.own 1 l.length] 0:Ob)),(1,.arr 5 1 (u8s l) false)]) 1 .gone) 0 .gone=aG [(0,.gone),(1,.gone)]:=by
  funext j
  simp only [upd,aF,aI]
  split
  ·rfl
  by_cases h1:j=1
  ·simp [h1]
  simp [h1]
 rw [hhp] at V1 V2
 subst he
 refine ⟨π,ρ,_,A,S,.p (.str l),⟨V1,U2.trans V2,fun _ _=>.inl rfl,fun j id hm=>?_⟩,by simp only [aK,aS],fun id hm=>by simp [G.men] at hm,rfl⟩
 simp only [aF,aI] at hm
 split at hm
 ·simp [Ob.men] at hm
 split at hm<;>simp [Ob.men] at hm
end
section
open Go.Gh
theorem aOQ (x:Nat) (h:x≤19):∀π,Kn.good Tryz.prog π→∃u,π 1 (((x:Nat):Int).toNat*1)=some u∧aS π (.int .u64 ((10^x:Nat):Int)) u:=fun π hg=>
 ⟨_,hg.1 _ ((10^x:Nat):Int) (by
  have h2:((x:Int).toNat*1)=x:=by simp
  rw [h2]
  have h3:x<20:=by omega
  simp [Lib.pow10Tab,h3]),by simp only [aS]⟩
theorem wrap_u64 (n:Int) (h0:0≤n) (h1:n<18446744073709551616):IntKind.u64.wrap n=n:=IntWalk.u64_in n (by omega)
theorem aNj:aJ Tryz.prog 200:=aJ.mk Tryz.func200 (by kernel_rfl) rfl
theorem aNk:aJ Tryz.prog 199:=aJ.mk Tryz.func199 (by kernel_rfl) rfl
theorem aNl:aJ Tryz.prog 201:=aJ.mk Tryz.func201 (by kernel_rfl) rfl
theorem aJy:aJ Tryz.prog 184:=aJ.mk Tryz.func184 (by kernel_rfl) rfl
theorem aOR (u:Nat) (h1:1≤u) (h2:u<18446744073709551616):bF Tryz.prog 184 [.int .u64 u] (.ok (.int .i64 (Lib.nDigits u:Nat))):=by
 refine bL Tryz.func184 (rfl:Tryz.f184.body=some _) rfl ?_
 intro E A C hN hL
 replace hN:C.N=15:=hN
 simp only [Gh.num,List.map_cons,List.map_nil,Nat.reduceAdd]
 obtain ⟨hn1,hn2⟩:=Lib.numDigits_eq u h1 h2
 obtain ⟨pw,hpw⟩:∃pw,pw=10^(Lib.l10 (Lib.bitLen u)):=⟨_,rfl⟩
 rw [←hpw] at hn1
 have hq:((10:Int)^(Lib.l10 (Lib.bitLen u)))=((pw:Nat):Int):=by rw [hpw];push_cast;rfl
 have hb:Lib.bitLen u≤64:=by unfold Lib.bitLen;exact Lib.bitLen_le u 64 (Nat.le_refl _) h2
 repeat apply aA
 apply aB
 refine v0 ?_
 apply aC
 refine cl [0] ?_
 repeat apply aA
 apply aB
 refine v0 ?_
 refine pc0 (spec:=aLy u h2) (hent:=aNj) ?_
 refine pc0 (spec:=aOO _ hb) (hent:=aNk) ?_
 refine v0 ?_
 apply aC
 refine cl [0,3] ?_
 repeat apply aA
 apply aB
 iterate 3 refine v0 ?_
 refine gi0 (.int .u64 ((pw:Nat):Int)) (hx:=?_) (k:=?_)
 subst hpw
 exact aOQ _ hn2
 iterate 2 refine v0 ?_
 refine pc0 (spec:=aLz _) (hent:=aNl) ?_
 refine v1 (hc:=by (first|exact True.intro|(simp only [inI];split<;>omega))) ?_
 refine v0 ?_
 apply aC
 repeat apply aA
 refine aL ?_
 repeat (first|refine aH ?_|refine aE ?_|refine aD ?_)
 refine aM ?_
 refine fp ?_
 rw [←hn1]
 by_cases h:pw≤u
 ·simp [h,dT.at,hq]
 simp [h,dT.at,hq]
end
section
open Go.Gh
structure vT (c:Prop):Prop where
 h:c:=by (first|exact True.intro|omega|(simp only [inI];omega)|(simp [P.size,bU,bG,bR,bB,cS,good,G.one,P.one,P.cells]<;>first|omega|assumption|simp_all))
theorem aEv (u:Nat):uP (Lib.nDigits u) u=Lib.decDigits u:=(Lib.decDigits_eq u).symm
theorem aGy (k:Nat) (h:k≤23):u8s (List.replicate 23 0)=u8s (List.replicate k 0)++u8s (List.replicate (23 - k) 0):=by
 unfold u8s
 rw [←List.map_append,List.replicate_append_replicate,show k+(23 - k)=23 by omega]
theorem aOS (s:List UInt8):(u8s s).map G.p=s.map fun b=>.p (.int .u8 b.toNat):=by unfold u8s;rw [List.map_map];rfl
theorem aMa (c:P) (s z:List UInt8):((((c::(u8s s++u8s z)).map G.p).drop 1).take s.length)=s.map fun b=>.p (.int .u8 b.toNat):=by
 rw [List.map_cons,List.drop_succ_cons,List.drop_zero,List.map_append,List.take_left' (by rw [List.length_map];unfold u8s;rw [List.length_map]),aOS]
theorem aJz {E:Env Tryz.prog} {A:E.α} (c0:P) (h0:c0.one=true) (xs zs:List UInt8) (n:Nat) (hn:n=xs.length) (u:Nat) (hu:u<10^xs.length) (hu2:u<18446744073709551616) (hx:xs.length<24) :
  Gh.bD E 185 [.fsl 0 1 n,.p (.int .u64 u)] (aG [(0,.cells ((c0::(u8s xs++u8s zs)).map G.p) 0)]) A (fun y=>y = .ok (.p (.tuple [])) (aG [(0,.cells ((c0::(u8s (uP xs.length u)++u8s zs)).map G.p) 0)]) A):=by
 subst hn;exact aOP c0 h0 xs zs u hu hu2 hx
theorem aJA:aJ Tryz.prog 185:=aJ.mk Tryz.func185 (by kernel_rfl) rfl
theorem aNm:aJ Tryz.prog 175:=aJ.mk Tryz.func175 (by kernel_rfl) rfl
theorem aNn (u:Nat) (h1:100≤u) (h2':u<9223372036854775808):bF Tryz.prog 175 [.int .i64 (u:Nat),.int .i64 10] (.ok (.str (Lib.decDigits u))):=by
 refine bL Tryz.func175 (rfl:Tryz.f175.body=some _) rfl ?_
 intro E A C hN hL
 replace hN:C.N=54:=hN
 simp only [Gh.num,List.map_cons,List.map_nil,Nat.reduceAdd]
 have h2:u<18446744073709551616:=by omega
 have hd3:Lib.nDigits u≤23:=by have:=Lib.numDigits_eq u (by omega) h2;split at this<;>omega
 have hwr:IntKind.u64.wrap (u:Int)=(u:Int):=wrap_u64 _ (by omega) (by omega)
 have hd1:=Lib.nDigits_pos u
 repeat apply aA
 apply aB
 refine v0 ?_
 apply aC
 refine cl [0,1] ?_
 repeat apply aA
 apply aB
 iterate 2 refine v0 ?_
 refine rb 11 true (h:=by (first|with_reducible rfl|exact decide_eq_true (by omega)|rfl|decide)) ?_
 apply aC
 repeat apply aA
 refine cT ?_
 repeat apply aA
 apply aB
 iterate 2 refine v0 ?_
 refine rb 13 true (h:=by (first|with_reducible rfl|exact decide_eq_true (by omega)|rfl|decide)) ?_
 refine v0 ?_
 iterate 2 refine w0 ?_
 refine rb 16 false (h:=by (first|with_reducible rfl|exact decide_eq_false (by omega)|rfl|decide)) ?_
 refine v0 ?_
 refine rb 17 false (h:=by (first|with_reducible rfl|exact decide_eq_false (by omega)|rfl|decide)) ?_
 apply aC
 repeat apply aA
 refine cF ?_
 repeat apply aA
 refine aQ ?_
 refine cl [0] ?_
 repeat apply aA
 apply aB
 refine n1 150 false (hc:=vT.h {}) ?_
 apply aC
 refine cl [0,5] ?_
 repeat apply aA
 apply aB
 refine v0 ?_
 refine v1 (hc:=vT.h {}) ?_
 refine v0 ?_
 apply aC
 refine cl [0,5,6] ?_
 repeat apply aA
 apply aB
 iterate 2 refine v0 ?_
 refine rb 23 false (h:=by (first|with_reducible rfl|exact decide_eq_false (by omega)|rfl|decide)) ?_
 apply aC
 repeat apply aA
 refine cF ?_
 repeat apply aA
 refine aQ ?_
 refine cl [0,5,6] ?_
 repeat apply aA
 try rw [hwr]
 apply aB
 refine v0 ?_
 refine pc0 (spec:=aOR u (by omega) h2) (hent:=aJy) ?_
 refine v0 ?_
 apply aC
 refine cl [0,5,6,7] ?_
 repeat apply aA
 apply aB
 refine v0 ?_
 iterate 2 refine v1 (hc:=vT.h {}) ?_
 refine v0 ?_
 change cK _ _ _ _ _ (sg _ [(150,.cells (((P.int .u8 0)::u8s (List.replicate 23 0)).map G.p) 0)] _ _)
 rw [aGy (Lib.nDigits u) hd3]
 refine oc0 [(0,150)] [] [0,0] none (spec:=aJz (.int .u8 0) rfl (List.replicate (Lib.nDigits u) 0) (List.replicate (23 - Lib.nDigits u) 0) ((1+(Lib.nDigits u:Int)).toNat - 1) (by rw [List.length_replicate];omega) u (by rw [List.length_replicate];exact Lib.lt_pow_nDigits u) h2 (by rw [List.length_replicate];omega)) (hent:=aJA) ?_
 apply aC
 refine cl [0,5,7] ?_
 repeat apply aA
 apply aB
 iterate 2 refine v0 ?_
 refine rb 34 false (h:=by (first|with_reducible rfl|exact decide_eq_false (by omega)|rfl|decide)) ?_
 apply aC
 repeat apply aA
 refine cF ?_
 repeat apply aA
 refine aQ ?_
 refine cl [5,7] ?_
 repeat apply aA
 apply aB
 refine v0 ?_
 iterate 2 refine v1 (hc:=vT.h {}) ?_
 refine fs0 (Lib.decDigits u) (id:=150) (off:=1) (hx:=?_) (ho:=by (simp only [aF,aI,Nat.reduceEqDiff,reduceIte]<;>rfl)) (hl:=?_) (k:=?_)
 ·show G.fsl 150 1 _=_;rw [Lib.decDigits_length,show ((1+(Lib.nDigits u:Int)).toNat - 1)=Lib.nDigits u by omega]
 ·rw [List.length_replicate,aEv];exact aMa _ _ _
 refine v0 ?_
 apply aC
 repeat apply aA
 refine aL ?_
 repeat (first|refine aH ?_|refine aE ?_|refine aD ?_)
 refine aM ?_
 refine fp ?_
 rfl
theorem aNo (u:Nat) (h1:1≤u) (h2':u<9223372036854775809):bF Tryz.prog 175 [.int .i64 (-(u:Int)),.int .i64 10] (.ok (.str (45::Lib.decDigits u))):=by
 refine bL Tryz.func175 (rfl:Tryz.f175.body=some _) rfl ?_
 intro E A C hN hL
 replace hN:C.N=54:=hN
 simp only [Gh.num,List.map_cons,List.map_nil,Nat.reduceAdd]
 have h2:u<18446744073709551616:=by omega
 have hd3:Lib.nDigits u≤23:=by have:=Lib.numDigits_eq u (by omega) h2;split at this<;>omega
 have hwr:IntKind.u64.wrap (0 - (IntKind.u64.wrap (-(u:Int))))=(u:Int):=by rw [IntKind.wrap_u64,IntKind.wrap_u64];omega
 have hd1:=Lib.nDigits_pos u
 repeat apply aA
 apply aB
 refine v0 ?_
 apply aC
 refine cl [0,1] ?_
 repeat apply aA
 apply aB
 iterate 2 refine v0 ?_
 refine rb 11 true (h:=by (first|with_reducible rfl|exact decide_eq_true (by omega)|rfl|decide)) ?_
 apply aC
 repeat apply aA
 refine cT ?_
 repeat apply aA
 apply aB
 iterate 2 refine v0 ?_
 refine rb 13 false (h:=by (first|with_reducible rfl|exact decide_eq_false (by omega)|rfl|decide)) ?_
 refine v0 ?_
 iterate 2 refine x0 ?_
 refine v0 ?_
 refine rb 17 false (h:=by (first|with_reducible rfl|exact decide_eq_false (by omega)|rfl|decide)) ?_
 apply aC
 repeat apply aA
 refine cF ?_
 repeat apply aA
 refine aQ ?_
 refine cl [0] ?_
 repeat apply aA
 apply aB
 refine n1 150 false (hc:=vT.h {}) ?_
 apply aC
 refine cl [0,5] ?_
 repeat apply aA
 apply aB
 refine v0 ?_
 refine v1 (hc:=vT.h {}) ?_
 refine v0 ?_
 apply aC
 refine cl [0,5,6] ?_
 repeat apply aA
 apply aB
 iterate 2 refine v0 ?_
 refine rb 23 true (h:=by (first|with_reducible rfl|exact decide_eq_true (by omega)|rfl|decide)) ?_
 apply aC
 repeat apply aA
 refine cT ?_
 repeat apply aA
 apply aB
 refine v0 ?_
 refine v1 (hc:=vT.h {}) ?_
 refine v0 ?_
 apply aC
 refine cl [0,5,6] ?_
 repeat apply aA
 try rw [hwr]
 apply aB
 refine v0 ?_
 refine pc0 (spec:=aOR u (by omega) h2) (hent:=aJy) ?_
 refine v0 ?_
 apply aC
 refine cl [0,5,6,7] ?_
 repeat apply aA
 apply aB
 refine v0 ?_
 iterate 2 refine v1 (hc:=vT.h {}) ?_
 refine v0 ?_
 change cK _ _ _ _ _ (sg _ [(150,.cells (((P.int .u8 0)::u8s (List.replicate 23 0)).map G.p) 0)] _ _)
 rw [aGy (Lib.nDigits u) hd3]
 refine oc0 [(0,150)] [] [0,0] none (spec:=aJz (.int .u8 0) rfl (List.replicate (Lib.nDigits u) 0) (List.replicate (23 - Lib.nDigits u) 0) ((1+(Lib.nDigits u:Int)).toNat - 1) (by rw [List.length_replicate];omega) u (by rw [List.length_replicate];exact Lib.lt_pow_nDigits u) h2 (by rw [List.length_replicate];omega)) (hent:=aJA) ?_
 apply aC
 refine cl [0,5,7] ?_
 repeat apply aA
 apply aB
 iterate 2 refine v0 ?_
 refine rb 34 true (h:=by (first|with_reducible rfl|exact decide_eq_true (by omega)|rfl|decide)) ?_
 apply aC
 repeat apply aA
 refine cT ?_
 repeat apply aA
 apply aB
 refine v1 (hc:=vT.h {}) ?_
 refine s1 (hc:=vT.h {}) ?_
 apply aC
 refine cl [5,7] ?_
 repeat apply aA
 apply aB
 refine v0 ?_
 iterate 2 refine v1 (hc:=vT.h {}) ?_
 refine fs0 (45::Lib.decDigits u) (id:=150) (off:=0) (hx:=?_) (ho:=by (simp only [aF,aI,Nat.reduceEqDiff,reduceIte]<;>rfl)) (hl:=?_) (k:=?_)
 ·show G.fsl 150 0 _=_;rw [List.length_cons,Lib.decDigits_length,show ((1+(Lib.nDigits u:Int)).toNat - 0)=Lib.nDigits u+1 by omega]
 ·rw [List.length_replicate,aEv,List.length_cons,List.drop_zero,List.take_succ_cons,List.map_cons];exact congrArg (_::·) (aMa (.int .u8 0) _ _)
 refine v0 ?_
 apply aC
 repeat apply aA
 refine aL ?_
 repeat (first|refine aH ?_|refine aE ?_|refine aD ?_)
 refine aM ?_
 refine fp ?_
 rfl
theorem aNp (n:Int) (h1 : -9223372036854775808≤n) (h2:n<9223372036854775808):bF Tryz.prog 175 [.int .i64 n,.int .i64 10] (.ok (.str (Lib.itoa n))):=by
 by_cases h:n<0
 ·obtain ⟨u,rfl⟩:∃u:Nat,n = -(u:Int):=⟨n.natAbs,by omega⟩
  rw [Lib.itoa_neg u (by omega)]
  exact aNo u (by omega) (by omega)
 obtain ⟨u,rfl⟩:∃u:Nat,n=(u:Int):=⟨n.toNat,by omega⟩
 rw [Lib.itoa_nonneg]
 by_cases h3:u<100
 ·exact aLA u h3
 exact aNn u (by omega) (by omega)
theorem aLB (n:Int) (h1 : -9223372036854775808≤n) (h2:n<9223372036854775808):bF Tryz.prog 163 [.int .i64 n] (.ok (.str (Lib.itoa n))):=by
 refine bL Tryz.func163 (rfl:Tryz.f163.body=some _) rfl ?_
 intro E A C hN hL
 replace hN:C.N=5:=hN
 simp only [Gh.num,List.map_cons,List.map_nil,Nat.reduceAdd]
 repeat apply aA
 apply aB
 refine v0 ?_
 apply aC
 refine cl [0] ?_
 repeat apply aA
 apply aB
 refine v0 ?_
 refine pc0 (spec:=aNp n h1 h2) (hent:=aNm) ?_
 refine v0 ?_
 apply aC
 repeat apply aA
 refine aL ?_
 repeat (first|refine aH ?_|refine aE ?_|refine aD ?_)
 refine aM ?_
 refine fp ?_
 rfl
theorem aNq:aJ Tryz.prog 163:=aJ.mk Tryz.func163 (by kernel_rfl) rfl
theorem iV (n:Int) (h1 : -9223372036854775808≤n) (h2:n<9223372036854775808):bF Tryz.prog 137 [.int .i64 n] (.ok (.str (Lib.itoa n))):=by
 refine bL Tryz.func137 (rfl:Tryz.f137.body=some _) rfl ?_
 intro E A C hN hL
 replace hN:C.N=5:=hN
 simp only [Gh.num,List.map_cons,List.map_nil,Nat.reduceAdd]
 repeat apply aA
 apply aB
 refine v0 ?_
 apply aC
 refine cl [0] ?_
 repeat apply aA
 apply aB
 refine v0 ?_
 refine pc0 (spec:=aLB n h1 h2) (hent:=aNq) ?_
 refine v0 ?_
 apply aC
 repeat apply aA
 refine aL ?_
 repeat (first|refine aH ?_|refine aE ?_|refine aD ?_)
 refine aM ?_
 refine fp ?_
 rfl
end
section
open Go.Gh
structure aFw (c:Prop):Prop where
 h:c:=by (first|exact True.intro|omega|(simp only [inI];omega)|(have:=eQ;simp [P.size,bV]<;>first|omega|exact this _|exact ⟨this _,by omega⟩|grind))
theorem bV (l:List UInt8):(u8s l).length=l.length:=by simp [u8s]
theorem eQ (l:List UInt8):∀x∈u8s l,x.size=1:=by intro x hx;obtain ⟨b,_,rfl⟩:=List.mem_map.1 hx;rfl
theorem aFx:aJ Tryz.prog 162:=aJ.mk Tryz.func162 (by kernel_rfl) rfl
theorem iW:aJ Tryz.prog 136:=aJ.mk Tryz.func136 (by kernel_rfl) rfl
theorem aFy {E:Env Tryz.prog} {A:E.α} (s:List UInt8) (h:s.length≤1000000):Gh.bD E 136 [.ref 0 0,.p (.str s)] (aG [(0,.tcells 158 [.p .nilptr,.nils])]) A (fun y=>y = .ok (.p (.tuple [.int .i64 (s.length:Nat),.niliface])) (aG [(0,.cells [.ref 0 0,.own 240 (s).length] 0),(240,.arr 5 1 (u8s (s)) false)]) A):=by
 refine spX 19 Tryz.func136 rfl ?_
 intro C hN hL
 simp only [Gh.num,List.map_cons,List.map_nil,Nat.reduceAdd]
 repeat apply aA
 apply aB
 iterate 2 refine v0 ?_
 apply aC
 refine cl [0,1] ?_
 repeat apply aA
 apply aB
 refine v0 ?_
 refine oc0 [(0,0)] [] [0] none (spec:=aNi) (hent:=aFx) ?_
 apply aC
 refine cl [0,1] ?_
 repeat apply aA
 apply aB
 iterate 6 refine v0 ?_
 refine n1 240 true (hc:=aFw.h {}) ?_
 iterate 2 refine v0 ?_
 refine s1 (hc:=aFw.h {}) ?_
 apply aC
 refine cl [0,1] ?_
 repeat apply aA
 apply aB
 iterate 4 refine v0 ?_
 apply aC
 repeat apply aA
 refine aL ?_
 repeat (first|refine aH ?_|refine aE ?_|refine aD ?_)
 refine aM ?_
 refine fh2 [0,240] ?_
 simp [u8s]
theorem mY {E:Env Tryz.prog} {A:E.α} (l s:List UInt8) (h:l.length≤1000000) (h2:s.length≤1000000):Gh.bD E 136 [.ref 0 0,.p (.str s)] (aG [(0,.cells [.ref 0 0,.own 1 (l).length] 0),(1,.arr 5 1 (u8s (l)) false)]) A (fun y=>y = .ok (.p (.tuple [.int .i64 (s.length:Nat),.niliface])) (aG [(0,.cells [.ref 0 0,.own 1 (l++s).length] 0),(1,.arr 5 1 (u8s (l++s)) false)]) A):=by
 refine spX 19 Tryz.func136 rfl ?_
 intro C hN hL
 simp only [Gh.num,List.map_cons,List.map_nil,Nat.reduceAdd]
 repeat apply aA
 apply aB
 iterate 2 refine v0 ?_
 apply aC
 refine cl [0,1] ?_
 repeat apply aA
 apply aB
 refine v0 ?_
 refine oc0 [(0,0),(1,1)] [] [0] none (spec:=aJx 5 1 l.length (u8s l)) (hent:=aFx) ?_
 apply aC
 refine cl [0,1] ?_
 repeat apply aA
 apply aB
 iterate 6 refine v0 ?_
 refine n1 240 true (hc:=aFw.h {}) ?_
 iterate 2 refine v0 ?_
 refine s1 (hc:=aFw.h {}) ?_
 apply aC
 refine cl [0,1] ?_
 repeat apply aA
 apply aB
 iterate 4 refine v0 ?_
 apply aC
 repeat apply aA
 refine aL ?_
 repeat (first|refine aH ?_|refine aE ?_|refine aD ?_)
 refine aM ?_
 refine fh2 [0,1] ?_
 simp [u8s]
theorem tO:aJ Tryz.prog 135:=aJ.mk Tryz.func135 (by kernel_rfl) rfl
theorem tP {E:Env Tryz.prog} {A:E.α} (l:List UInt8) (c:UInt8) (h:l.length≤1000000):Gh.bD E 135 [.ref 0 0,.p (.int .u8 c.toNat)] (aG [(0,.cells [.ref 0 0,.own 1 (l).length] 0),(1,.arr 5 1 (u8s (l)) false)]) A (fun y=>y = .ok (.p .niliface) (aG [(0,.cells [.ref 0 0,.own 1 (l++[c]).length] 0),(1,.arr 5 1 (u8s (l++[c])) false)]) A):=by
 refine spX 17 Tryz.func135 rfl ?_
 intro C hN hL
 simp only [Gh.num,List.map_cons,List.map_nil,Nat.reduceAdd]
 repeat apply aA
 apply aB
 refine v0 ?_
 apply aC
 refine cl [0,1] ?_
 repeat apply aA
 apply aB
 refine v0 ?_
 refine oc0 [(0,0),(1,1)] [] [0] none (spec:=aJx 5 1 l.length (u8s l)) (hent:=aFx) ?_
 apply aC
 refine cl [0,1] ?_
 repeat apply aA
 apply aB
 iterate 6 refine v0 ?_
 refine n1 230 false (hc:=aFw.h {}) ?_
 refine n1 240 true (hc:=aFw.h {}) ?_
 iterate 2 refine v0 ?_
 refine s1 (hc:=aFw.h {}) ?_
 apply aC
 refine cl [0] ?_
 repeat apply aA
 apply aB
 refine v0 ?_
 apply aC
 repeat apply aA
 refine aL ?_
 repeat (first|refine aH ?_|refine aE ?_|refine aD ?_)
 refine aM ?_
 refine fh [0,1] ?_
 simp [u8s]
end
section
open Go.Gh
structure aNr (c:Prop):Prop where
 h:c:=by (first|exact True.intro|omega|(simp only [inI];omega)|(simp [P.size,bU,bG,bR,bB,cS,good,G.one,P.one,P.cells]<;>first|omega|assumption|simp_all))
theorem mZ:aJ Tryz.prog 128:=aJ.mk Tryz.func128 (by kernel_rfl) rfl
theorem gB (n lo hi:Int):bF Tryz.prog 128 [.int .i64 n,.int .i64 lo,.int .i64 hi] (.ok (.bool (decide (lo≤n)&&decide (n≤hi)))):=by
 refine bL Tryz.func128 (rfl:Tryz.f128.body=some _) rfl ?_
 intro E A C hN hL
 replace hN:C.N=15:=hN
 simp only [Gh.num,List.map_cons,List.map_nil,Nat.reduceAdd]
 repeat apply aA
 apply aB
 refine v0 ?_
 apply aC
 refine cl [0,1,2] ?_
 repeat apply aA
 apply aB
 iterate 4 refine v0 ?_
 refine b0 (k1:=fun hb1=>?_) (k0:=fun hb1=>?_)
 ·replace hb1:=hB.h {} hb1
  iterate 3 refine w0 ?_
  iterate 2 refine v0 ?_
  apply aC
  repeat apply aA
  refine aL ?_
  repeat (first|refine aH ?_|refine aE ?_|refine aD ?_)
  refine aM ?_
  refine fp ?_
  simp_all [dT.at]<;>omega
 replace hb1:=hB.h {} hb1
 iterate 3 refine x0 ?_
 iterate 2 refine v0 ?_
 apply aC
 repeat apply aA
 refine aL ?_
 repeat (first|refine aH ?_|refine aE ?_|refine aD ?_)
 refine aM ?_
 refine fp ?_
 simp_all [dT.at]<;>omega
theorem tQ:aJ Tryz.prog 127:=aJ.mk Tryz.func127 (by kernel_rfl) rfl
theorem lC (a b lo hi:Int):bF Tryz.prog 127 [.agg [.int .i64 a,.int .i64 b],.int .i64 lo,.int .i64 hi] (.ok (.bool (decide (lo≤a)&&decide (a≤b)&&decide (b≤hi)))):=by
 refine bL Tryz.func127 (rfl:Tryz.f127.body=some _) rfl ?_
 intro E A C hN hL
 replace hN:C.N=24:=hN
 simp only [Gh.num,List.map_cons,List.map_nil,Nat.reduceAdd]
 repeat apply aA
 apply aB
 refine n1 130 false (hc:=by (first|exact True.intro|(simp only [inI];omega)|(simp [P.size]<;>omega))) ?_
 refine v0 ?_
 apply aC
 refine cl [1,2,3] ?_
 repeat apply aA
 apply aB
 iterate 5 refine v0 ?_
 refine b0 (k1:=fun hb1=>?_) (k0:=fun hb1=>?_)
 ·replace hb1:=hB.h {} hb1
  iterate 5 refine w0 ?_
  iterate 2 refine v0 ?_
  refine b0 (k1:=fun hb2=>?_) (k0:=fun hb2=>?_)
  ·replace hb2:=hB.h {} hb2
   iterate 4 refine w0 ?_
   iterate 2 refine v0 ?_
   apply aC
   repeat apply aA
   refine aL ?_
   repeat (first|refine aH ?_|refine aE ?_|refine aD ?_)
   refine aM ?_
   refine fp ?_
   simp_all [dT.at]<;>omega
  replace hb2:=hB.h {} hb2
  iterate 4 refine x0 ?_
  iterate 2 refine v0 ?_
  apply aC
  repeat apply aA
  refine aL ?_
  repeat (first|refine aH ?_|refine aE ?_|refine aD ?_)
  refine aM ?_
  refine fp ?_
  simp_all [dT.at]<;>omega
 replace hb1:=hB.h {} hb1
 iterate 5 refine x0 ?_
 iterate 2 refine v0 ?_
 iterate 4 refine x0 ?_
 iterate 2 refine v0 ?_
 apply aC
 repeat apply aA
 refine aL ?_
 repeat (first|refine aH ?_|refine aE ?_|refine aD ?_)
 refine aM ?_
 refine fp ?_
 simp_all [dT.at]<;>omega
theorem bX:aJ Tryz.prog 75:=aJ.mk Tryz.func75 (by kernel_rfl) rfl
theorem bH (e:Int):bF Tryz.prog 75 [.bool true,.int .i64 e] (.ok (.tuple [])):=by
 refine bL Tryz.func75 (rfl:Tryz.f75.body=some _) rfl ?_
 intro E A C hN hL
 replace hN:C.N=9:=hN
 simp only [Gh.num,List.map_cons,List.map_nil,Nat.reduceAdd]
 repeat apply aA
 apply aB
 iterate 2 refine v0 ?_
 apply aC
 repeat apply aA
 refine cF ?_
 repeat apply aA
 refine aQ ?_
 try refine bP ?_
 refine cW ?_
 refine fp0 ?_
 rfl
theorem cX (e:Int):bF Tryz.prog 75 [.bool false,.int .i64 e] (.panic (.iface 218 (.agg [.int .i64 e]))):=by
 refine bL Tryz.func75 (rfl:Tryz.f75.body=some _) rfl ?_
 intro E A C hN hL
 replace hN:C.N=9:=hN
 simp only [Gh.num,List.map_cons,List.map_nil,Nat.reduceAdd]
 repeat apply aA
 apply aB
 iterate 2 refine v0 ?_
 apply aC
 repeat apply aA
 refine cT ?_
 repeat apply aA
 apply aB
 iterate 3 refine v0 ?_
 refine pn0 ?_
 repeat (first|refine aO ?_|refine aN ?_)
 exact aCe rfl
theorem sV:aJ Tryz.prog 74:=aJ.mk Tryz.func74 (by kernel_rfl) rfl
theorem rA {E:Env Tryz.prog} {A:E.α} (e:Int):Gh.bD E 74 [.p .niliface,.ref 0 0] (aG [(0,.cells [.p (.int .i64 e)] 0)]) A (fun y=>y = .ok (.p (.tuple [])) (aG [(0,.cells [.p (.int .i64 e)] 0)]) A):=by
 refine spX 20 Tryz.func74 rfl ?_
 intro C hN hL
 simp only [Gh.num,List.map_cons,List.map_nil,Nat.reduceAdd]
 repeat apply aA
 apply aB
 iterate 2 refine v0 ?_
 refine rb 7 true (h:=by (rfl)) ?_
 apply aC
 repeat apply aA
 refine cT ?_
 repeat apply aA
 refine aL ?_
 repeat (first|refine aH ?_|refine aE ?_|refine aD ?_)
 refine aM ?_
 refine fh0 [0] ?_
 rfl
theorem hM {E:Env Tryz.prog} {A:E.α} (e n:Int):Gh.bD E 74 [.p (.iface 218 (.agg [.int .i64 n])),.ref 0 0] (aG [(0,.cells [.p (.int .i64 e)] 0)]) A (fun y=>y = .ok (.p (.tuple [])) (aG [(0,.cells [.p (.int .i64 n)] 0)]) A):=by
 refine spX 20 Tryz.func74 rfl ?_
 intro C hN hL
 simp only [Gh.num,List.map_cons,List.map_nil,Nat.reduceAdd]
 repeat apply aA
 apply aB
 iterate 2 refine v0 ?_
 refine rb 7 false (h:=by (rfl)) ?_
 apply aC
 repeat apply aA
 refine cF ?_
 repeat apply aA
 refine aQ ?_
 refine cl [0,1] ?_
 repeat apply aA
 apply aB
 iterate 5 refine v0 ?_
 refine rb 12 true (h:=by (rfl)) ?_
 refine n1 140 false (hc:=aNr.h {}) ?_
 refine s1 (hc:=aNr.h {}) ?_
 refine v0 ?_
 apply aC
 refine cl [0,1,4,5] ?_
 repeat apply aA
 apply aB
 iterate 2 refine v0 ?_
 apply aC
 repeat apply aA
 refine cF ?_
 repeat apply aA
 refine aQ ?_
 refine cl [0,1,4] ?_
 repeat apply aA
 apply aB
 iterate 4 refine v0 ?_
 refine s1 (hc:=aNr.h {}) ?_
 apply aC
 try refine bP ?_
 refine cW ?_
 refine fh0 [0] ?_
 rfl
theorem yM:aJ Tryz.prog 105:=aJ.mk Tryz.func105 (by kernel_rfl) rfl
theorem aHC {E:Env Tryz.prog} {A:E.α} (c0 c1 c2 c3 c4 c5 c6:P):lB E 105 [.ref 0 0,.ref 1 0] (aG [(0,.cells [.p (.int .i64 0)] 0),(1,.cells [.p c0,.p c1,.p c2,.p c3,.p c4,.p c5,.p c6] 0)]) A (none) (fun y=>y = .ok (.p (.tuple [])) (aG [(0,.cells [.p (.int .i64 0)] 0),(1,.cells [.p c0,.p c1,.p c2,.p c3,.p c4,.p c5,.p c6] 0)]) A):=by
 refine fZ Tryz.func105 (some _) (rfl:Tryz.f105.body=some _) rfl rfl rfl (by decide) (Nat.le_of_ble_eq_true rfl) (fun id h=>?_) (fun j id h=>?_) ?_
 ·exact kA h
 ·exact kB h
 intro C hN hL
 replace hN:C.N=8:=hN
 simp only [Gh.num,List.map_cons,List.map_nil,Nat.reduceAdd,pP]
 refine oc0 [(0,0)] [] [0,0] none (spec:=rA 0) (hent:=sV) ?_
 apply aC
 refine (?_:gwp C none _ _ (sg _ _ _ []))
 repeat apply aA
 apply aB
 iterate 2 refine v0 ?_
 refine rb 6 false (h:=by (first|with_reducible rfl|exact decide_eq_false (by omega)|rfl|decide)) ?_
 apply aC
 repeat apply aA
 refine cF ?_
 repeat apply aA
 refine aQ ?_
 repeat refine bZ ?_
 refine dU ?_
 refine fh0 [0,1] ?_
 rfl
theorem yN:aJ Tryz.prog 116:=aJ.mk Tryz.func116 (by kernel_rfl) rfl
theorem aHD {E:Env Tryz.prog} {A:E.α} (c0 c1 c2:P):lB E 116 [.ref 0 0,.ref 1 0] (aG [(0,.cells [.p (.int .i64 0)] 0),(1,.cells [.p c0,.p c1,.p c2] 0)]) A (none) (fun y=>y = .ok (.p (.tuple [])) (aG [(0,.cells [.p (.int .i64 0)] 0),(1,.cells [.p c0,.p c1,.p c2] 0)]) A):=by
 refine fZ Tryz.func116 (some _) (rfl:Tryz.f116.body=some _) rfl rfl rfl (by decide) (Nat.le_of_ble_eq_true rfl) (fun id h=>?_) (fun j id h=>?_) ?_
 ·exact kA h
 ·exact kB h
 intro C hN hL
 replace hN:C.N=8:=hN
 simp only [Gh.num,List.map_cons,List.map_nil,Nat.reduceAdd,pP]
 refine oc0 [(0,0)] [] [0,0] none (spec:=rA 0) (hent:=sV) ?_
 apply aC
 refine (?_:gwp C none _ _ (sg _ _ _ []))
 repeat apply aA
 apply aB
 iterate 2 refine v0 ?_
 refine rb 6 false (h:=by (first|with_reducible rfl|exact decide_eq_false (by omega)|rfl|decide)) ?_
 apply aC
 repeat apply aA
 refine cF ?_
 repeat apply aA
 refine aQ ?_
 repeat refine bZ ?_
 refine dU ?_
 refine fh0 [0,1] ?_
 rfl
end
section
open Go.Gh
structure aDi (c:Prop):Prop where
 h:c:=by (first|exact True.intro|omega|(simp only [inI];omega)|(simp [P.size,bU,bG,bR,bB,cS,good,G.one,P.one,P.cells]<;>first|omega|assumption|simp_all))
abbrev Str:=List UInt8
def bW (xs:List Str):P:=.list (xs.map P.str)
def nA:List Str→Option Int
 |[]=>none
 |x::_=>if (jI x).2 then some (jI x).1 else none
def dD:List Str→Option (Int×Int)
 |[]=>none
 |x::_=>if (Lib.cut x [44]).2.2&&((jI (Lib.cut x [44]).1).2&&(jI (Lib.cut x [44]).2.1).2) then some ((jI (Lib.cut x [44]).1).1,(jI (Lib.cut x [44]).2.1).1) else none
def cG (xs:List Str):Prop:=∀x∈xs,x.length≤10000
theorem cV {xs:List Str} (h:cG xs):cG xs.tail:=fun x hx=>h x (List.mem_of_mem_tail hx)
theorem aAu (x p:Str):(Lib.cut x p).1.length≤x.length∧(Lib.cut x p).2.1.length≤x.length:=by
 unfold Lib.cut
 split
 ·exact ⟨by rw [List.length_take];omega,by rw [List.length_drop];omega⟩
 exact ⟨Nat.le_refl _,Nat.zero_le _⟩
theorem aDj {x:Str} (h:(jI x).2=true):jI x=((jI x).1,true):=by rw [←h]
theorem aFz {x:Str} (h:(jI x).2=false):jI x=((jI x).1,false):=by rw [←h]
theorem dL:aJ Tryz.prog 107:=aJ.mk Tryz.func107 (by kernel_rfl) rfl
theorem cO {E:Env Tryz.prog} {A:E.α} (x:Str) (xs:List Str):Gh.bD E 107 [.ref 0 0] (aG [(0,.cells [.p (bW (x::xs))] 0)]) A (fun y=>y = .ok (.p (.str x)) (aG [(0,.cells [.p (bW xs)] 0)]) A):=by
 refine spX 26 Tryz.func107 rfl ?_
 intro C hN hL
 simp only [Gh.num,List.map_cons,List.map_nil,Nat.reduceAdd]
 unfold bW
 repeat apply aA
 apply aB
 refine v0 ?_
 apply aC
 refine cl [0] ?_
 repeat apply aA
 apply aB
 iterate 6 refine v0 ?_
 refine rb 9 true (h:=by (simp)) ?_
 refine pc0 (spec:=bH _) (hent:=bX) ?_
 apply aC
 refine cl [0] ?_
 repeat apply aA
 apply aB
 iterate 4 refine v0 ?_
 refine v1 (hc:=aDi.h {}) ?_
 iterate 2 refine v0 ?_
 apply aC
 refine cl [0,3] ?_
 repeat apply aA
 apply aB
 iterate 5 refine v0 ?_
 refine v1 (hc:=aDi.h {}) ?_
 iterate 2 refine v0 ?_
 refine s1 (hc:=aDi.h {}) ?_
 apply aC
 refine cl [0,3] ?_
 repeat apply aA
 apply aB
 iterate 2 refine v0 ?_
 apply aC
 repeat apply aA
 refine aL ?_
 repeat (first|refine aH ?_|refine aE ?_|refine aD ?_)
 refine aM ?_
 refine fh [0] ?_
 simp [List.take_of_length_le]
theorem aEw {E:Env Tryz.prog} {A:E.α}  : Gh.bD E 107 [.ref 0 0] (aG [(0,.cells [.p (bW [])] 0)]) A (fun y=>y = .panic (.iface 218 (.agg [.int .i64 8])) (aG [(0,.cells [.p (bW [])] 0)]) A):=by
 refine spX 26 Tryz.func107 rfl ?_
 intro C hN hL
 simp only [Gh.num,List.map_cons,List.map_nil,Nat.reduceAdd]
 unfold bW
 repeat apply aA
 apply aB
 refine v0 ?_
 apply aC
 refine cl [0] ?_
 repeat apply aA
 apply aB
 iterate 6 refine v0 ?_
 refine rb 9 false (h:=by (simp)) ?_
 refine pp0 (spec:=cX _) (hent:=bX) ?_
 repeat (first|refine aO ?_|refine aN ?_)
 refine fph [0] ?_
 rfl
theorem aJB:aJ Tryz.prog 164:=aJ.mk Tryz.func164 (by kernel_rfl) rfl
theorem vU:aJ Tryz.prog 138:=aJ.mk Tryz.func138 (by kernel_rfl) rfl
theorem aAv (s:Str) (v:Int) (h:s.length≤10000) (hs:jI s=(v,true)):bF Tryz.prog 138 [.str s] (.ok (.int .i64 v)):=by
 refine bL Tryz.func138 (rfl:Tryz.f138.body=some _) rfl ?_
 intro E A C hN hL
 replace hN:C.N=14:=hN
 simp only [Gh.num,List.map_cons,List.map_nil,Nat.reduceAdd]
 repeat apply aA
 apply aB
 refine v0 ?_
 apply aC
 refine cl [0] ?_
 repeat apply aA
 apply aB
 refine v0 ?_
 refine pc0 (spec:=aHA s v (by omega) hs) (hent:=aJB) ?_
 iterate 5 refine v0 ?_
 apply aC
 refine cl [3,4] ?_
 repeat apply aA
 apply aB
 iterate 2 refine v0 ?_
 refine rb 11 true (h:=by (rfl)) ?_
 refine pc0 (spec:=bH _) (hent:=bX) ?_
 apply aC
 refine cl [3] ?_
 repeat apply aA
 apply aB
 iterate 2 refine v0 ?_
 apply aC
 repeat apply aA
 refine aL ?_
 repeat (first|refine aH ?_|refine aE ?_|refine aD ?_)
 refine aM ?_
 refine fp ?_
 rfl
theorem aDk (s:Str) (v:Int) (h:s.length≤10000) (hs:jI s=(v,false)):bF Tryz.prog 138 [.str s] (.panic (.iface 218 (.agg [.int .i64 8]))):=by
 refine bL Tryz.func138 (rfl:Tryz.f138.body=some _) rfl ?_
 intro E A C hN hL
 replace hN:C.N=14:=hN
 simp only [Gh.num,List.map_cons,List.map_nil,Nat.reduceAdd]
 repeat apply aA
 apply aB
 refine v0 ?_
 apply aC
 refine cl [0] ?_
 repeat apply aA
 apply aB
 refine v0 ?_
 refine pc0 (spec:=aHB s v (by omega) hs) (hent:=aJB) ?_
 iterate 5 refine v0 ?_
 apply aC
 refine cl [3,4] ?_
 repeat apply aA
 apply aB
 iterate 2 refine v0 ?_
 refine rb 11 false (h:=by (rfl)) ?_
 refine pp0 (spec:=cX _) (hent:=bX) ?_
 repeat (first|refine aO ?_|refine aN ?_)
 exact aCe rfl
theorem sW:aJ Tryz.prog 99:=aJ.mk Tryz.func99 (by kernel_rfl) rfl
theorem pH {E:Env Tryz.prog} {A:E.α} (xs:List Str) (v:Int) (hs:cG xs) (h:nA xs=some v):Gh.bD E 99 [.ref 0 0] (aG [(0,.cells [.p (bW xs)] 0)]) A (fun y=>y = .ok (.p (.int .i64 v)) (aG [(0,.cells [.p (bW xs.tail)] 0)]) A):=by
 refine spX 6 Tryz.func99 rfl ?_
 intro C hN hL
 simp only [Gh.num,List.map_cons,List.map_nil,Nat.reduceAdd]
 obtain ⟨x,xs,rfl⟩:∃x xs',xs=x::xs':=by cases xs with|nil=>cases h|cons x xs=>exact ⟨x,xs,rfl⟩
 have hx:=hs x (List.mem_cons_self ..)
 have hv:jI x=(v,true):=by simp only [nA] at h;split at h;(rename_i h2;cases h;exact aDj h2);cases h
 repeat apply aA
 apply aB
 refine v0 ?_
 apply aC
 refine cl [0] ?_
 repeat apply aA
 apply aB
 refine v0 ?_
 refine oc0 [(0,0)] [] [0] none (spec:=cO x xs) (hent:=dL) ?_
 refine pc0 (spec:=aAv x v hx hv) (hent:=vU) ?_
 refine v0 ?_
 apply aC
 repeat apply aA
 refine aL ?_
 repeat (first|refine aH ?_|refine aE ?_|refine aD ?_)
 refine aM ?_
 refine fh [0] ?_
 rfl
theorem aJC {E:Env Tryz.prog} {A:E.α}  : Gh.bD E 99 [.ref 0 0] (aG [(0,.cells [.p (bW [])] 0)]) A (fun y=>y = .panic (.iface 218 (.agg [.int .i64 8])) (aG [(0,.cells [.p (bW [])] 0)]) A):=by
 refine spX 6 Tryz.func99 rfl ?_
 intro C hN hL
 simp only [Gh.num,List.map_cons,List.map_nil,Nat.reduceAdd]
 repeat apply aA
 apply aB
 refine v0 ?_
 apply aC
 refine cl [0] ?_
 repeat apply aA
 apply aB
 refine v0 ?_
 refine op0 [(0,0)] [] [0] none (spec:=aEw) (hent:=dL) ?_
 repeat (first|refine aO ?_|refine aN ?_)
 refine fph [0] ?_
 rfl
theorem aJD {E:Env Tryz.prog} {A:E.α} (x:Str) (xs:List Str) (v:Int) (hx:x.length≤10000) (hv:jI x=(v,false)):Gh.bD E 99 [.ref 0 0] (aG [(0,.cells [.p (bW (x::xs))] 0)]) A (fun y=>y = .panic (.iface 218 (.agg [.int .i64 8])) (aG [(0,.cells [.p (bW xs)] 0)]) A):=by
 refine spX 6 Tryz.func99 rfl ?_
 intro C hN hL
 simp only [Gh.num,List.map_cons,List.map_nil,Nat.reduceAdd]
 repeat apply aA
 apply aB
 refine v0 ?_
 apply aC
 refine cl [0] ?_
 repeat apply aA
 apply aB
 refine v0 ?_
 refine oc0 [(0,0)] [] [0] none (spec:=cO x xs) (hent:=dL) ?_
 refine pp0 (spec:=aDk x v hx hv) (hent:=vU) ?_
 repeat (first|refine aO ?_|refine aN ?_)
 refine fph [0] ?_
 rfl
theorem aAw {E:Env Tryz.prog} {A:E.α} (xs:List Str) (hs:cG xs) (h:nA xs=none):Gh.bD E 99 [.ref 0 0] (aG [(0,.cells [.p (bW xs)] 0)]) A (fun y=>y = .panic (.iface 218 (.agg [.int .i64 8])) (aG [(0,.cells [.p (bW xs.tail)] 0)]) A):=by
 cases xs with
 |nil=>exact aJC
 |cons x xs=>
  refine aJD x xs (jI x).1 (hs x (List.mem_cons_self ..)) (aFz ?_)
  simp only [nA] at h
  split at h
  ·cases h
  exact Bool.eq_false_iff.2 (by assumption)
theorem aDl:aJ Tryz.prog 139:=aJ.mk Tryz.func139 (by kernel_rfl) rfl
theorem aJE {E:Env Tryz.prog} {A:E.α} (x:Str) (xs:List Str) (a b:Str) (c:Bool) (hx:x.length≤10000) (hcut:Lib.cut x [44]=(a,b,c)) (u v:Int) (hc:c=true) (hu:jI a=(u,true)) (hv:jI b=(v,true)):Gh.bD E 100 [.ref 0 0] (aG [(0,.cells [.p (bW (x::xs))] 0)]) A (fun y=>y = .ok (.p (.agg [.int .i64 u,.int .i64 v])) (aG [(0,.cells [.p (bW xs)] 0)]) A):=by
 refine spX 20 Tryz.func100 rfl ?_
 intro C hN hL
 simp only [Gh.num,List.map_cons,List.map_nil,Nat.reduceAdd]
 have h1:=aAu x [44]
 rw [hcut] at h1
 have hC:bF Tryz.prog 139 [.str x,.str [44]] (.ok (.tuple [.str a,.str b,.bool c])):=by have:=aGx x [44] (by omega);rw [hcut] at this;exact this
 have ha:a.length≤10000:=by have:=h1.1;simp only at this;omega
 have hb:b.length≤10000:=by have:=h1.2;simp only at this;omega
 subst hc
 repeat apply aA
 apply aB
 refine n1 120 false (hc:=aDi.h {}) ?_
 apply aC
 refine cl [0,2] ?_
 repeat apply aA
 apply aB
 refine v0 ?_
 refine oc0 [(0,0)] [] [0] none (spec:=cO x xs) (hent:=dL) ?_
 refine pc0 (spec:=hC) (hent:=aDl) ?_
 iterate 7 refine v0 ?_
 refine rb 5 true (h:=by (rfl)) ?_
 apply aC
 refine cl [0,2,3,4,5] ?_
 repeat apply aA
 apply aB
 refine v0 ?_
 refine pc0 (spec:=bH _) (hent:=bX) ?_
 apply aC
 refine cl [0,2,3,4] ?_
 repeat apply aA
 apply aB
 refine v0 ?_
 refine pc0 (spec:=aAv a u ha hu) (hent:=vU) ?_
 refine v0 ?_
 refine pc0 (spec:=aAv b v hb hv) (hent:=vU) ?_
 refine v0 ?_
 refine s1 (hc:=aDi.h {}) ?_
 apply aC
 repeat apply aA
 refine aL ?_
 repeat (first|refine aH ?_|refine aE ?_|refine aD ?_)
 refine aM ?_
 refine fh [0] ?_
 rfl
theorem aHE {E:Env Tryz.prog} {A:E.α}  : Gh.bD E 100 [.ref 0 0] (aG [(0,.cells [.p (bW [])] 0)]) A (fun y=>y = .panic (.iface 218 (.agg [.int .i64 8])) (aG [(0,.cells [.p (bW [])] 0)]) A):=by
 refine spX 20 Tryz.func100 rfl ?_
 intro C hN hL
 simp only [Gh.num,List.map_cons,List.map_nil,Nat.reduceAdd]
 repeat apply aA
 apply aB
 refine n1 120 false (hc:=aDi.h {}) ?_
 apply aC
 refine cl [0,2] ?_
 repeat apply aA
 apply aB
 refine v0 ?_
 refine op0 [(0,0)] [] [0] none (spec:=aEw) (hent:=dL) ?_
 repeat (first|refine aO ?_|refine aN ?_)
 refine fph [0] ?_
 rfl
theorem aHF {E:Env Tryz.prog} {A:E.α} (x:Str) (xs:List Str) (a b:Str) (c:Bool) (hx:x.length≤10000) (hcut:Lib.cut x [44]=(a,b,c)) (hc:c=false):Gh.bD E 100 [.ref 0 0] (aG [(0,.cells [.p (bW (x::xs))] 0)]) A (fun y=>y = .panic (.iface 218 (.agg [.int .i64 8])) (aG [(0,.cells [.p (bW xs)] 0)]) A):=by
 refine spX 20 Tryz.func100 rfl ?_
 intro C hN hL
 simp only [Gh.num,List.map_cons,List.map_nil,Nat.reduceAdd]
 have h1:=aAu x [44]
 rw [hcut] at h1
 have hC:bF Tryz.prog 139 [.str x,.str [44]] (.ok (.tuple [.str a,.str b,.bool c])):=by have:=aGx x [44] (by omega);rw [hcut] at this;exact this
 have ha:a.length≤10000:=by have:=h1.1;simp only at this;omega
 have hb:b.length≤10000:=by have:=h1.2;simp only at this;omega
 subst hc
 repeat apply aA
 apply aB
 refine n1 120 false (hc:=aDi.h {}) ?_
 apply aC
 refine cl [0,2] ?_
 repeat apply aA
 apply aB
 refine v0 ?_
 refine oc0 [(0,0)] [] [0] none (spec:=cO x xs) (hent:=dL) ?_
 refine pc0 (spec:=hC) (hent:=aDl) ?_
 iterate 7 refine v0 ?_
 refine rb 5 false (h:=by (rfl)) ?_
 apply aC
 refine cl [0,2,3,4,5] ?_
 repeat apply aA
 apply aB
 refine v0 ?_
 refine pp0 (spec:=cX _) (hent:=bX) ?_
 repeat (first|refine aO ?_|refine aN ?_)
 refine fph [0] ?_
 rfl
theorem aHG {E:Env Tryz.prog} {A:E.α} (x:Str) (xs:List Str) (a b:Str) (c:Bool) (hx:x.length≤10000) (hcut:Lib.cut x [44]=(a,b,c)) (u:Int) (hc:c=true) (hu:jI a=(u,false)):Gh.bD E 100 [.ref 0 0] (aG [(0,.cells [.p (bW (x::xs))] 0)]) A (fun y=>y = .panic (.iface 218 (.agg [.int .i64 8])) (aG [(0,.cells [.p (bW xs)] 0)]) A):=by
 refine spX 20 Tryz.func100 rfl ?_
 intro C hN hL
 simp only [Gh.num,List.map_cons,List.map_nil,Nat.reduceAdd]
 have h1:=aAu x [44]
 rw [hcut] at h1
 have hC:bF Tryz.prog 139 [.str x,.str [44]] (.ok (.tuple [.str a,.str b,.bool c])):=by have:=aGx x [44] (by omega);rw [hcut] at this;exact this
 have ha:a.length≤10000:=by have:=h1.1;simp only at this;omega
 have hb:b.length≤10000:=by have:=h1.2;simp only at this;omega
 subst hc
 repeat apply aA
 apply aB
 refine n1 120 false (hc:=aDi.h {}) ?_
 apply aC
 refine cl [0,2] ?_
 repeat apply aA
 apply aB
 refine v0 ?_
 refine oc0 [(0,0)] [] [0] none (spec:=cO x xs) (hent:=dL) ?_
 refine pc0 (spec:=hC) (hent:=aDl) ?_
 iterate 7 refine v0 ?_
 refine rb 5 true (h:=by (rfl)) ?_
 apply aC
 refine cl [0,2,3,4,5] ?_
 repeat apply aA
 apply aB
 refine v0 ?_
 refine pc0 (spec:=bH _) (hent:=bX) ?_
 apply aC
 refine cl [0,2,3,4] ?_
 repeat apply aA
 apply aB
 refine v0 ?_
 refine pp0 (spec:=aDk a u ha hu) (hent:=vU) ?_
 repeat (first|refine aO ?_|refine aN ?_)
 refine fph [0] ?_
 rfl
theorem aHH {E:Env Tryz.prog} {A:E.α} (x:Str) (xs:List Str) (a b:Str) (c:Bool) (hx:x.length≤10000) (hcut:Lib.cut x [44]=(a,b,c)) (u v:Int) (hc:c=true) (hu:jI a=(u,true)) (hv:jI b=(v,false)):Gh.bD E 100 [.ref 0 0] (aG [(0,.cells [.p (bW (x::xs))] 0)]) A (fun y=>y = .panic (.iface 218 (.agg [.int .i64 8])) (aG [(0,.cells [.p (bW xs)] 0)]) A):=by
 refine spX 20 Tryz.func100 rfl ?_
 intro C hN hL
 simp only [Gh.num,List.map_cons,List.map_nil,Nat.reduceAdd]
 have h1:=aAu x [44]
 rw [hcut] at h1
 have hC:bF Tryz.prog 139 [.str x,.str [44]] (.ok (.tuple [.str a,.str b,.bool c])):=by have:=aGx x [44] (by omega);rw [hcut] at this;exact this
 have ha:a.length≤10000:=by have:=h1.1;simp only at this;omega
 have hb:b.length≤10000:=by have:=h1.2;simp only at this;omega
 subst hc
 repeat apply aA
 apply aB
 refine n1 120 false (hc:=aDi.h {}) ?_
 apply aC
 refine cl [0,2] ?_
 repeat apply aA
 apply aB
 refine v0 ?_
 refine oc0 [(0,0)] [] [0] none (spec:=cO x xs) (hent:=dL) ?_
 refine pc0 (spec:=hC) (hent:=aDl) ?_
 iterate 7 refine v0 ?_
 refine rb 5 true (h:=by (rfl)) ?_
 apply aC
 refine cl [0,2,3,4,5] ?_
 repeat apply aA
 apply aB
 refine v0 ?_
 refine pc0 (spec:=bH _) (hent:=bX) ?_
 apply aC
 refine cl [0,2,3,4] ?_
 repeat apply aA
 apply aB
 refine v0 ?_
 refine pc0 (spec:=aAv a u ha hu) (hent:=vU) ?_
 refine v0 ?_
 refine pp0 (spec:=aDk b v hb hv) (hent:=vU) ?_
 repeat (first|refine aO ?_|refine aN ?_)
 refine fph [0] ?_
 rfl
theorem eK {E:Env Tryz.prog} {A:E.α} (xs:List Str) (u v:Int) (hs:cG xs) (h:dD xs=some (u,v)):Gh.bD E 100 [.ref 0 0] (aG [(0,.cells [.p (bW xs)] 0)]) A (fun y=>y = .ok (.p (.agg [.int .i64 u,.int .i64 v])) (aG [(0,.cells [.p (bW xs.tail)] 0)]) A):=by
 cases xs with
 |nil=>cases h
 |cons x xs=>
  simp only [dD] at h
  split at h
  ·rename_i h2
   simp only [Bool.and_eq_true] at h2
   obtain ⟨h2,h3,h4⟩:=h2
   cases h
   exact aJE x xs _ _ _ (hs x (List.mem_cons_self ..)) rfl _ _ h2 (aDj h3) (aDj h4)
  cases h
theorem lD {E:Env Tryz.prog} {A:E.α} (xs:List Str) (hs:cG xs) (h:dD xs=none):Gh.bD E 100 [.ref 0 0] (aG [(0,.cells [.p (bW xs)] 0)]) A (fun y=>y = .panic (.iface 218 (.agg [.int .i64 8])) (aG [(0,.cells [.p (bW xs.tail)] 0)]) A):=by
 cases xs with
 |nil=>exact aHE
 |cons x xs=>
  simp only [dD] at h
  split at h
  ·cases h
  rename_i h2
  have hx:=hs x (List.mem_cons_self ..)
  cases h5:(Lib.cut x [44]).2.2 with
  |false=>exact aHF x xs _ _ _ hx rfl h5
  |true=>
   cases h3:(jI (Lib.cut x [44]).1).2 with
   |false=>exact aHG x xs _ _ _ hx rfl _ h5 (aFz h3)
   |true=>
    cases h4:(jI (Lib.cut x [44]).2.1).2 with
    |false=>exact aHH x xs _ _ _ hx rfl _ _ h5 (aDj h3) (aFz h4)
    |true=>rw [h5,h3,h4] at h2;exact absurd rfl h2
end
section
open Go.Gh
structure yO (c:Prop):Prop where
 h:c:=by (first|exact True.intro|omega|(simp [P.size]<;>first|omega|(intro a _;cases a<;>rfl))|(simp [P.size];exact ⟨by omega,fun a _=>by cases a<;>rfl⟩)|omega|(simp only [inI];omega)|(simp [P.size,bU,bG,bR,bB,cS,good,G.one,P.one,P.cells]<;>first|omega|assumption|simp_all))
theorem fT {α:Type} {l:List α} {k:Nat} (h:k<l.length):∃x,l[k]? = some x:=⟨l[k],List.getElem?_eq_getElem h⟩
theorem sgE {E:Env Tryz.prog} {l l':List (Nat×G)} {m m':List (Nat×Ob)} {A:E.α} {df:List GD} (h:l=l') (h2:m=m'):(sg l m A df:Sg E)=sg l' m' A df:=by rw [h,h2]
inductive Pt where
 |w (s:Str)
 |n (k:Int)
 |sp (a b:Int)
def ptP:Pt→P
 |.w s=>.iface 9 (.str s)
 |.n k=>.iface 3 (.int .i64 k)
 |.sp a b=>.iface 24 (.agg [.int .i64 a,.int .i64 b])
def ptT:Pt→Str
 |.w s=>s
 |.n k=>Lib.itoa k
 |.sp a b=>Lib.itoa a++[44]++Lib.itoa b
def oK (k:Int):Prop:=-9223372036854775808≤k∧k<9223372036854775808
def Pt.ok:Pt→Prop
 |.w s=>s.length≤100
 |.n k=>oK k
 |.sp a b=>oK a∧oK b
def sep (i:Nat):Str:=if 0<i then [32] else []
def jn (ps:List Pt):Nat→Str
 |0=>[]
 |k+1=>jn ps k++sep k++(match ps[k]? with|some p=>ptT p|none=>[])
def fM (ps:List Pt):Str:=jn ps ps.length++[10]
theorem qJ {i:Nat} (h:0<i):sep i=[32]:=if_pos h
theorem sX {i:Nat} (h:¬0<i):sep i=[]:=if_neg h
theorem gP (i:Nat):(sep i).length≤1:=by unfold sep;split<;>simp
theorem fR {k:Int} (h:oK k):(Lib.itoa k).length≤21:=by
 have hd:∀u:Nat,u<18446744073709551616→Lib.nDigits u≤20:=fun u hu=>by
  by_cases h0:1≤u
  ·have:=Lib.numDigits_eq u h0 hu
   split at this<;>omega
  rw [Lib.nDigits_small (by omega)];omega
 unfold Lib.itoa
 obtain ⟨h1,h2⟩:=h
 split
 ·rw [List.length_cons,Lib.decDigits_length];have:=hd k.natAbs (by omega);omega
 rw [Lib.decDigits_length];have:=hd k.toNat (by omega);omega
theorem aDm {p:Pt} (h:p.ok):(ptT p).length≤100:=by
 cases p with
 |w s=>exact h
 |n k=>have:=fR h;simp only [ptT];omega
 |sp a b=>have:=fR h.1;have:=fR h.2;simp only [ptT,List.length_append,List.length_cons,List.length_nil];omega
theorem fE {ps:List Pt} (h:∀p∈ps,p.ok):∀k,(jn ps k).length≤101*k
 |0=>by simp [jn]
 |k+1=>by
  have:=fE h k
  have:=gP k
  simp only [jn,List.length_append]
  cases e:ps[k]? with
  |none=>simp only [List.length_nil];omega
  |some p=>have:=aDm (h p (List.mem_of_getElem? e));simp only;omega
theorem fX {ps:List Pt} {k:Nat} {p:Pt} (l:Str) (h:ps[k]? = some p):l++jn ps k++sep k++ptT p=l++jn ps (k+1):=by
 simp only [jn,h,List.append_assoc]
theorem aFA {ps:List Pt} {k:Nat} {p:Pt} (h:ps[k]? = some p):(ps.map ptP)[k]? = some (ptP p):=by rw [List.getElem?_map,h];rfl
theorem iX:aJ Tryz.prog 137:=aJ.mk Tryz.func137 (by kernel_rfl) rfl
theorem vC:aJ Tryz.prog 96:=aJ.mk Tryz.func96 (by kernel_rfl) rfl
theorem oL {E:Env Tryz.prog} {A:E.α} (l:Str) (ps:List Pt) (h:l.length≤900000) (hps:∀p∈ps,p.ok) (hl:ps.length≤10):Gh.bD E 96 [.ref 0 0,.p (.list (ps.map ptP))] (aG [(0,.cells [.ref 0 0,.own 1 (l).length] 0),(1,.arr 5 1 (u8s (l)) false)]) A (fun y=>y = .ok (.p (.tuple [])) (aG [(0,.cells [.ref 0 0,.own 1 (l++fM ps).length] 0),(1,.arr 5 1 (u8s (l++fM ps)) false)]) A):=by
 refine spX 60 Tryz.func96 rfl ?_
 intro C hN hL
 simp only [Gh.num,List.map_cons,List.map_nil,Nat.reduceAdd]
 repeat apply aA
 apply aB
 iterate 3 refine v0 ?_
 apply aC
 refine cl [0,9,10,11] ?_
 repeat apply aA
 refine aP ?_
 repeat apply aA
 refine cJ (fun mz σ=>∃i:Nat,(i≤ps.length)∧mz=ps.length - i∧σ=(sg [(0,.ref 0 0),(9,.p (.list (ps.map ptP))),(10,.p (.int .i64 (ps.length:Nat))),(11,.p (.int .i64 (i:Nat)))] [(0,.cells [.ref 0 0,.own 1 (l++jn ps i).length] 0),(1,.arr 5 1 (u8s (l++jn ps i)) false)] A []:Sg E)) ?_ (fun mz σ hI=>?_)
 ·refine gA [0,9,10,11] ?_
  exact ⟨_,0,by omega,rfl,sgE (by simp) (by simp [jn])⟩
 obtain ⟨i,hi,hnn,rfl⟩:=hI
 repeat apply aA
 apply aB
 refine v0 ?_
 apply aC
 repeat apply aA
 refine cB (k1:=fun hb1=>?_) (k0:=fun hb1=>?_)
 ·replace hb1:=hB.h {} hb1
  repeat apply aA
  refine aQ ?_
  refine cl [0,9,10,11] ?_
  repeat apply aA
  refine aP ?_
  repeat apply aA
  obtain ⟨p,hp⟩:=fT (l:=ps) (k:=i) (by omega)
  have hpp:=aFA hp
  have hok:=hps p (List.mem_of_getElem? hp)
  rcases p with s|k|⟨a,b⟩
  ·simp only [ptP] at hpp
   have hok:s.length≤100:=hok
   repeat apply aA
   apply aB
   refine v0 ?_
   refine v1 (hc:=yO.h {}) ?_
   iterate 3 refine v0 ?_
   apply aC
   refine cl [0,4,5,9,10,11] ?_
   repeat apply aA
   apply aB
   iterate 2 refine v0 ?_
   apply aC
   repeat apply aA
   refine cB (k1:=fun hb2=>?_) (k0:=fun hb2=>?_)
   ·replace hb2:=hB.h {} hb2
    repeat apply aA
    apply aB
    iterate 3 refine v0 ?_
    refine oc0 [(0,0),(1,1)] [] [0,0] none (spec:=tP (l++jn ps i) 32 (by have:=fE hps i;rw [List.length_append];omega)) (hent:=tO) ?_
    apply aC
    refine cl [0,5,9,10,11] ?_
    repeat apply aA
    obtain ⟨z,hz⟩:∃z,z=(l++jn ps i)++sep i:=⟨_,rfl⟩
    have hzl:z.length≤901100:=by have:=fE hps i;have:=gP i;rw [hz,List.length_append,List.length_append];omega
    first|rw [show (l++jn ps i)++[32]=z by rw [hz,qJ (by omega)]]|rw [show l++jn ps i=z by rw [hz,sX (by omega),List.append_nil]]
    apply aB
    refine v0 ?_
    apply aC
    refine cl [0,9,10,11,22] ?_
    repeat apply aA
    refine aP ?_
    repeat apply aA
    apply aB
    iterate 2 refine v0 ?_
    refine rb 24 true (h:=by (rfl)) ?_
    refine v0 ?_
    apply aC
    repeat apply aA
    refine cT ?_
    repeat apply aA
    apply aB
    refine v0 ?_
    apply aC
    refine cl [0,6,9,10,11] ?_
    repeat apply aA
    apply aB
    iterate 4 refine v0 ?_
    refine oc0 [(0,0),(1,1)] [] [0,0] none (spec:=mY z s (by omega) (by omega)) (hent:=iW) ?_
    apply aC
    refine cl [0,9,10,11] ?_
    repeat apply aA
    apply aB
    refine v1 (hc:=yO.h {}) ?_
    refine v0 ?_
    apply aC
    refine dN [0,9,10,11] (h:=?_) (hV:=?_) (n':=ps.length - (i+1))
    ·omega
    exact ⟨i+1,by omega,rfl,sgE rfl (by rw [←fX l hp,←hz];rfl)⟩
   replace hb2:=hB.h {} hb2
   repeat apply aA
   refine aQ ?_
   refine cl [0,5,9,10,11] ?_
   repeat apply aA
   obtain ⟨z,hz⟩:∃z,z=(l++jn ps i)++sep i:=⟨_,rfl⟩
   have hzl:z.length≤901100:=by have:=fE hps i;have:=gP i;rw [hz,List.length_append,List.length_append];omega
   first|rw [show (l++jn ps i)++[32]=z by rw [hz,qJ (by omega)]]|rw [show l++jn ps i=z by rw [hz,sX (by omega),List.append_nil]]
   apply aB
   refine v0 ?_
   apply aC
   refine cl [0,9,10,11,22] ?_
   repeat apply aA
   refine aP ?_
   repeat apply aA
   apply aB
   iterate 2 refine v0 ?_
   refine rb 24 true (h:=by (rfl)) ?_
   refine v0 ?_
   apply aC
   repeat apply aA
   refine cT ?_
   repeat apply aA
   apply aB
   refine v0 ?_
   apply aC
   refine cl [0,6,9,10,11] ?_
   repeat apply aA
   apply aB
   iterate 4 refine v0 ?_
   refine oc0 [(0,0),(1,1)] [] [0,0] none (spec:=mY z s (by omega) (by omega)) (hent:=iW) ?_
   apply aC
   refine cl [0,9,10,11] ?_
   repeat apply aA
   apply aB
   refine v1 (hc:=yO.h {}) ?_
   refine v0 ?_
   apply aC
   refine dN [0,9,10,11] (h:=?_) (hV:=?_) (n':=ps.length - (i+1))
   ·omega
   exact ⟨i+1,by omega,rfl,sgE rfl (by rw [←fX l hp,←hz];rfl)⟩
  ·simp only [ptP] at hpp
   have hok:oK k:=by simpa only [Pt.ok] using hok
   repeat apply aA
   apply aB
   refine v0 ?_
   refine v1 (hc:=yO.h {}) ?_
   iterate 3 refine v0 ?_
   apply aC
   refine cl [0,4,5,9,10,11] ?_
   repeat apply aA
   apply aB
   iterate 2 refine v0 ?_
   apply aC
   repeat apply aA
   refine cB (k1:=fun hb3=>?_) (k0:=fun hb3=>?_)
   ·replace hb3:=hB.h {} hb3
    repeat apply aA
    apply aB
    iterate 3 refine v0 ?_
    refine oc0 [(0,0),(1,1)] [] [0,0] none (spec:=tP (l++jn ps i) 32 (by have:=fE hps i;rw [List.length_append];omega)) (hent:=tO) ?_
    apply aC
    refine cl [0,5,9,10,11] ?_
    repeat apply aA
    obtain ⟨z,hz⟩:∃z,z=(l++jn ps i)++sep i:=⟨_,rfl⟩
    have hzl:z.length≤901100:=by have:=fE hps i;have:=gP i;rw [hz,List.length_append,List.length_append];omega
    first|rw [show (l++jn ps i)++[32]=z by rw [hz,qJ (by omega)]]|rw [show l++jn ps i=z by rw [hz,sX (by omega),List.append_nil]]
    apply aB
    refine v0 ?_
    apply aC
    refine cl [0,9,10,11,22] ?_
    repeat apply aA
    refine aP ?_
    repeat apply aA
    apply aB
    iterate 2 refine v0 ?_
    refine rb 24 false (h:=by (rfl)) ?_
    refine v0 ?_
    apply aC
    repeat apply aA
    refine cF ?_
    repeat apply aA
    apply aB
    iterate 2 refine v0 ?_
    refine rb 32 true (h:=by (rfl)) ?_
    refine v0 ?_
    apply aC
    repeat apply aA
    refine cT ?_
    repeat apply aA
    apply aB
    refine v0 ?_
    apply aC
    refine cl [0,7,9,10,11] ?_
    repeat apply aA
    refine rd ?_
    refine d0 0 ?_
    refine d0 1 ?_
    refine d0 2 ?_
    refine d0 3 ?_
    refine oY 4 (spec:=iV k hok.1 hok.2) (hent:=iX) ?_
    refine dW 5 [(0,0),(1,1)] [] [0,0] none (spec:=mY z (Lib.itoa k) (by omega) (by have:=fR hok;omega)) (hent:=iW) ?_
    refine dz 6 [0,1,3,0,8,31] ?_
    refine de 6 ?_
    refine cl [0,9,10,11] ?_
    repeat apply aA
    apply aB
    refine v1 (hc:=yO.h {}) ?_
    refine v0 ?_
    apply aC
    refine dN [0,9,10,11] (h:=?_) (hV:=?_) (n':=ps.length - (i+1))
    ·omega
    exact ⟨i+1,by omega,rfl,sgE rfl (by rw [←fX l hp,←hz];rfl)⟩
   replace hb3:=hB.h {} hb3
   repeat apply aA
   refine aQ ?_
   refine cl [0,5,9,10,11] ?_
   repeat apply aA
   obtain ⟨z,hz⟩:∃z,z=(l++jn ps i)++sep i:=⟨_,rfl⟩
   have hzl:z.length≤901100:=by have:=fE hps i;have:=gP i;rw [hz,List.length_append,List.length_append];omega
   first|rw [show (l++jn ps i)++[32]=z by rw [hz,qJ (by omega)]]|rw [show l++jn ps i=z by rw [hz,sX (by omega),List.append_nil]]
   apply aB
   refine v0 ?_
   apply aC
   refine cl [0,9,10,11,22] ?_
   repeat apply aA
   refine aP ?_
   repeat apply aA
   apply aB
   iterate 2 refine v0 ?_
   refine rb 24 false (h:=by (rfl)) ?_
   refine v0 ?_
   apply aC
   repeat apply aA
   refine cF ?_
   repeat apply aA
   apply aB
   iterate 2 refine v0 ?_
   refine rb 32 true (h:=by (rfl)) ?_
   refine v0 ?_
   apply aC
   repeat apply aA
   refine cT ?_
   repeat apply aA
   apply aB
   refine v0 ?_
   apply aC
   refine cl [0,7,9,10,11] ?_
   repeat apply aA
   refine rd ?_
   refine d0 0 ?_
   refine d0 1 ?_
   refine d0 2 ?_
   refine d0 3 ?_
   refine oY 4 (spec:=iV k hok.1 hok.2) (hent:=iX) ?_
   refine dW 5 [(0,0),(1,1)] [] [0,0] none (spec:=mY z (Lib.itoa k) (by omega) (by have:=fR hok;omega)) (hent:=iW) ?_
   refine dz 6 [0,1,3,0,8,31] ?_
   refine de 6 ?_
   refine cl [0,9,10,11] ?_
   repeat apply aA
   apply aB
   refine v1 (hc:=yO.h {}) ?_
   refine v0 ?_
   apply aC
   refine dN [0,9,10,11] (h:=?_) (hV:=?_) (n':=ps.length - (i+1))
   ·omega
   exact ⟨i+1,by omega,rfl,sgE rfl (by rw [←fX l hp,←hz];rfl)⟩
  simp only [ptP] at hpp
  have hok:oK a∧oK b:=by simpa only [Pt.ok] using hok
  have hia:=fR hok.1
  have hib:=fR hok.2
  repeat apply aA
  apply aB
  refine v0 ?_
  refine v1 (hc:=yO.h {}) ?_
  iterate 3 refine v0 ?_
  apply aC
  refine cl [0,4,5,9,10,11] ?_
  repeat apply aA
  apply aB
  iterate 2 refine v0 ?_
  apply aC
  repeat apply aA
  refine cB (k1:=fun hb4=>?_) (k0:=fun hb4=>?_)
  ·replace hb4:=hB.h {} hb4
   repeat apply aA
   apply aB
   iterate 3 refine v0 ?_
   refine oc0 [(0,0),(1,1)] [] [0,0] none (spec:=tP (l++jn ps i) 32 (by have:=fE hps i;rw [List.length_append];omega)) (hent:=tO) ?_
   apply aC
   refine cl [0,5,9,10,11] ?_
   repeat apply aA
   obtain ⟨z,hz⟩:∃z,z=(l++jn ps i)++sep i:=⟨_,rfl⟩
   have hzl:z.length≤901100:=by have:=fE hps i;have:=gP i;rw [hz,List.length_append,List.length_append];omega
   first|rw [show (l++jn ps i)++[32]=z by rw [hz,qJ (by omega)]]|rw [show l++jn ps i=z by rw [hz,sX (by omega),List.append_nil]]
   apply aB
   refine v0 ?_
   apply aC
   refine cl [0,9,10,11,22] ?_
   repeat apply aA
   refine aP ?_
   repeat apply aA
   apply aB
   iterate 2 refine v0 ?_
   refine rb 24 false (h:=by (rfl)) ?_
   refine v0 ?_
   apply aC
   repeat apply aA
   refine cF ?_
   repeat apply aA
   apply aB
   iterate 2 refine v0 ?_
   refine rb 32 false (h:=by (rfl)) ?_
   refine v0 ?_
   apply aC
   repeat apply aA
   refine cF ?_
   repeat apply aA
   apply aB
   iterate 2 refine v0 ?_
   refine rb 41 true (h:=by (rfl)) ?_
   refine v0 ?_
   apply aC
   repeat apply aA
   refine cT ?_
   repeat apply aA
   apply aB
   refine n1 180 false (hc:=yO.h {}) ?_
   refine s1 (hc:=yO.h {}) ?_
   apply aC
   refine cl [0,8,9,10,11] ?_
   repeat apply aA
   refine rd ?_
   refine d0 0 ?_
   refine d0 1 ?_
   refine d0 2 ?_
   refine d0 3 ?_
   refine d0 4 ?_
   refine oY 5 (spec:=iV a hok.1.1 hok.1.2) (hent:=iX) ?_
   refine d1 6 (hc:=by (omega)) ?_
   refine d0 7 ?_
   refine d0 8 ?_
   refine oY 9 (spec:=iV b hok.2.1 hok.2.2) (hent:=iX) ?_
   refine d1 10 (hc:=by (simp only [List.length_append,List.length_cons,List.length_nil];omega)) ?_
   refine dW 11 [(0,0),(1,1)] [] [0,0] none (spec:=mY z (Lib.itoa a++[44]++Lib.itoa b) (by omega) (by have:=aDm (p:=.sp a b) hok;simp only [ptT] at this;omega)) (hent:=iW) ?_
   refine dz 12 [0,1,3,0,8,24,56,0,128,440,1016,2047] ?_
   refine de 12 ?_
   refine cl [0,9,10,11] ?_
   repeat apply aA
   apply aB
   refine v1 (hc:=yO.h {}) ?_
   refine v0 ?_
   apply aC
   refine dN [0,9,10,11] (h:=?_) (hV:=?_) (n':=ps.length - (i+1))
   ·omega
   exact ⟨i+1,by omega,rfl,sgE rfl (by rw [←fX l hp,←hz];rfl)⟩
  replace hb4:=hB.h {} hb4
  repeat apply aA
  refine aQ ?_
  refine cl [0,5,9,10,11] ?_
  repeat apply aA
  obtain ⟨z,hz⟩:∃z,z=(l++jn ps i)++sep i:=⟨_,rfl⟩
  have hzl:z.length≤901100:=by have:=fE hps i;have:=gP i;rw [hz,List.length_append,List.length_append];omega
  first|rw [show (l++jn ps i)++[32]=z by rw [hz,qJ (by omega)]]|rw [show l++jn ps i=z by rw [hz,sX (by omega),List.append_nil]]
  apply aB
  refine v0 ?_
  apply aC
  refine cl [0,9,10,11,22] ?_
  repeat apply aA
  refine aP ?_
  repeat apply aA
  apply aB
  iterate 2 refine v0 ?_
  refine rb 24 false (h:=by (rfl)) ?_
  refine v0 ?_
  apply aC
  repeat apply aA
  refine cF ?_
  repeat apply aA
  apply aB
  iterate 2 refine v0 ?_
  refine rb 32 false (h:=by (rfl)) ?_
  refine v0 ?_
  apply aC
  repeat apply aA
  refine cF ?_
  repeat apply aA
  apply aB
  iterate 2 refine v0 ?_
  refine rb 41 true (h:=by (rfl)) ?_
  refine v0 ?_
  apply aC
  repeat apply aA
  refine cT ?_
  repeat apply aA
  apply aB
  refine n1 180 false (hc:=yO.h {}) ?_
  refine s1 (hc:=yO.h {}) ?_
  apply aC
  refine cl [0,8,9,10,11] ?_
  repeat apply aA
  refine rd ?_
  refine d0 0 ?_
  refine d0 1 ?_
  refine d0 2 ?_
  refine d0 3 ?_
  refine d0 4 ?_
  refine oY 5 (spec:=iV a hok.1.1 hok.1.2) (hent:=iX) ?_
  refine d1 6 (hc:=by (omega)) ?_
  refine d0 7 ?_
  refine d0 8 ?_
  refine oY 9 (spec:=iV b hok.2.1 hok.2.2) (hent:=iX) ?_
  refine d1 10 (hc:=by (simp only [List.length_append,List.length_cons,List.length_nil];omega)) ?_
  refine dW 11 [(0,0),(1,1)] [] [0,0] none (spec:=mY z (Lib.itoa a++[44]++Lib.itoa b) (by omega) (by have:=aDm (p:=.sp a b) hok;simp only [ptT] at this;omega)) (hent:=iW) ?_
  refine dz 12 [0,1,3,0,8,24,56,0,128,440,1016,2047] ?_
  refine de 12 ?_
  refine cl [0,9,10,11] ?_
  repeat apply aA
  apply aB
  refine v1 (hc:=yO.h {}) ?_
  refine v0 ?_
  apply aC
  refine dN [0,9,10,11] (h:=?_) (hV:=?_) (n':=ps.length - (i+1))
  ·omega
  exact ⟨i+1,by omega,rfl,sgE rfl (by rw [←fX l hp,←hz];rfl)⟩
 replace hb1:=hB.h {} hb1
 repeat apply aA
 refine bY ?_
 repeat (first|refine bI ?_|refine aY ?_|refine bC ?_|refine bJ rfl ?_)
 refine cl [0] ?_
 repeat apply aA
 obtain rfl:i=ps.length:=by omega
 apply aB
 iterate 3 refine v0 ?_
 refine oc0 [(0,0),(1,1)] [] [0,0] none (spec:=tP (l++jn ps ps.length) 10 (by have:=fE hps ps.length;rw [List.length_append];omega)) (hent:=tO) ?_
 apply aC
 try refine bP ?_
 refine cW ?_
 refine fh0 [0,1] ?_
 rw [fM,←List.append_assoc]
end
section
open Go.Gh
structure pS (c:Prop):Prop where
 h:c:=by (first|exact True.intro|omega|(simp [P.size]<;>first|omega|(intro a _;cases a<;>rfl))|(simp [P.size];exact ⟨by omega,fun a _=>by cases a<;>rfl⟩)|omega|(simp only [inI];omega)|(simp [P.size,bU,bG,bR,bB,cS,good,G.one,P.one,P.cells]<;>first|omega|assumption|simp_all))
def hF (ps:List Pt) (i:Nat):List (Nat×Ob):=if i=0 then [(0,.tcells 158 [.p .nilptr,.nils])] else [(0,.cells [.ref 0 0,.own 3000 (jn ps i).length] 0),(3000,.arr 5 1 (u8s (jn ps i)) false)]
theorem rB {ps:List Pt} {i:Nat} (h:0<i):hF ps i=[(0,.cells [.ref 0 0,.own 3000 (jn ps i).length] 0),(3000,.arr 5 1 (u8s (jn ps i)) false)]:=if_neg (by omega)
theorem aPF {ps:List Pt}:hF ps 0=[(0,.tcells 158 [.p .nilptr,.nils])]:=rfl
theorem aDn {ps:List Pt} {p:Pt} (h:ps[0]? = some p):jn ps 1=ptT p:=by simp [jn,h,sep]
theorem aBl {E:Env Tryz.prog} {A:E.α} (ps:List Pt) (h0:0<ps.length) (hps:∀p∈ps,p.ok) (hl:ps.length≤10):Gh.bD E 96 [.ref 0 0,.p (.list (ps.map ptP))] (aG [(0,.tcells 158 [.p .nilptr,.nils])]) A (fun y=>y = .ok (.p (.tuple [])) (aG [(0,.cells [.ref 0 0,.own 3000 (fM ps).length] 0),(3000,.arr 5 1 (u8s (fM ps)) false)]) A):=by
 refine spX 60 Tryz.func96 rfl ?_
 intro C hN hL
 simp only [Gh.num,List.map_cons,List.map_nil,Nat.reduceAdd]
 repeat apply aA
 apply aB
 iterate 3 refine v0 ?_
 apply aC
 refine cl [0,9,10,11] ?_
 repeat apply aA
 refine aP ?_
 repeat apply aA
 refine cJ (fun mz σ=>∃i:Nat,(i≤ps.length)∧mz=ps.length - i∧σ=(sg [(0,.ref 0 0),(9,.p (.list (ps.map ptP))),(10,.p (.int .i64 (ps.length:Nat))),(11,.p (.int .i64 (i:Nat)))] (hF ps i) A []:Sg E)) ?_ (fun mz σ hI=>?_)
 ·refine gA [0,9,10,11] ?_
  exact ⟨_,0,by omega,rfl,sgE (by simp) rfl⟩
 obtain ⟨i,hi,hnn,rfl⟩:=hI
 repeat apply aA
 rcases Nat.eq_zero_or_pos i with hi0|hi0
 ·subst hi0
  rw [aPF]
  repeat apply aA
  apply aB
  refine v0 ?_
  refine rb 12 true (h:=by (exact decide_eq_true (by omega))) ?_
  apply aC
  repeat apply aA
  refine cT ?_
  repeat apply aA
  refine aQ ?_
  refine cl [0,9,10,11] ?_
  repeat apply aA
  refine aP ?_
  repeat apply aA
  obtain ⟨p,hp⟩:=fT (l:=ps) (k:=0) (by omega)
  have hpp:=aFA hp
  have hok:=hps p (List.mem_of_getElem? hp)
  rcases p with s|k|⟨a,b⟩
  ·simp only [ptP] at hpp
   have hok:s.length≤100:=hok
   repeat apply aA
   apply aB
   refine v0 ?_
   refine v1 (hc:=pS.h {}) ?_
   iterate 3 refine v0 ?_
   apply aC
   refine cl [0,4,5,9,10,11] ?_
   repeat apply aA
   apply aB
   iterate 2 refine v0 ?_
   refine rb 17 false (h:=by (rfl)) ?_
   apply aC
   repeat apply aA
   refine cF ?_
   repeat apply aA
   refine aQ ?_
   refine cl [0,5,9,10,11] ?_
   repeat apply aA
   apply aB
   refine v0 ?_
   apply aC
   refine cl [0,9,10,11,22] ?_
   repeat apply aA
   refine aP ?_
   repeat apply aA
   apply aB
   iterate 2 refine v0 ?_
   refine rb 24 true (h:=by (rfl)) ?_
   refine v0 ?_
   apply aC
   repeat apply aA
   refine cT ?_
   repeat apply aA
   apply aB
   refine v0 ?_
   apply aC
   refine cl [0,6,9,10,11] ?_
   repeat apply aA
   apply aB
   iterate 4 refine v0 ?_
   refine oc0 [(0,0),(240,3000)] [] [0,0] none (spec:=aFy s (by omega)) (hent:=iW) ?_
   apply aC
   refine cl [0,9,10,11] ?_
   repeat apply aA
   apply aB
   refine v1 (hc:=pS.h {}) ?_
   refine v0 ?_
   apply aC
   refine dN [0,9,10,11] (h:=?_) (hV:=?_) (n':=mz - 1)
   ·omega
   first
   |exact ⟨0+1,by omega,by omega,sgE rfl (by rw [rB (by omega),Nat.zero_add,aDn hp];rfl)⟩
   |exact ⟨i+1,by omega,by omega,sgE rfl (by rw [rB (by omega),←List.nil_append (jn ps (i+1)),←fX [] hp,List.nil_append,←hz];rfl)⟩
  ·simp only [ptP] at hpp
   have hok:oK k:=by simpa only [Pt.ok] using hok
   have hik:=fR hok
   repeat apply aA
   apply aB
   refine v0 ?_
   refine v1 (hc:=pS.h {}) ?_
   iterate 3 refine v0 ?_
   apply aC
   refine cl [0,4,5,9,10,11] ?_
   repeat apply aA
   apply aB
   iterate 2 refine v0 ?_
   refine rb 17 false (h:=by (rfl)) ?_
   apply aC
   repeat apply aA
   refine cF ?_
   repeat apply aA
   refine aQ ?_
   refine cl [0,5,9,10,11] ?_
   repeat apply aA
   apply aB
   refine v0 ?_
   apply aC
   refine cl [0,9,10,11,22] ?_
   repeat apply aA
   refine aP ?_
   repeat apply aA
   apply aB
   iterate 2 refine v0 ?_
   refine rb 24 false (h:=by (rfl)) ?_
   refine v0 ?_
   apply aC
   repeat apply aA
   refine cF ?_
   repeat apply aA
   apply aB
   iterate 2 refine v0 ?_
   refine rb 32 true (h:=by (rfl)) ?_
   refine v0 ?_
   apply aC
   repeat apply aA
   refine cT ?_
   repeat apply aA
   apply aB
   refine v0 ?_
   apply aC
   refine cl [0,7,9,10,11] ?_
   repeat apply aA
   refine rd ?_
   refine d0 0 ?_
   refine d0 1 ?_
   refine d0 2 ?_
   refine d0 3 ?_
   refine oY 4 (spec:=iV k hok.1 hok.2) (hent:=iX) ?_
   refine dW 5 [(0,0),(240,3000)] [] [0,0] none (spec:=aFy (Lib.itoa k) (by omega)) (hent:=iW) ?_
   refine dz 6 [0,1,3,0,8,31] ?_
   refine de 6 ?_
   refine cl [0,9,10,11] ?_
   repeat apply aA
   apply aB
   refine v1 (hc:=pS.h {}) ?_
   refine v0 ?_
   apply aC
   refine dN [0,9,10,11] (h:=?_) (hV:=?_) (n':=mz - 1)
   ·omega
   first
   |exact ⟨0+1,by omega,by omega,sgE rfl (by rw [rB (by omega),Nat.zero_add,aDn hp];rfl)⟩
   |exact ⟨i+1,by omega,by omega,sgE rfl (by rw [rB (by omega),←List.nil_append (jn ps (i+1)),←fX [] hp,List.nil_append,←hz];rfl)⟩
  simp only [ptP] at hpp
  have hok:oK a∧oK b:=by simpa only [Pt.ok] using hok
  have hia:=fR hok.1
  have hib:=fR hok.2
  have hiab:(Lib.itoa a++[44]++Lib.itoa b).length≤100:=by simp only [List.length_append,List.length_cons,List.length_nil];omega
  repeat apply aA
  apply aB
  refine v0 ?_
  refine v1 (hc:=pS.h {}) ?_
  iterate 3 refine v0 ?_
  apply aC
  refine cl [0,4,5,9,10,11] ?_
  repeat apply aA
  apply aB
  iterate 2 refine v0 ?_
  refine rb 17 false (h:=by (rfl)) ?_
  apply aC
  repeat apply aA
  refine cF ?_
  repeat apply aA
  refine aQ ?_
  refine cl [0,5,9,10,11] ?_
  repeat apply aA
  apply aB
  refine v0 ?_
  apply aC
  refine cl [0,9,10,11,22] ?_
  repeat apply aA
  refine aP ?_
  repeat apply aA
  apply aB
  iterate 2 refine v0 ?_
  refine rb 24 false (h:=by (rfl)) ?_
  refine v0 ?_
  apply aC
  repeat apply aA
  refine cF ?_
  repeat apply aA
  apply aB
  iterate 2 refine v0 ?_
  refine rb 32 false (h:=by (rfl)) ?_
  refine v0 ?_
  apply aC
  repeat apply aA
  refine cF ?_
  repeat apply aA
  apply aB
  iterate 2 refine v0 ?_
  refine rb 41 true (h:=by (rfl)) ?_
  refine v0 ?_
  apply aC
  repeat apply aA
  refine cT ?_
  repeat apply aA
  apply aB
  refine n1 180 false (hc:=pS.h {}) ?_
  refine s1 (hc:=pS.h {}) ?_
  apply aC
  refine cl [0,8,9,10,11] ?_
  repeat apply aA
  refine rd ?_
  refine d0 0 ?_
  refine d0 1 ?_
  refine d0 2 ?_
  refine d0 3 ?_
  refine d0 4 ?_
  refine oY 5 (spec:=iV a hok.1.1 hok.1.2) (hent:=iX) ?_
  refine d1 6 (hc:=by (omega)) ?_
  refine d0 7 ?_
  refine d0 8 ?_
  refine oY 9 (spec:=iV b hok.2.1 hok.2.2) (hent:=iX) ?_
  refine d1 10 (hc:=by (simp only [List.length_append,List.length_cons,List.length_nil];omega)) ?_
  refine dW 11 [(0,0),(240,3000)] [] [0,0] none (spec:=aFy (Lib.itoa a++[44]++Lib.itoa b) (by omega)) (hent:=iW) ?_
  refine dz 12 [0,1,3,0,8,24,56,0,128,440,1016,2047] ?_
  refine de 12 ?_
  refine cl [0,9,10,11] ?_
  repeat apply aA
  apply aB
  refine v1 (hc:=pS.h {}) ?_
  refine v0 ?_
  apply aC
  refine dN [0,9,10,11] (h:=?_) (hV:=?_) (n':=mz - 1)
  ·omega
  first
  |exact ⟨0+1,by omega,by omega,sgE rfl (by rw [rB (by omega),Nat.zero_add,aDn hp];rfl)⟩
  |exact ⟨i+1,by omega,by omega,sgE rfl (by rw [rB (by omega),←List.nil_append (jn ps (i+1)),←fX [] hp,List.nil_append,←hz];rfl)⟩
 rw [rB hi0]
 repeat apply aA
 apply aB
 refine v0 ?_
 apply aC
 repeat apply aA
 refine cB (k1:=fun hb1=>?_) (k0:=fun hb1=>?_)
 ·replace hb1:=hB.h {} hb1
  repeat apply aA
  refine aQ ?_
  refine cl [0,9,10,11] ?_
  repeat apply aA
  refine aP ?_
  repeat apply aA
  obtain ⟨p,hp⟩:=fT (l:=ps) (k:=i) (by omega)
  have hpp:=aFA hp
  have hok:=hps p (List.mem_of_getElem? hp)
  rcases p with s|k|⟨a,b⟩
  ·simp only [ptP] at hpp
   have hok:s.length≤100:=hok
   repeat apply aA
   apply aB
   refine v0 ?_
   refine v1 (hc:=pS.h {}) ?_
   iterate 3 refine v0 ?_
   apply aC
   refine cl [0,4,5,9,10,11] ?_
   repeat apply aA
   apply aB
   iterate 2 refine v0 ?_
   apply aC
   repeat apply aA
   refine cB (k1:=fun hb2=>?_) (k0:=fun hb2=>?_)
   ·replace hb2:=hB.h {} hb2
    repeat apply aA
    apply aB
    iterate 3 refine v0 ?_
    refine oc0 [(0,0),(1,3000)] [] [0,0] none (spec:=tP (jn ps i) 32 (by have:=fE hps i;omega)) (hent:=tO) ?_
    apply aC
    refine cl [0,5,9,10,11] ?_
    repeat apply aA
    obtain ⟨z,hz⟩:∃z,z=jn ps i++sep i:=⟨_,rfl⟩
    have hzl:z.length≤901100:=by have:=fE hps i;have:=gP i;rw [hz,List.length_append];omega
    first|rw [show jn ps i++[32]=z by rw [hz,qJ (by omega)]]|rw [show jn ps i=z by rw [hz,sX (by omega),List.append_nil]]
    apply aB
    refine v0 ?_
    apply aC
    refine cl [0,9,10,11,22] ?_
    repeat apply aA
    refine aP ?_
    repeat apply aA
    apply aB
    iterate 2 refine v0 ?_
    refine rb 24 true (h:=by (rfl)) ?_
    refine v0 ?_
    apply aC
    repeat apply aA
    refine cT ?_
    repeat apply aA
    apply aB
    refine v0 ?_
    apply aC
    refine cl [0,6,9,10,11] ?_
    repeat apply aA
    apply aB
    iterate 4 refine v0 ?_
    refine oc0 [(0,0),(1,3000)] [] [0,0] none (spec:=mY z s (by omega) (by omega)) (hent:=iW) ?_
    apply aC
    refine cl [0,9,10,11] ?_
    repeat apply aA
    apply aB
    refine v1 (hc:=pS.h {}) ?_
    refine v0 ?_
    apply aC
    refine dN [0,9,10,11] (h:=?_) (hV:=?_) (n':=mz - 1)
    ·omega
    first
    |exact ⟨0+1,by omega,by omega,sgE rfl (by rw [rB (by omega),Nat.zero_add,aDn hp];rfl)⟩
    |exact ⟨i+1,by omega,by omega,sgE rfl (by rw [rB (by omega),←List.nil_append (jn ps (i+1)),←fX [] hp,List.nil_append,←hz];rfl)⟩
   replace hb2:=hB.h {} hb2
   repeat apply aA
   refine aQ ?_
   refine cl [0,5,9,10,11] ?_
   repeat apply aA
   obtain ⟨z,hz⟩:∃z,z=jn ps i++sep i:=⟨_,rfl⟩
   have hzl:z.length≤901100:=by have:=fE hps i;have:=gP i;rw [hz,List.length_append];omega
   first|rw [show jn ps i++[32]=z by rw [hz,qJ (by omega)]]|rw [show jn ps i=z by rw [hz,sX (by omega),List.append_nil]]
   apply aB
   refine v0 ?_
   apply aC
   refine cl [0,9,10,11,22] ?_
   repeat apply aA
   refine aP ?_
   repeat apply aA
   apply aB
   iterate 2 refine v0 ?_
   refine rb 24 true (h:=by (rfl)) ?_
   refine v0 ?_
   apply aC
   repeat apply aA
   refine cT ?_
   repeat apply aA
   apply aB
   refine v0 ?_
   apply aC
   refine cl [0,6,9,10,11] ?_
   repeat apply aA
   apply aB
   iterate 4 refine v0 ?_
   refine oc0 [(0,0),(1,3000)] [] [0,0] none (spec:=mY z s (by omega) (by omega)) (hent:=iW) ?_
   apply aC
   refine cl [0,9,10,11] ?_
   repeat apply aA
   apply aB
   refine v1 (hc:=pS.h {}) ?_
   refine v0 ?_
   apply aC
   refine dN [0,9,10,11] (h:=?_) (hV:=?_) (n':=mz - 1)
   ·omega
   first
   |exact ⟨0+1,by omega,by omega,sgE rfl (by rw [rB (by omega),Nat.zero_add,aDn hp];rfl)⟩
   |exact ⟨i+1,by omega,by omega,sgE rfl (by rw [rB (by omega),←List.nil_append (jn ps (i+1)),←fX [] hp,List.nil_append,←hz];rfl)⟩
  ·simp only [ptP] at hpp
   have hok:oK k:=by simpa only [Pt.ok] using hok
   have hik:=fR hok
   repeat apply aA
   apply aB
   refine v0 ?_
   refine v1 (hc:=pS.h {}) ?_
   iterate 3 refine v0 ?_
   apply aC
   refine cl [0,4,5,9,10,11] ?_
   repeat apply aA
   apply aB
   iterate 2 refine v0 ?_
   apply aC
   repeat apply aA
   refine cB (k1:=fun hb3=>?_) (k0:=fun hb3=>?_)
   ·replace hb3:=hB.h {} hb3
    repeat apply aA
    apply aB
    iterate 3 refine v0 ?_
    refine oc0 [(0,0),(1,3000)] [] [0,0] none (spec:=tP (jn ps i) 32 (by have:=fE hps i;omega)) (hent:=tO) ?_
    apply aC
    refine cl [0,5,9,10,11] ?_
    repeat apply aA
    obtain ⟨z,hz⟩:∃z,z=jn ps i++sep i:=⟨_,rfl⟩
    have hzl:z.length≤901100:=by have:=fE hps i;have:=gP i;rw [hz,List.length_append];omega
    first|rw [show jn ps i++[32]=z by rw [hz,qJ (by omega)]]|rw [show jn ps i=z by rw [hz,sX (by omega),List.append_nil]]
    apply aB
    refine v0 ?_
    apply aC
    refine cl [0,9,10,11,22] ?_
    repeat apply aA
    refine aP ?_
    repeat apply aA
    apply aB
    iterate 2 refine v0 ?_
    refine rb 24 false (h:=by (rfl)) ?_
    refine v0 ?_
    apply aC
    repeat apply aA
    refine cF ?_
    repeat apply aA
    apply aB
    iterate 2 refine v0 ?_
    refine rb 32 true (h:=by (rfl)) ?_
    refine v0 ?_
    apply aC
    repeat apply aA
    refine cT ?_
    repeat apply aA
    apply aB
    refine v0 ?_
    apply aC
    refine cl [0,7,9,10,11] ?_
    repeat apply aA
    refine rd ?_
    refine d0 0 ?_
    refine d0 1 ?_
    refine d0 2 ?_
    refine d0 3 ?_
    refine oY 4 (spec:=iV k hok.1 hok.2) (hent:=iX) ?_
    refine dW 5 [(0,0),(1,3000)] [] [0,0] none (spec:=mY z (Lib.itoa k) (by omega) (by omega)) (hent:=iW) ?_
    refine dz 6 [0,1,3,0,8,31] ?_
    refine de 6 ?_
    refine cl [0,9,10,11] ?_
    repeat apply aA
    apply aB
    refine v1 (hc:=pS.h {}) ?_
    refine v0 ?_
    apply aC
    refine dN [0,9,10,11] (h:=?_) (hV:=?_) (n':=mz - 1)
    ·omega
    first
    |exact ⟨0+1,by omega,by omega,sgE rfl (by rw [rB (by omega),Nat.zero_add,aDn hp];rfl)⟩
    |exact ⟨i+1,by omega,by omega,sgE rfl (by rw [rB (by omega),←List.nil_append (jn ps (i+1)),←fX [] hp,List.nil_append,←hz];rfl)⟩
   replace hb3:=hB.h {} hb3
   repeat apply aA
   refine aQ ?_
   refine cl [0,5,9,10,11] ?_
   repeat apply aA
   obtain ⟨z,hz⟩:∃z,z=jn ps i++sep i:=⟨_,rfl⟩
   have hzl:z.length≤901100:=by have:=fE hps i;have:=gP i;rw [hz,List.length_append];omega
   first|rw [show jn ps i++[32]=z by rw [hz,qJ (by omega)]]|rw [show jn ps i=z by rw [hz,sX (by omega),List.append_nil]]
   apply aB
   refine v0 ?_
   apply aC
   refine cl [0,9,10,11,22] ?_
   repeat apply aA
   refine aP ?_
   repeat apply aA
   apply aB
   iterate 2 refine v0 ?_
   refine rb 24 false (h:=by (rfl)) ?_
   refine v0 ?_
   apply aC
   repeat apply aA
   refine cF ?_
   repeat apply aA
   apply aB
   iterate 2 refine v0 ?_
   refine rb 32 true (h:=by (rfl)) ?_
   refine v0 ?_
   apply aC
   repeat apply aA
   refine cT ?_
   repeat apply aA
   apply aB
   refine v0 ?_
   apply aC
   refine cl [0,7,9,10,11] ?_
   repeat apply aA
   refine rd ?_
   refine d0 0 ?_
   refine d0 1 ?_
   refine d0 2 ?_
   refine d0 3 ?_
   refine oY 4 (spec:=iV k hok.1 hok.2) (hent:=iX) ?_
   refine dW 5 [(0,0),(1,3000)] [] [0,0] none (spec:=mY z (Lib.itoa k) (by omega) (by omega)) (hent:=iW) ?_
   refine dz 6 [0,1,3,0,8,31] ?_
   refine de 6 ?_
   refine cl [0,9,10,11] ?_
   repeat apply aA
   apply aB
   refine v1 (hc:=pS.h {}) ?_
   refine v0 ?_
   apply aC
   refine dN [0,9,10,11] (h:=?_) (hV:=?_) (n':=mz - 1)
   ·omega
   first
   |exact ⟨0+1,by omega,by omega,sgE rfl (by rw [rB (by omega),Nat.zero_add,aDn hp];rfl)⟩
   |exact ⟨i+1,by omega,by omega,sgE rfl (by rw [rB (by omega),←List.nil_append (jn ps (i+1)),←fX [] hp,List.nil_append,←hz];rfl)⟩
  simp only [ptP] at hpp
  have hok:oK a∧oK b:=by simpa only [Pt.ok] using hok
  have hia:=fR hok.1
  have hib:=fR hok.2
  have hiab:(Lib.itoa a++[44]++Lib.itoa b).length≤100:=by simp only [List.length_append,List.length_cons,List.length_nil];omega
  repeat apply aA
  apply aB
  refine v0 ?_
  refine v1 (hc:=pS.h {}) ?_
  iterate 3 refine v0 ?_
  apply aC
  refine cl [0,4,5,9,10,11] ?_
  repeat apply aA
  apply aB
  iterate 2 refine v0 ?_
  apply aC
  repeat apply aA
  refine cB (k1:=fun hb4=>?_) (k0:=fun hb4=>?_)
  ·replace hb4:=hB.h {} hb4
   repeat apply aA
   apply aB
   iterate 3 refine v0 ?_
   refine oc0 [(0,0),(1,3000)] [] [0,0] none (spec:=tP (jn ps i) 32 (by have:=fE hps i;omega)) (hent:=tO) ?_
   apply aC
   refine cl [0,5,9,10,11] ?_
   repeat apply aA
   obtain ⟨z,hz⟩:∃z,z=jn ps i++sep i:=⟨_,rfl⟩
   have hzl:z.length≤901100:=by have:=fE hps i;have:=gP i;rw [hz,List.length_append];omega
   first|rw [show jn ps i++[32]=z by rw [hz,qJ (by omega)]]|rw [show jn ps i=z by rw [hz,sX (by omega),List.append_nil]]
   apply aB
   refine v0 ?_
   apply aC
   refine cl [0,9,10,11,22] ?_
   repeat apply aA
   refine aP ?_
   repeat apply aA
   apply aB
   iterate 2 refine v0 ?_
   refine rb 24 false (h:=by (rfl)) ?_
   refine v0 ?_
   apply aC
   repeat apply aA
   refine cF ?_
   repeat apply aA
   apply aB
   iterate 2 refine v0 ?_
   refine rb 32 false (h:=by (rfl)) ?_
   refine v0 ?_
   apply aC
   repeat apply aA
   refine cF ?_
   repeat apply aA
   apply aB
   iterate 2 refine v0 ?_
   refine rb 41 true (h:=by (rfl)) ?_
   refine v0 ?_
   apply aC
   repeat apply aA
   refine cT ?_
   repeat apply aA
   apply aB
   refine n1 180 false (hc:=pS.h {}) ?_
   refine s1 (hc:=pS.h {}) ?_
   apply aC
   refine cl [0,8,9,10,11] ?_
   repeat apply aA
   refine rd ?_
   refine d0 0 ?_
   refine d0 1 ?_
   refine d0 2 ?_
   refine d0 3 ?_
   refine d0 4 ?_
   refine oY 5 (spec:=iV a hok.1.1 hok.1.2) (hent:=iX) ?_
   refine d1 6 (hc:=by (omega)) ?_
   refine d0 7 ?_
   refine d0 8 ?_
   refine oY 9 (spec:=iV b hok.2.1 hok.2.2) (hent:=iX) ?_
   refine d1 10 (hc:=by (simp only [List.length_append,List.length_cons,List.length_nil];omega)) ?_
   refine dW 11 [(0,0),(1,3000)] [] [0,0] none (spec:=mY z (Lib.itoa a++[44]++Lib.itoa b) (by omega) (by omega)) (hent:=iW) ?_
   refine dz 12 [0,1,3,0,8,24,56,0,128,440,1016,2047] ?_
   refine de 12 ?_
   refine cl [0,9,10,11] ?_
   repeat apply aA
   apply aB
   refine v1 (hc:=pS.h {}) ?_
   refine v0 ?_
   apply aC
   refine dN [0,9,10,11] (h:=?_) (hV:=?_) (n':=mz - 1)
   ·omega
   first
   |exact ⟨0+1,by omega,by omega,sgE rfl (by rw [rB (by omega),Nat.zero_add,aDn hp];rfl)⟩
   |exact ⟨i+1,by omega,by omega,sgE rfl (by rw [rB (by omega),←List.nil_append (jn ps (i+1)),←fX [] hp,List.nil_append,←hz];rfl)⟩
  replace hb4:=hB.h {} hb4
  repeat apply aA
  refine aQ ?_
  refine cl [0,5,9,10,11] ?_
  repeat apply aA
  obtain ⟨z,hz⟩:∃z,z=jn ps i++sep i:=⟨_,rfl⟩
  have hzl:z.length≤901100:=by have:=fE hps i;have:=gP i;rw [hz,List.length_append];omega
  first|rw [show jn ps i++[32]=z by rw [hz,qJ (by omega)]]|rw [show jn ps i=z by rw [hz,sX (by omega),List.append_nil]]
  apply aB
  refine v0 ?_
  apply aC
  refine cl [0,9,10,11,22] ?_
  repeat apply aA
  refine aP ?_
  repeat apply aA
  apply aB
  iterate 2 refine v0 ?_
  refine rb 24 false (h:=by (rfl)) ?_
  refine v0 ?_
  apply aC
  repeat apply aA
  refine cF ?_
  repeat apply aA
  apply aB
  iterate 2 refine v0 ?_
  refine rb 32 false (h:=by (rfl)) ?_
  refine v0 ?_
  apply aC
  repeat apply aA
  refine cF ?_
  repeat apply aA
  apply aB
  iterate 2 refine v0 ?_
  refine rb 41 true (h:=by (rfl)) ?_
  refine v0 ?_
  apply aC
  repeat apply aA
  refine cT ?_
  repeat apply aA
  apply aB
  refine n1 180 false (hc:=pS.h {}) ?_
  refine s1 (hc:=pS.h {}) ?_
  apply aC
  refine cl [0,8,9,10,11] ?_
  repeat apply aA
  refine rd ?_
  refine d0 0 ?_
  refine d0 1 ?_
  refine d0 2 ?_
  refine d0 3 ?_
  refine d0 4 ?_
  refine oY 5 (spec:=iV a hok.1.1 hok.1.2) (hent:=iX) ?_
  refine d1 6 (hc:=by (omega)) ?_
  refine d0 7 ?_
  refine d0 8 ?_
  refine oY 9 (spec:=iV b hok.2.1 hok.2.2) (hent:=iX) ?_
  refine d1 10 (hc:=by (simp only [List.length_append,List.length_cons,List.length_nil];omega)) ?_
  refine dW 11 [(0,0),(1,3000)] [] [0,0] none (spec:=mY z (Lib.itoa a++[44]++Lib.itoa b) (by omega) (by omega)) (hent:=iW) ?_
  refine dz 12 [0,1,3,0,8,24,56,0,128,440,1016,2047] ?_
  refine de 12 ?_
  refine cl [0,9,10,11] ?_
  repeat apply aA
  apply aB
  refine v1 (hc:=pS.h {}) ?_
  refine v0 ?_
  apply aC
  refine dN [0,9,10,11] (h:=?_) (hV:=?_) (n':=mz - 1)
  ·omega
  first
  |exact ⟨0+1,by omega,by omega,sgE rfl (by rw [rB (by omega),Nat.zero_add,aDn hp];rfl)⟩
  |exact ⟨i+1,by omega,by omega,sgE rfl (by rw [rB (by omega),←List.nil_append (jn ps (i+1)),←fX [] hp,List.nil_append,←hz];rfl)⟩
 replace hb1:=hB.h {} hb1
 repeat apply aA
 refine bY ?_
 repeat (first|refine bI ?_|refine aY ?_|refine bC ?_|refine bJ rfl ?_)
 refine cl [0] ?_
 repeat apply aA
 obtain rfl:i=ps.length:=by omega
 apply aB
 iterate 3 refine v0 ?_
 refine oc0 [(0,0),(1,3000)] [] [0,0] none (spec:=tP (jn ps ps.length) 10 (by have:=fE hps ps.length;omega)) (hent:=tO) ?_
 apply aC
 try refine bP ?_
 refine cW ?_
 refine fh0 [0,3000] ?_
 rw [fM]
end
section
open Go.Gh
structure aDo (c:Prop):Prop where
 h:c:=by (first|exact True.intro|omega|omega|(simp only [inI];omega)|(simp [P.size,bU,bG,bR,bB,cS,good,G.one,P.one,P.cells]<;>first|omega|assumption|simp_all))
structure nB where
 x:Int×Int
 y:Int×Int
 kn:Bool
 e:Int×Int
 n:Int×Int
structure Plt where
 sc:Int×Int
 st:List nB
def eE (s:nB):P:=.agg [.int .i64 s.x.1,.int .i64 s.x.2,.int .i64 s.y.1,.int .i64 s.y.2,.bool s.kn,.int .i64 s.e.1,.int .i64 s.e.2,.int .i64 s.n.1,.int .i64 s.n.2]
def gC (p:Plt):P:=.agg [.int .i64 p.sc.1,.int .i64 p.sc.2,.list (p.st.map eE)]
def oM (s:nB):List Pt:=if s.kn then [.w [115,116,97,114],.sp s.x.1 s.x.2,.sp s.y.1 s.y.2,.w [107,110,111,119,110],.sp s.e.1 s.e.2,.sp s.n.1 s.n.2] else [.w [115,116,97,114],.sp s.x.1 s.x.2,.sp s.y.1 s.y.2]
def aAl (p:Plt):List Pt:=[.w [112,108,97,116,101],.sp p.sc.1 p.sc.2]
def hQ (p:Plt):List (List Pt):=aAl p::p.st.map oM
def txt (ls:List (List Pt)):Str:=ls.flatMap fM
def okL (ls:List (List Pt)):Prop:=∀l∈ls,(∀p∈l,p.ok)∧0<l.length∧l.length≤10
theorem aHI {ps:List Pt} (h:(∀p∈ps,p.ok)∧0<ps.length∧ps.length≤10):(fM ps).length≤1011:=by
 have:=fE h.1 ps.length
 simp only [fM,List.length_append,List.length_cons,List.length_nil];omega
theorem aGz:∀ {ls:List (List Pt)},okL ls→(txt ls).length≤1011*ls.length
 |[],_=>by simp [txt]
 |l::ls,h=>by
  have h1:=aHI (h l (List.mem_cons_self ..))
  have h2:=aGz (ls:=ls) fun x hx=>h x (List.mem_cons_of_mem _ hx)
  simp only [txt,List.flatMap_cons,List.length_append,List.length_cons] at h2 ⊢
  omega
theorem aLC (l:List Pt):txt [l]=fM l:=by simp [txt]
theorem oN {ls:List (List Pt)} {k:Nat} {l:List Pt} (h:ls[k]? = some l):txt (ls.take k)++fM l=txt (ls.take (k+1)):=by
 have:ls.take (k+1)=ls.take k++[l]:=by rw [List.take_add_one,h];rfl
 rw [this];simp [txt]
theorem oO {ls:List (List Pt)} (h:okL ls) (k:Nat):(txt (ls.take k)).length≤1011*ls.length:=by
 have:=aGz (ls:=ls.take k) fun x hx=>h x (List.mem_of_mem_take hx)
 have:=List.length_take_le k ls
 have:1011*(ls.take k).length≤1011*ls.length:=Nat.mul_le_mul_left _ (by simp [List.length_take];omega)
 omega
theorem aNs:aJ Tryz.prog 112:=aJ.mk Tryz.func112 (by kernel_rfl) rfl
theorem aFB {E:Env Tryz.prog} {A:E.α} (p:Plt) (hp:okL (hQ p)) (hn:p.st.length≤100):Gh.bD E 112 [.ref 0 0,.p (gC p)] (aG [(0,.tcells 158 [.p .nilptr,.nils])]) A (fun y=>y = .ok (.p (.tuple [])) (aG [(0,.cells [.ref 0 0,.own 3000 (txt (hQ p)).length] 0),(3000,.arr 5 1 (u8s (txt (hQ p))) false)]) A):=by
 refine spX 50 Tryz.func112 rfl ?_
 intro C hN hL
 simp only [Gh.num,List.map_cons,List.map_nil,Nat.reduceAdd]
 unfold gC
 have hps:∀s:nB,eE s = .agg [.int .i64 s.x.1,.int .i64 s.x.2,.int .i64 s.y.1,.int .i64 s.y.2,.bool s.kn,.int .i64 s.e.1,.int .i64 s.e.2,.int .i64 s.n.1,.int .i64 s.n.2]:=fun _=>rfl
 have h1:=hp (aAl p) (List.mem_cons_self ..)
 have hpl:(hQ p).length=p.st.length+1:=by simp [hQ]
 repeat apply aA
 apply aB
 refine n1 130 false (hc:=aDo.h {}) ?_
 apply aC
 refine cl [0,3] ?_
 repeat apply aA
 apply aB
 iterate 5 refine v0 ?_
 refine n1 210 false (hc:=aDo.h {}) ?_
 refine oc0 [(0,0),(3000,3000)] [210] [0,1] none (spec:=aBl (aAl p) h1.2.1 h1.1 h1.2.2) (hent:=vC) ?_
 apply aC
 refine cl [0,3] ?_
 repeat apply aA
 apply aB
 iterate 4 refine v0 ?_
 apply aC
 refine cl [0,14,15,16] ?_
 repeat apply aA
 refine aP ?_
 repeat apply aA
 refine cJ (fun mz σ=>∃k:Nat,(k≤p.st.length)∧mz=p.st.length - k∧σ=(sg [(0,.ref 0 0),(14,.p (.list (p.st.map eE))),(15,.p (.int .i64 (p.st.length:Nat))),(16,.p (.int .i64 (k:Nat)))] [(0,.cells [.ref 0 0,.own 3000 (txt ((hQ p).take (k+1))).length] 0),(3000,.arr 5 1 (u8s (txt ((hQ p).take (k+1)))) false)] A []:Sg E)) ?_ (fun mz σ hI=>?_)
 ·refine gA [0,14,15,16] ?_
  exact ⟨_,0,by omega,rfl,sgE (by simp) (by simp [txt,hQ])⟩
 obtain ⟨k,hk,hnn,rfl⟩:=hI
 repeat apply aA
 apply aB
 refine v0 ?_
 apply aC
 repeat apply aA
 refine cB (k1:=fun hb1=>?_) (k0:=fun hb1=>?_)
 ·replace hb1:=hB.h {} hb1
  repeat apply aA
  refine aQ ?_
  refine cl [0,14,15,16] ?_
  repeat apply aA
  refine aP ?_
  repeat apply aA
  obtain ⟨s,hs⟩:=fT (l:=p.st) (k:=k) (by omega)
  have hl:(hQ p)[k+1]? = some (oM s):=by simp only [hQ,List.getElem?_cons_succ,List.getElem?_map,hs,Option.map_some]
  have hol:=hp _ (List.mem_of_getElem? hl)
  apply aB
  refine v1 (hc:=aDo.h {}) ?_
  refine v0 ?_
  refine n1 150 false (hc:=aDo.h {}) ?_
  refine s1 (hc:=aDo.h {}) ?_
  apply aC
  refine cl [0,5,14,15,16] ?_
  repeat apply aA
  apply aB
  iterate 2 refine v0 ?_
  apply aC
  repeat apply aA
  refine cB (k1:=fun hb2=>?_) (k0:=fun hb2=>?_)
  ·replace hb2:=hB.h {} hb2
   repeat apply aA
   have hsl:oM s=[.w [115,116,97,114],.sp s.x.1 s.x.2,.sp s.y.1 s.y.2,.w [107,110,111,119,110],.sp s.e.1 s.e.2,.sp s.n.1 s.n.2]:=if_pos (by assumption)
   rw [hsl] at hol
   apply aB
   iterate 15 refine v0 ?_
   refine n1 470 false (hc:=aDo.h {}) ?_
   refine oc0 [(0,0),(1,3000)] [470] [0,1] none (spec:=oL (txt ((hQ p).take (k+1))) [.w [115,116,97,114],.sp s.x.1 s.x.2,.sp s.y.1 s.y.2,.w [107,110,111,119,110],.sp s.e.1 s.e.2,.sp s.n.1 s.n.2] (by have:=oO hp (k+1);rw [hpl] at this;omega) hol.1 hol.2.2) (hent:=vC) ?_
   apply aC
   refine cl [0,14,15,16] ?_
   repeat apply aA
   apply aB
   refine v1 (hc:=aDo.h {}) ?_
   refine v0 ?_
   apply aC
   refine dN [0,14,15,16] (h:=?_) (hV:=?_) (n':=p.st.length - (k+1))
   ·omega
   exact ⟨k+1,by omega,rfl,sgE rfl (by rw [←oN hl,hsl])⟩
  replace hb2:=hB.h {} hb2
  repeat apply aA
  have hsl:oM s=[.w [115,116,97,114],.sp s.x.1 s.x.2,.sp s.y.1 s.y.2]:=if_neg (by simp_all)
  rw [hsl] at hol
  apply aB
  iterate 8 refine v0 ?_
  refine n1 570 false (hc:=aDo.h {}) ?_
  refine oc0 [(0,0),(1,3000)] [570] [0,1] none (spec:=oL (txt ((hQ p).take (k+1))) [.w [115,116,97,114],.sp s.x.1 s.x.2,.sp s.y.1 s.y.2] (by have:=oO hp (k+1);rw [hpl] at this;omega) hol.1 hol.2.2) (hent:=vC) ?_
  apply aC
  refine cl [0,14,15,16] ?_
  repeat apply aA
  apply aB
  refine v1 (hc:=aDo.h {}) ?_
  refine v0 ?_
  apply aC
  refine dN [0,14,15,16] (h:=?_) (hV:=?_) (n':=p.st.length - (k+1))
  ·omega
  exact ⟨k+1,by omega,rfl,sgE rfl (by rw [←oN hl,hsl])⟩
 replace hb1:=hB.h {} hb1
 repeat apply aA
 refine bY ?_
 repeat (first|refine bI ?_|refine aY ?_|refine bC ?_|refine bJ rfl ?_)
 try refine bP ?_
 refine cW ?_
 obtain rfl:k=p.st.length:=by omega
 refine fh0 [0,3000] ?_
 rw [List.take_of_length_le (by simp [hQ])]
end
section
open Go.Gh
structure jJ (c:Prop):Prop where
 h:c:=by (first|exact True.intro|omega|(simp [P.size]<;>first|omega|(intro x a b _ h;subst h;rfl)|(intro x a b d _ h;subst h;rfl)|(intro a _;rfl))|(simp [P.size];exact ⟨by omega,fun a _=>rfl⟩)|omega|(simp only [inI];omega)|(simp [P.size,bU,bG,bR,bB,cS,good,G.one,P.one,P.cells]<;>first|omega|assumption|simp_all))
structure aOT (c:Prop):Prop where
 h:c:=by (first|exact True.intro|omega|(simp only [inI];omega)|(simp [P.size,bU,bG,bR,bB,cS,good,G.one,P.one,P.cells]<;>first|omega|assumption|simp_all))
structure Chn where
 pl:Int
 ps:Int
 kn:List (Int×Int)
 rs:List (Int×Int×Int)
 ms:Int
structure Stg where
 im:Int
 rd:Int
 rv:Bool
structure Msr where
 im:Int
 su:Int×Int
 ey:Int×Int
 er:List (Int×Int)
 se:List Stg
def pSp (k:Int×Int):P:=.agg [.int .i64 k.1,.int .i64 k.2]
def pRc (r:Int×Int×Int):P:=.agg [.int .i64 r.1,.int .i64 r.2.1,.int .i64 r.2.2]
def fK (s:Stg):P:=.agg [.int .i64 s.im,.int .i64 s.rd,.bool s.rv]
def gD (c:Chn):P:=.agg [.int .i64 c.pl,.int .i64 c.ps,.list (c.kn.map pSp),.list (c.rs.map pRc),.int .i64 c.ms]
def gE (m:Msr):P:=.agg [.list (m.er.map pSp),.int .i64 m.ey.1,.int .i64 m.ey.2,.int .i64 m.im,.int .i64 m.su.1,.int .i64 m.su.2,.list (m.se.map fK)]
def aAm (c:Chn):List Pt:=[.w [99,104,97,105,110],.n c.pl,.n c.ps,.n c.ms]
def knL (k:Int×Int):List Pt:=[.w [107,110,111,119,115],.n k.1,.n k.2]
def rcL (r:Int×Int×Int):List Pt:=[.w [108,111,97,110],.n r.1,.n r.2.1,.n r.2.2]
def gQ (c:Chn):List (List Pt):=aAm c::(c.kn.map knL++c.rs.map rcL)
def aAn (m:Msr):List Pt:=[.w [109,101,97,115,117,114,101],.n m.im,.sp m.su.1 m.su.2,.sp m.ey.1 m.ey.2]
def erL (e:Int×Int):List Pt:=[.w [116,117,114,110],.sp e.1 e.2]
def aLD (b:Bool):Str:=if b then [114,101,118,101,114,115,101,100] else [112,108,97,105,110]
def seL (s:Stg):List Pt:=[.w (aLD s.rv),.n s.im,.n s.rd]
def gL (m:Msr):List (List Pt):=aAn m::(m.er.map erL++m.se.map seL)
theorem aMb {α β γ:Type} {f:α→γ} {g:β→γ} {h:γ} {xs:List α} {ys:List β} {k:Nat} {a:α} (e:xs[k]? = some a):(h::(xs.map f++ys.map g))[k+1]? = some (f a):=by
 have:=List.getElem?_eq_some_iff.1 e
 rw [List.getElem?_cons_succ,List.getElem?_append_left (by rw [List.length_map];exact this.1),List.getElem?_map,e];rfl
theorem aMc {α β γ:Type} {f:α→γ} {g:β→γ} {h:γ} {xs:List α} {ys:List β} {k:Nat} {b:β} (e:ys[k]? = some b):(h::(xs.map f++ys.map g))[xs.length+k+1]? = some (g b):=by
 rw [List.getElem?_cons_succ,List.getElem?_append_right (by rw [List.length_map];omega),List.length_map,Nat.add_sub_cancel_left,List.getElem?_map,e];rfl
theorem aNt:aJ Tryz.prog 120:=aJ.mk Tryz.func120 (by kernel_rfl) rfl
theorem aFC {E:Env Tryz.prog} {A:E.α} (c:Chn) (hp:okL (gQ c)) (hn:c.kn.length≤200) (hn2:c.rs.length≤200):Gh.bD E 120 [.ref 0 0,.p (gD c)] (aG [(0,.tcells 158 [.p .nilptr,.nils])]) A (fun y=>y = .ok (.p (.tuple [])) (aG [(0,.cells [.ref 0 0,.own 3000 (txt (gQ c)).length] 0),(3000,.arr 5 1 (u8s (txt (gQ c))) false)]) A):=by
 refine spX 60 Tryz.func120 rfl ?_
 intro C hN hL
 simp only [Gh.num,List.map_cons,List.map_nil,Nat.reduceAdd]
 unfold gD
 have hpsp:∀s:Int×Int,pSp s = .agg [.int .i64 s.1,.int .i64 s.2]:=fun _=>rfl
 have hprc:∀s:Int×Int×Int,pRc s = .agg [.int .i64 s.1,.int .i64 s.2.1,.int .i64 s.2.2]:=fun _=>rfl
 have h1:=hp (aAm c) (List.mem_cons_self ..)
 have hpl:(gQ c).length=c.kn.length+c.rs.length+1:=by simp [gQ]
 repeat apply aA
 apply aB
 refine n1 130 false (hc:=jJ.h {}) ?_
 apply aC
 refine cl [0,3] ?_
 repeat apply aA
 apply aB
 iterate 11 refine v0 ?_
 refine n1 290 false (hc:=jJ.h {}) ?_
 refine oc0 [(0,0),(3000,3000)] [290] [0,1] none (spec:=aBl (aAm c) h1.2.1 h1.1 h1.2.2) (hent:=vC) ?_
 apply aC
 refine cl [0,3] ?_
 repeat apply aA
 apply aB
 iterate 4 refine v0 ?_
 apply aC
 refine cl [0,3,22,23,24] ?_
 repeat apply aA
 refine aP ?_
 repeat apply aA
 refine cJ (fun mz σ=>∃k:Nat,(k≤c.kn.length)∧mz=c.kn.length - k∧σ=(sg [(0,.ref 0 0),(3,.ref 130 0),(22,.p (.list (c.kn.map pSp))),(23,.p (.int .i64 (c.kn.length:Nat))),(24,.p (.int .i64 (k:Nat)))] [(0,.cells [.ref 0 0,.own 3000 (txt ((gQ c).take (k+1))).length] 0),(130,.cells [.p (.int .i64 c.pl),.p (.int .i64 c.ps),.p (.list (c.kn.map pSp)),.p (.list (c.rs.map pRc)),.p (.int .i64 c.ms)] 0),(3000,.arr 5 1 (u8s (txt ((gQ c).take (k+1)))) false)] A []:Sg E)) ?_ (fun mz σ hI=>?_)
 ·refine gA [0,3,22,23,24] ?_
  exact ⟨_,0,by omega,rfl,sgE (by simp) (by simp [txt,gQ])⟩
 obtain ⟨k,hk,hnn,rfl⟩:=hI
 repeat apply aA
 apply aB
 refine v0 ?_
 apply aC
 repeat apply aA
 refine cB (k1:=fun hb1=>?_) (k0:=fun hb1=>?_)
 ·replace hb1:=hB.h {} hb1
  repeat apply aA
  refine aQ ?_
  refine cl [0,3,22,23,24] ?_
  repeat apply aA
  refine aP ?_
  repeat apply aA
  obtain ⟨x,hx⟩:=fT (l:=c.kn) (k:=k) (by omega)
  have hl:(gQ c)[k+1]? = some (knL x):=aMb hx
  have hol:=hp _ (List.mem_of_getElem? hl)
  apply aB
  refine v1 (hc:=jJ.h {}) ?_
  refine v0 ?_
  refine n1 150 false (hc:=jJ.h {}) ?_
  refine s1 (hc:=jJ.h {}) ?_
  apply aC
  refine cl [0,3,5,22,23,24] ?_
  repeat apply aA
  apply aB
  iterate 2 refine v0 ?_
  refine v1 (hc:=jJ.h {}) ?_
  iterate 2 refine v0 ?_
  refine v1 (hc:=jJ.h {}) ?_
  iterate 2 refine v0 ?_
  refine n1 460 false (hc:=jJ.h {}) ?_
  refine oc0 [(0,0),(1,3000)] [460] [0,1] none (spec:=oL (txt ((gQ c).take (k+1))) _ (by have:=oO hp (k+1);rw [hpl] at this;omega) hol.1 hol.2.2) (hent:=vC) ?_
  apply aC
  refine cl [0,3,22,23,24] ?_
  repeat apply aA
  apply aB
  refine v1 (hc:=jJ.h {}) ?_
  refine v0 ?_
  apply aC
  refine dN [0,3,22,23,24] (h:=?_) (hV:=?_) (n':=c.kn.length - (k+1))
  ·omega
  exact ⟨k+1,by omega,rfl,sgE rfl (by rw [←oN hl])⟩
 replace hb1:=hB.h {} hb1
 repeat apply aA
 refine bY ?_
 repeat (first|refine bI ?_|refine aY ?_|refine bC ?_|refine bJ rfl ?_)
 refine cl [0,3] ?_
 repeat apply aA
 apply aB
 iterate 4 refine v0 ?_
 apply aC
 refine cl [0,40,41,42] ?_
 repeat apply aA
 refine aP ?_
 repeat apply aA
 refine cJ (fun mz σ=>∃k:Nat,(k≤c.rs.length)∧mz=c.rs.length - k∧σ=(sg [(0,.ref 0 0),(40,.p (.list (c.rs.map pRc))),(41,.p (.int .i64 (c.rs.length:Nat))),(42,.p (.int .i64 (k:Nat)))] [(0,.cells [.ref 0 0,.own 3000 (txt ((gQ c).take (c.kn.length+k+1))).length] 0),(3000,.arr 5 1 (u8s (txt ((gQ c).take (c.kn.length+k+1)))) false)] A []:Sg E)) ?_ (fun mz σ hI=>?_)
 ·refine gA [0,40,41,42] ?_
  obtain rfl:k=c.kn.length:=by omega
  exact ⟨_,0,by omega,rfl,sgE (by simp) rfl⟩
 obtain ⟨k,hk,hnn,rfl⟩:=hI
 repeat apply aA
 apply aB
 refine v0 ?_
 apply aC
 repeat apply aA
 refine cB (k1:=fun hb2=>?_) (k0:=fun hb2=>?_)
 ·replace hb2:=hB.h {} hb2
  repeat apply aA
  refine aQ ?_
  refine cl [0,40,41,42] ?_
  repeat apply aA
  refine aP ?_
  repeat apply aA
  obtain ⟨x,hx⟩:=fT (l:=c.rs) (k:=k) (by omega)
  have hl:(gQ c)[c.kn.length+k+1]? = some (rcL x):=aMc hx
  have hol:=hp _ (List.mem_of_getElem? hl)
  apply aB
  refine v1 (hc:=jJ.h {}) ?_
  refine v0 ?_
  refine n1 170 false (hc:=jJ.h {}) ?_
  refine s1 (hc:=jJ.h {}) ?_
  apply aC
  refine cl [0,7,40,41,42] ?_
  repeat apply aA
  apply aB
  iterate 11 refine v0 ?_
  refine n1 670 false (hc:=jJ.h {}) ?_
  refine oc0 [(0,0),(1,3000)] [670] [0,1] none (spec:=oL (txt ((gQ c).take (c.kn.length+k+1))) _ (by have:=oO hp (c.kn.length+k+1);rw [hpl] at this;omega) hol.1 hol.2.2) (hent:=vC) ?_
  apply aC
  refine cl [0,40,41,42] ?_
  repeat apply aA
  apply aB
  refine v1 (hc:=jJ.h {}) ?_
  refine v0 ?_
  apply aC
  refine dN [0,40,41,42] (h:=?_) (hV:=?_) (n':=c.rs.length - (k+1))
  ·omega
  exact ⟨k+1,by omega,rfl,sgE rfl (by rw [←Nat.add_assoc,←oN hl])⟩
 replace hb2:=hB.h {} hb2
 repeat apply aA
 refine bY ?_
 repeat (first|refine bI ?_|refine aY ?_|refine bC ?_|refine bJ rfl ?_)
 try refine bP ?_
 refine cW ?_
 obtain rfl:k=c.rs.length:=by omega
 refine fh0 [0,3000] ?_
 rw [List.take_of_length_le (by omega)]
theorem aJF:aJ Tryz.prog 97:=aJ.mk Tryz.func97 (by kernel_rfl) rfl
theorem aFD  : bF Tryz.prog 97 [] (.ok (.agg [.str [112,108,97,105,110],.str [114,101,118,101,114,115,101,100]])):=by
 refine bL Tryz.func97 (rfl:Tryz.f97.body=some _) rfl ?_
 intro E A C hN hL
 replace hN:C.N=2:=hN
 simp only [Gh.num,List.map_cons,List.map_nil,Nat.reduceAdd]
 repeat apply aA
 apply aB
 refine n1 100 false (hc:=aOT.h {}) ?_
 apply aC
 refine cl [0] ?_
 repeat apply aA
 apply aB
 refine v0 ?_
 refine s1 (hc:=aOT.h {}) ?_
 apply aC
 repeat apply aA
 refine aL ?_
 repeat (first|refine aH ?_|refine aE ?_|refine aD ?_)
 refine aM ?_
 refine fp ?_
 rfl
theorem aOU:aJ Tryz.prog 95:=aJ.mk Tryz.func95 (by kernel_rfl) rfl
theorem aFE {E:Env Tryz.prog} {A:E.α} (m:Msr) (hp:okL (gL m)) (hn:m.er.length≤200) (hn2:m.se.length≤200):Gh.bD E 95 [.ref 0 0,.p (gE m)] (aG [(0,.tcells 158 [.p .nilptr,.nils])]) A (fun y=>y = .ok (.p (.tuple [])) (aG [(0,.cells [.ref 0 0,.own 3000 (txt (gL m)).length] 0),(3000,.arr 5 1 (u8s (txt (gL m))) false)]) A):=by
 refine spX 64 Tryz.func95 rfl ?_
 intro C hN hL
 simp only [Gh.num,List.map_cons,List.map_nil,Nat.reduceAdd]
 unfold gE
 have hpsp:∀s:Int×Int,pSp s = .agg [.int .i64 s.1,.int .i64 s.2]:=fun _=>rfl
 have hpsg:∀s:Stg,fK s = .agg [.int .i64 s.im,.int .i64 s.rd,.bool s.rv]:=fun _=>rfl
 have h1:=hp (aAn m) (List.mem_cons_self ..)
 have hpl:(gL m).length=m.er.length+m.se.length+1:=by simp [gL]
 repeat apply aA
 apply aB
 refine n1 130 false (hc:=jJ.h {}) ?_
 apply aC
 refine cl [0,3] ?_
 repeat apply aA
 apply aB
 iterate 3 refine v0 ?_
 apply aC
 refine cl [0,3,4] ?_
 repeat apply aA
 apply aB
 iterate 12 refine v0 ?_
 refine n1 340 false (hc:=jJ.h {}) ?_
 refine oc0 [(0,0),(3000,3000)] [340] [0,1] none (spec:=aBl (aAn m) h1.2.1 h1.1 h1.2.2) (hent:=vC) ?_
 apply aC
 refine cl [0,3,4] ?_
 repeat apply aA
 apply aB
 iterate 5 refine v0 ?_
 apply aC
 refine cl [0,3,4,28,29,30] ?_
 repeat apply aA
 refine aP ?_
 repeat apply aA
 refine cJ (fun mz σ=>∃k:Nat,(k≤m.er.length)∧mz=m.er.length - k∧σ=(sg [(0,.ref 0 0),(3,.ref 130 0),(4,.fn (.func 96) [.ref 0 0] []),(28,.p (.list (m.er.map pSp))),(29,.p (.int .i64 (m.er.length:Nat))),(30,.p (.int .i64 (k:Nat)))] [(0,.cells [.ref 0 0,.own 3000 (txt ((gL m).take (k+1))).length] 0),(130,.cells [.p (.list (m.er.map pSp)),.p (.int .i64 m.ey.1),.p (.int .i64 m.ey.2),.p (.int .i64 m.im),.p (.int .i64 m.su.1),.p (.int .i64 m.su.2),.p (.list (m.se.map fK))] 0),(3000,.arr 5 1 (u8s (txt ((gL m).take (k+1)))) false)] A []:Sg E)) ?_ (fun mz σ hI=>?_)
 ·refine gA [0,3,4,28,29,30] ?_
  exact ⟨_,0,by omega,rfl,sgE (by simp) (by simp [txt,gL])⟩
 obtain ⟨k,hk,hnn,rfl⟩:=hI
 repeat apply aA
 apply aB
 refine v0 ?_
 apply aC
 repeat apply aA
 refine cB (k1:=fun hb1=>?_) (k0:=fun hb1=>?_)
 ·replace hb1:=hB.h {} hb1
  repeat apply aA
  refine aQ ?_
  refine cl [0,3,4,28,29,30] ?_
  repeat apply aA
  refine aP ?_
  repeat apply aA
  obtain ⟨x,hx⟩:=fT (l:=m.er) (k:=k) (by omega)
  have hl:(gL m)[k+1]? = some (erL x):=aMb hx
  have hol:=hp _ (List.mem_of_getElem? hl)
  apply aB
  refine v1 (hc:=jJ.h {}) ?_
  refine v0 ?_
  refine n1 160 false (hc:=jJ.h {}) ?_
  refine s1 (hc:=jJ.h {}) ?_
  apply aC
  refine cl [0,3,4,6,28,29,30] ?_
  repeat apply aA
  apply aB
  iterate 4 refine v0 ?_
  refine n1 480 false (hc:=jJ.h {}) ?_
  refine oc0 [(0,0),(1,3000)] [480] [0,1] none (spec:=oL (txt ((gL m).take (k+1))) _ (by have:=oO hp (k+1);rw [hpl] at this;omega) hol.1 hol.2.2) (hent:=vC) ?_
  apply aC
  refine cl [0,3,4,28,29,30] ?_
  repeat apply aA
  apply aB
  refine v1 (hc:=jJ.h {}) ?_
  refine v0 ?_
  apply aC
  refine dN [0,3,4,28,29,30] (h:=?_) (hV:=?_) (n':=m.er.length - (k+1))
  ·omega
  exact ⟨k+1,by omega,rfl,sgE rfl (by rw [←oN hl])⟩
 replace hb1:=hB.h {} hb1
 repeat apply aA
 refine bY ?_
 repeat (first|refine bI ?_|refine aY ?_|refine bC ?_|refine bJ rfl ?_)
 refine cl [0,3,4] ?_
 repeat apply aA
 apply aB
 iterate 4 refine v0 ?_
 apply aC
 refine cl [0,4,42,43,44] ?_
 repeat apply aA
 refine aP ?_
 repeat apply aA
 refine cJ (fun mz σ=>∃k:Nat,(k≤m.se.length)∧mz=m.se.length - k∧σ=(sg [(0,.ref 0 0),(4,.fn (.func 96) [.ref 0 0] []),(42,.p (.list (m.se.map fK))),(43,.p (.int .i64 (m.se.length:Nat))),(44,.p (.int .i64 (k:Nat)))] [(0,.cells [.ref 0 0,.own 3000 (txt ((gL m).take (m.er.length+k+1))).length] 0),(3000,.arr 5 1 (u8s (txt ((gL m).take (m.er.length+k+1)))) false)] A []:Sg E)) ?_ (fun mz σ hI=>?_)
 ·refine gA [0,4,42,43,44] ?_
  obtain rfl:k=m.er.length:=by omega
  exact ⟨_,0,by omega,rfl,sgE (by simp) rfl⟩
 obtain ⟨k,hk,hnn,rfl⟩:=hI
 repeat apply aA
 apply aB
 refine v0 ?_
 apply aC
 repeat apply aA
 refine cB (k1:=fun hb2=>?_) (k0:=fun hb2=>?_)
 ·replace hb2:=hB.h {} hb2
  repeat apply aA
  refine aQ ?_
  refine cl [0,4,42,43,44] ?_
  repeat apply aA
  refine aP ?_
  repeat apply aA
  obtain ⟨x,hx⟩:=fT (l:=m.se) (k:=k) (by omega)
  have hl:(gL m)[m.er.length+k+1]? = some (seL x):=aMc hx
  have hol:=hp _ (List.mem_of_getElem? hl)
  apply aB
  refine v1 (hc:=jJ.h {}) ?_
  refine v0 ?_
  refine n1 180 false (hc:=jJ.h {}) ?_
  refine s1 (hc:=jJ.h {}) ?_
  apply aC
  refine cl [0,4,8,42,43,44] ?_
  repeat apply aA
  apply aB
  refine v0 ?_
  apply aC
  refine cl [0,4,8,9,42,43,44] ?_
  repeat apply aA
  apply aB
  iterate 2 refine v0 ?_
  apply aC
  repeat apply aA
  refine cB (k1:=fun hb3=>?_) (k0:=fun hb3=>?_)
  ·replace hb3:=hB.h {} hb3
   repeat apply aA
   apply aB
   refine v0 ?_
   apply aC
   refine cl [0,4,8,9,42,43,44] ?_
   repeat apply aA
   first|(have hv:x.rv=true:=by assumption)|(have hv:x.rv=false:=by assumption)
   obtain ⟨xi,xr,xv⟩:=x
   simp only at hv
   subst hv
   refine rd ?_
   refine d0 0 ?_
   refine oY 1 (spec:=aFD) (hent:=aJF) ?_
   refine d0 2 ?_
   refine d1 3 (hc:=jJ.h {}) ?_
   refine d0 4 ?_
   refine d0 5 ?_
   refine d0 6 ?_
   refine d0 7 ?_
   refine d0 8 ?_
   refine d0 9 ?_
   refine d0 10 ?_
   refine dn1 11 710 false (hc:=jJ.h {}) ?_
   refine dW 12 [(0,0),(1,3000)] [710] [0,1] none (spec:=oL (txt ((gL m).take (m.er.length+k+1))) _ (by have:=oO hp (m.er.length+k+1);rw [hpl] at this;omega) hol.1 hol.2.2) (hent:=vC) ?_
   refine dz 13 [0,0,0,6,14,0,32,96,0,256,768,2046,4095] ?_
   refine de 13 ?_
   refine cl [0,4,42,43,44] ?_
   repeat apply aA
   apply aB
   refine v1 (hc:=jJ.h {}) ?_
   refine v0 ?_
   apply aC
   refine dN [0,4,42,43,44] (h:=?_) (hV:=?_) (n':=m.se.length - (k+1))
   ·omega
   exact ⟨k+1,by omega,rfl,sgE rfl (by rw [←Nat.add_assoc,←oN hl])⟩
  replace hb3:=hB.h {} hb3
  repeat apply aA
  refine aQ ?_
  refine cl [0,4,8,9,42,43,44] ?_
  repeat apply aA
  first|(have hv:x.rv=true:=by assumption)|(have hv:x.rv=false:=by assumption)
  obtain ⟨xi,xr,xv⟩:=x
  simp only at hv
  subst hv
  refine rd ?_
  refine d0 0 ?_
  refine oY 1 (spec:=aFD) (hent:=aJF) ?_
  refine d0 2 ?_
  refine d1 3 (hc:=jJ.h {}) ?_
  refine d0 4 ?_
  refine d0 5 ?_
  refine d0 6 ?_
  refine d0 7 ?_
  refine d0 8 ?_
  refine d0 9 ?_
  refine d0 10 ?_
  refine dn1 11 710 false (hc:=jJ.h {}) ?_
  refine dW 12 [(0,0),(1,3000)] [710] [0,1] none (spec:=oL (txt ((gL m).take (m.er.length+k+1))) _ (by have:=oO hp (m.er.length+k+1);rw [hpl] at this;omega) hol.1 hol.2.2) (hent:=vC) ?_
  refine dz 13 [0,0,0,6,14,0,32,96,0,256,768,2046,4095] ?_
  refine de 13 ?_
  refine cl [0,4,42,43,44] ?_
  repeat apply aA
  apply aB
  refine v1 (hc:=jJ.h {}) ?_
  refine v0 ?_
  apply aC
  refine dN [0,4,42,43,44] (h:=?_) (hV:=?_) (n':=m.se.length - (k+1))
  ·omega
  exact ⟨k+1,by omega,rfl,sgE rfl (by rw [←Nat.add_assoc,←oN hl])⟩
 replace hb2:=hB.h {} hb2
 repeat apply aA
 refine bY ?_
 repeat (first|refine bI ?_|refine aY ?_|refine bC ?_|refine bJ rfl ?_)
 try refine bP ?_
 refine cW ?_
 obtain rfl:k=m.se.length:=by omega
 refine fh0 [0,3000] ?_
 rw [List.take_of_length_le (by omega)]
end
section
open Go.Gh
theorem aGA {α:Type} {f:α→P} {Q:α→Prop}:∀ {xs:List P},(∀y∈xs,∃a,y=f a∧Q a)→∃l:List α,xs=l.map f∧∀a∈l,Q a
 |[],_=>⟨[],rfl,fun a h=>by simp at h⟩
 |x::xs,h=>by
  obtain ⟨l,rfl,hl⟩:=aGA (xs:=xs) fun y hy=>h y (List.mem_cons_of_mem _ hy)
  obtain ⟨a,rfl,ha⟩:=h x (by simp)
  exact ⟨a::l,rfl,fun b hb=>by
   rcases List.mem_cons.1 hb with rfl|hb
   ·exact ha
   exact hl b hb⟩
theorem aOV {n:Int} (h:(Lit.int .u8 n).wf=true):0≤n∧n≤255:=by
 simpa [Lit.wf,IntKind.min,IntKind.max,IntKind.signed,IntKind.bits] using h
theorem aNu {x:P} (h:aEi (false,[.str]) x):∃s,x = .str s∧s.length≤maxLen:=by
 simp only [aEi,dX,aBf] at h
 obtain ⟨_,_,e,⟨s,rfl,h1⟩,rfl⟩:=h
 simp at e;subst e
 exact ⟨s,rfl,h1⟩
theorem aNv {x:P} (h:aEi (false,[.list [.int .u8] false]) x):∃b:List UInt8,x = .list (u8s b)∧b.length≤maxLen:=by
 simp only [aEi,dX,aBf] at h
 obtain ⟨_,_,e,⟨xs,rfl,hl,hxs⟩,rfl⟩:=h
 simp at e;subst e
 obtain ⟨l,rfl,_⟩:=aGA (f:=fun b:UInt8=>P.int .u8 b.toNat) (Q:=fun _=>True) (xs:=xs) fun y hy=>by
  obtain ⟨cs,⟨_,_,rfl,⟨n,rfl,hn⟩,rfl⟩,_,h⟩:=hxs y hy
  have:=h trivial
  simp at this
  have hw:=aOV hn
  refine ⟨UInt8.ofNat n.toNat,?_,trivial⟩
  rw [←this]
  have:(UInt8.ofNat n.toNat).toNat=n.toNat:=by
   simp only [UInt8.toNat_ofNat']
   omega
  rw [this,Int.toNat_of_nonneg hw.1]
 exact ⟨l,rfl,by simpa using hl⟩
end
end Go.Proofs.YtecmhhpccmaeiaaGreatDoor
