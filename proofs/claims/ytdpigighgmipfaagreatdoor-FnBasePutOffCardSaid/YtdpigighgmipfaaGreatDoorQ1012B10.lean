/- Functions of the program: what each answers, and that the machine answers so. -/
import Derived.Test.YtdpigighgmipfaaGreatDoorQ1012B9
import Derived.Test.YtdpigighgmipfaaGreatDoorQ1012AU
import Derived.KernelRfl
set_option linter.all false
namespace Go.Proofs.YtdpigighgmipfaaGreatDoor
open Go Go.HL Tryz
attribute [local irreducible] W WO
def f1106_j1 (fu:Nat)(a1:Base)(q2:(List UInt8)×Rd)(q3:Int)(i4:Bool):Option (((List UInt8)×(List Set))×Rd):=cond i4 ((f125 fu q2.2).bind fun q5=>(f62 fu q5.2 q5.1).bind fun q6=>some ((q2.1,q6.1),q6.2)) ((f1102 fu q2.2 a1 q3).bind fun q7=>some ((q2.1,q7.1),q7.2))
def f1106 (fu:Nat)(a0:Rd)(a1:Base):Option (((List UInt8)×(List Set))×Rd):=(f96 fu a0 ([([116]:List UInt8),([117]:List UInt8),([118]:List UInt8),([116]:List UInt8),([117]:List UInt8)]:List (List UInt8))).bind fun q2=>(f1062 fu a1 q2.1).bind fun q3=>cond (decide (q3<0)) (f1106_j1 fu a1 q2 q3 true) ((f1019 fu a1).bind fun q8=>f1106_j1 fu a1 q2 q3 (!q8))
theorem n1106:Nm prog 106:=⟨_,_,func106,by kernel_rfl,z⟩
theorem c1106 (fu:Nat)(bp0:Nat)(a0:Rd)(a1:Base):Ctr prog 106 [isP bp0 0,tBase.va a1] [boxO bp0 tRd a0 []] (f1106 fu a0 a1) (fun q _=>[boxO bp0 tRd q.2 []]) (fun q=>tup [isS q.1.1,(tL tSet).va q.1.2]):=by
 refine .w func106 ntmps106 fun hf A w=>?_
 unfold f1106
 refine .s<|.box (T:=tBase) z z fun b1=>.a z z<|.assignNil tSet z<|.nil<|.s<|go ?_
 refine .call1 1 (c96 fu _ _ _) z n96 z z fun q2=>.an z z<|.s<|go ?_
 refine .call0 (c1062 fu _ _) n1062 z z fun q3=>.an z z<|.seq<|.seq<|.join1 (fun i4=>⟨[(0,isP bp0 0,none),(3,isP b1 0,none),(6,isS q2.1,none),(7,isI .i64 q3,none),(20,isB i4,none)],[boxO b1 tBase a1 [],boxO bp0 tRd q2.2 []]⟩) (fun i4=>f1106_j1 fu a1 q2 q3 i4) (fun i4=>?_) (fun hj1=>?_)
 ·refine .cd z ?_ ?_
  ·refine .s<|go ?_
   exact .call1 1 (c125 fu _ _) z n125 z z fun q5=>.call1 1 (c62 fu _ _ _) z n62 z z fun q6=>fr
  ·refine .skip<|.s<|go ?_
   exact .call1 1 (c1102 fu _ _ _ _) z n1102 z z fun q7=>fr
 ·refine .g<|go ?_
  refine .split 16 z (fun _=>?_) (fun _=>?_)
  ·exact fj (hj1 _)
  ·refine go ?_
   exact .call0 (c1019 fu _) n1019 z z fun q8=>fj (hj1 _)
def f1040 (fu:Nat)(a0:List Int):Option (Base×(List UInt8)×(List Set)):=(f60 fu a0).bind fun q2=>(f1050 fu q2).bind fun q4=>(f1106 fu q4.2 q4.1).bind fun q6=>some (q4.1,q6.1.1,q6.1.2)
theorem n1040:Nm prog 40:=⟨_,_,func40,by kernel_rfl,z⟩
theorem c1040 (fu:Nat)(a0:List Int):Ctr prog 40 [(tL (tI .u8)).va a0] [] (f1040 fu a0) (fun _ _=>[]) (fun q=>tup [tBase.va q.1,isS q.2.1,(tL tSet).va q.2.2]):=by
 refine .w func40 ntmps40 fun hf A w=>?_
 unfold f1040
 refine .s<|.alloc tBase d0_1026 [] z1026 z fun b1=>.a z z<|.assignNil tSet z<|.nil<|.s<|.m z z<|.callP (c60 fu _) n60 z z fun q2 b3=>.an z z<|.s<|.m z z<|.call1 0 (c1050 fu _ _) z n1050 z z fun q4=>.alloc tBase d0_1026 [] z1026 z fun b5=>go ?_
 refine .s<|go ?_
 exact .call1 1 (c1106 fu _ _ _) z n1106 z z fun q6=>fr
def f1107 (fu:Nat)(a0:Table)(a1:List Set):Option (Table×Int):=(f64 fu a0 a1).bind fun q3=>some (q3.1,q3.2)
theorem n1107:Nm prog 107:=⟨_,_,func107,by kernel_rfl,z⟩
theorem c1107 (fu:Nat)(a0:Table)(a1:List Set):Ctr prog 107 [tTable.va a0,isAt (tL tSet) a1] [] (f1107 fu a0 a1) (fun _ _=>[]) (fun q=>tup [tTable.va q.1,isI .i64 q.2]):=by
 refine .w func107 ntmps107 fun hf A w=>?_
 unfold f1107
 refine .s<|.box (T:=tTable) z z fun b1=>.alloc tTable d0_27 [] z27 z fun b2=>.an z z<|.s<|go ?_
 exact .call0 (c64 fu _ _) n64 z z fun q3=>fr
def f1041 (fu:Nat)(a0:Base)(a1:List UInt8)(a2:List Set):Option (Base×Int):=(f1103 fu a0 a1 (fun x0=>f1107 fu x0 a2)).bind fun q4=>some (q4.1,q4.2)
theorem n1041:Nm prog 41:=⟨_,_,func41,by kernel_rfl,z⟩
theorem c1041 (fu:Nat)(a0:Base)(a1:List UInt8)(a2:List Set):Ctr prog 41 [tBase.va a0,isS a1,(tL tSet).va a2] [] (f1041 fu a0 a1 a2) (fun _ _=>[]) (fun q=>tup [tBase.va q.1,isI .i64 q.2]):=by
 refine .w func41 ntmps41 fun hf A w=>?_
 unfold f1041
 exact .s<|.box (T:=tBase) z z fun b1=>.box (T:=(tL tSet)) z z fun b2=>.alloc tBase d0_1026 [] z1026 z fun b3=>.an z z<|.s<|.lp 2 (Fld.self _) z z ty1026 z<|.m z z<|.frzP 1 5 z z<|.makeF z z<|.call0 (c1103 fu _ _ (fun x0=>f1107 fu x0 a2) 107 [isAt (tL tSet) a2] n1107 (fun x0=>c1107 fu x0 a2)) n1103 z z fun q4=>fr
def f1042 (fu:Nat)(a0:Base)(a1:List UInt8)(a2:List Set):Option (Base×Int):=(f1019 fu a0).bind fun q3=>cond (!q3) (some ((⟨d0_1026.tabs,d0_1026.links⟩:Base),1)) ((f1059 fu a0).bind fun q4=>(f1109 fu q4 a1 a2).bind fun q5=>some (q5.1,q5.2))
theorem n1042:Nm prog 42:=⟨_,_,func42,by kernel_rfl,z⟩
theorem c1042 (fu:Nat)(a0:Base)(a1:List UInt8)(a2:List Set):Ctr prog 42 [tBase.va a0,isS a1,(tL tSet).va a2] [] (f1042 fu a0 a1 a2) (fun _ _=>[]) (fun q=>tup [tBase.va q.1,isI .i64 q.2]):=by
 refine .w func42 ntmps42 fun hf A w=>?_
 unfold f1042
 refine .s<|.box (T:=tBase) z z fun b1=>.alloc tBase d0_1026 [] z1026 z fun b2=>.an z z<|.seq<|.s<|go ?_
 refine .call0 (c1019 fu _) n1019 z z fun q3=>.not z z<|.nil<|.cd z ?_ ?_
 ·exact fr
 ·refine .skip<|.s<|go ?_
  refine .call0 (plain1026 (c1059 fu _)) n1059 z z fun q4=>go ?_
  exact .call0 (c1109 fu _ _ _) n1109 z z fun q5=>fr
end Go.Proofs.YtdpigighgmipfaaGreatDoor
